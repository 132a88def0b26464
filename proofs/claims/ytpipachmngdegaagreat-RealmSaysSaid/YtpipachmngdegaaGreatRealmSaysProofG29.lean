import Derived.Test.YtpipachmngdegaaGreatRealmSaysProofG17
import Derived.Test.YtpipachmngdegaaGreatRealmSaysProofG23
import Derived.Test.YtpipachmngdegaaGreatRealmSaysProofG26
import Derived.Test.YtpipachmngdegaaGreatRealmSaysProofG28
section
/-
  The walks of chapter 5: what is done with writs. The program's.
-/
namespace Go.Proofs.YtpipachmngdegaaGreat
open Go Go.RowKit
set_option linter.unusedVariables false
set_option linter.unusedSimpArgs false
set_option maxRecDepth 100000
set_option hygiene false
local macro:max "§0" : term => `([.int .i64 w0.ID, .int .i64 w0.Thing, .int .i64 w0.Rights, .int .i64 w0.Badge, .int .i64 w0.From])
local macro:max "§1" : term => `([.slice none 0 0, .slice none 0 0, .slice none 0 0, .slice none 0 0, .int .i64 0, .int .i64 0])
local macro:max "§2" : term => `([Res.ls v_rW (r.Writs : List Writ), Res.ls v_rT (r.Things : List Thing), Res.ls v_rH (r.Held : List Held), Res.ls v_rN (r.Notes : List Note)])
local macro:max "§3" : term => `((fun _ => Wd.row 0 rfl))
local macro:max "§4" : term => `((by assumption))
local macro:max "§5" : term => `([.int .i64 p.Holder, .int .i64 p.Slot])
local macro:max "§6" : term => `((by first | omega | (simp; omega)))
local macro:max "§7" : term => `([v_rW, v_rT, v_rH, v_rN, .int .i64 r.NextWrit, .int .i64 r.NextThing])
local macro:max "§8" : term => `((fun _ => Wd.pik [2, 3, 4, 6] [0, 1, 2, 3] rfl rfl rfl))
local macro:max "§9" : term => `((by first | omega | assumption | (simp; done) | (simp; omega)))
local macro:max "§10" : term => `((q.call eg_pr rfl rfl (fun w hw => cv (congrArg Value.bool h2) (H_pr w x1 (hw.updB 2 rfl)))))
local macro:max "§11" : term => `([.int .i64 0, .int .i64 0, .int .i64 0, .int .i64 0, .int .i64 0])
local macro:max "§12" : term => `((one_cons (Sl.one ((fun _ => Wd.fls 3 rfl) w hw)) (one_cons rfl (one_cons rfl one_nil))))
local macro:max "§13" : term => `((by (first | (rw [getR_bad §4]; first | done | rfl | omega) | (rw [getR_none §4 c1f]; first | done | rfl | omega) | (rw [getR_hit §4 c1f (List.getElem?_eq_getElem c1h)]; first | done | rfl | omega))))
local macro:max "§14" : term => `((q.call eg_pr rfl rfl (fun w hw => cv (congrArg Value.bool h2) (H_pr w x1 hw.ext))))
local macro:max "§15" : term => `((by (first | exact (idxOf_hit hx1 §4 HA).symm | exact (idxOf_miss §4 HA).symm)))
local macro:max "§16" : term => `((by (unfold freeR; first | (rw [if_pos §4, if_pos §4]; first | done | rfl | omega) | (rw [if_pos §4, if_neg §4]; first | done | rfl | omega) | (rw [if_neg §4]; first | done | rfl | omega))))
local macro:max "§17" : term => `((fun W x1 hW => H_pr W x1 ((hw.updB 1 rfl).trans ((Ext.upd hW).mono (by simp)))))
local macro:max "§18" : term => `((fun _ => Wd.pik [1] [] rfl rfl rfl))
local macro:max "§19" : term => `((by kernel_rfl))
local macro:max "§20" : term => `([.int .i64 ((r.Writs[c1j]).ID), .int .i64 ((r.Writs[c1j]).Thing), .int .i64 ((r.Writs[c1j]).Rights), .int .i64 ((r.Writs[c1j]).Badge), .int .i64 ((r.Writs[c1j]).From)])
local macro:max "§21" : term => `((q.lss rfl rfl (decide_eq_false (by omega))))
local macro:max "§22" : term => `((q.add (r := ((b + 1 : Nat) : Int)) rfl rfl (wr (by omega))))
local macro:max "§23" : term => `((by (first | exact HA.keep hx1 §4 | exact HA.skip hx1 §4)))
local macro:max "§24" : term => `((q.eql rfl rfl (beq_eq_false_iff_ne.2 (by omega))))
local macro:max "§25" : term => `((q.fld (off' := 2) rfl tFld_30_2 rfl))
local macro:max "§26" : term => `([Res.held w own])
local macro:max "§27" : term => `((fun k : Nat => [(0, v_l), (1, .func (.func g_pr) #[] c_pr.toArray), (7, .int .i64 (l.length : Int)), (8, .int .i64 (k : Int))]))
local macro:max "§28" : term => `((by (first | exact (beq_iff_eq.2 §4).symm | exact (beq_eq_false_iff_ne.2 §4).symm)))
local macro:max "§29" : term => `((q.lss rfl rfl (decide_eq_true (by omega))))
local macro:max "§30" : term => `((q.fld (off' := 0) rfl tFld_30_0 rfl))

theorem cloneWrit_any (v_l : Value) (l : List Writ) (w : World) (own : List Nat) (H : Wd w (blks [] ++ own) ([] ++ §26) [Res.ls v_l (l : List Writ)] w) (hl : l.length ≤ 1000000) : Calls Tryz.prog 44 #[v_l] w fun e w' => ∃ z : Value, e = .returned (z) ∧ Wd w (blks [] ++ own) ([Res.row 39 z (l : List Writ)] ++ §26) [] w' := by
  have m_l := H.lenF 0 rfl
  refine R.enterN (n := 8) (vs := [v_l]) (B := §26) [(0, v_l)] Tryz.func44 rfl rfl rfl rfl H ?_
  refine R.reg rfl <| R.u 1 rfl <| R.nil ?_
  refine R.reg rfl <| R.u 1 rfl <| ?_
  rcases Bool.eq_false_or_eq_true (snil v_l) with h1 | h1
  · refine R.q (q.cvb (congrArg Value.bool h1) (q.eqlSl (fun _ => Wd.fls 0 rfl) rfl rfl Tryz.underlying25)) rfl <| R.nil ?_
    refine R.condT rfl rfl ?_
    refine R.reg rfl <| R.u 1 rfl <| R.nil ?_
    refine R.row0 (α := Writ) 39 ?_
    have hz : l = [] := by (first | rfl | exact (List.nil_append _).symm | exact Sl.snil (H.fls 0 rfl) §4)
    rw [hz]
    exact R.w1 (.slice none 0 0) [0, 1] [] rfl Tryz.results44 (RV.tmp rfl) rfl rfl rfl rfl
  · refine R.q (q.cvb (congrArg Value.bool h1) (q.eqlSl (fun _ => Wd.fls 0 rfl) rfl rfl Tryz.underlying25)) rfl <| R.nil ?_
    refine R.condF rfl rfl ?_
    refine R.reg rfl <| ?_
    refine R.s rfl (s.bs (l := ([] : List Writ)) tSl_25 tZero_39 rfl rfl rfl rfl rfl rfl rfl) fun b1 => ?_
    refine R.u 1 rfl <| ?_
    refine R.s rfl (s.app (l2 := l) 0 _ rfl rfl rfl (fun _ => Wd.fls 0 rfl) tApp_25 (by simp; omega) (by simp; omega) (fun _ => rfl) rfl) fun v1 => ?_
    refine R.u 1 rfl <| R.nil ?_
    have hz : l = (([]) ++ l) := by (first | rfl | exact (List.nil_append _).symm | exact Sl.snil (H.fls 0 rfl) §4)
    rw [hz]
    exact R.w1 v1 [0, 1] [] rfl Tryz.results44 (RV.tmp rfl) rfl rfl rfl rfl

theorem cloneThing_any (v_l : Value) (l : List Thing) (w : World) (own : List Nat) (H : Wd w (blks [] ++ own) ([] ++ §26) [Res.ls v_l (l : List Thing)] w) (hl : l.length ≤ 1000000) : Calls Tryz.prog 45 #[v_l] w fun e w' => ∃ z : Value, e = .returned (z) ∧ Wd w (blks [] ++ own) ([Res.row 74 z (l : List Thing)] ++ §26) [] w' := by
  have m_l := H.lenF 0 rfl
  refine R.enterN (n := 8) (vs := [v_l]) (B := §26) [(0, v_l)] Tryz.func45 rfl rfl rfl rfl H ?_
  refine R.reg rfl <| R.u 1 rfl <| R.nil ?_
  refine R.reg rfl <| R.u 1 rfl <| ?_
  rcases Bool.eq_false_or_eq_true (snil v_l) with h1 | h1
  · refine R.q (q.cvb (congrArg Value.bool h1) (q.eqlSl (fun _ => Wd.fls 0 rfl) rfl rfl Tryz.underlying26)) rfl <| R.nil ?_
    refine R.condT rfl rfl ?_
    refine R.reg rfl <| R.u 1 rfl <| R.nil ?_
    refine R.row0 (α := Thing) 74 ?_
    have hz : l = [] := by (first | rfl | exact (List.nil_append _).symm | exact Sl.snil (H.fls 0 rfl) §4)
    rw [hz]
    exact R.w1 (.slice none 0 0) [0, 1] [] rfl Tryz.results45 (RV.tmp rfl) rfl rfl rfl rfl
  · refine R.q (q.cvb (congrArg Value.bool h1) (q.eqlSl (fun _ => Wd.fls 0 rfl) rfl rfl Tryz.underlying26)) rfl <| R.nil ?_
    refine R.condF rfl rfl ?_
    refine R.reg rfl <| ?_
    refine R.s rfl (s.bs (l := ([] : List Thing)) tSl_26 tZero_74 rfl rfl rfl rfl rfl rfl rfl) fun b1 => ?_
    refine R.u 1 rfl <| ?_
    refine R.s rfl (s.app (l2 := l) 0 _ rfl rfl rfl (fun _ => Wd.fls 0 rfl) tApp_26 (by simp; omega) (by simp; omega) (fun _ => rfl) rfl) fun v1 => ?_
    refine R.u 1 rfl <| R.nil ?_
    have hz : l = (([]) ++ l) := by (first | rfl | exact (List.nil_append _).symm | exact Sl.snil (H.fls 0 rfl) §4)
    rw [hz]
    exact R.w1 v1 [0, 1] [] rfl Tryz.results45 (RV.tmp rfl) rfl rfl rfl rfl

theorem cloneNote_any (v_l : Value) (l : List Note) (w : World) (own : List Nat) (H : Wd w (blks [] ++ own) ([] ++ §26) [Res.ls v_l (l : List Note)] w) (hl : l.length ≤ 1000000) : Calls Tryz.prog 36 #[v_l] w fun e w' => ∃ z : Value, e = .returned (z) ∧ Wd w (blks [] ++ own) ([Res.row 52 z (l : List Note)] ++ §26) [] w' := by
  have m_l := H.lenF 0 rfl
  refine R.enterN (n := 8) (vs := [v_l]) (B := §26) [(0, v_l)] Tryz.func36 rfl rfl rfl rfl H ?_
  refine R.reg rfl <| R.u 1 rfl <| R.nil ?_
  refine R.reg rfl <| R.u 1 rfl <| ?_
  rcases Bool.eq_false_or_eq_true (snil v_l) with h1 | h1
  · refine R.q (q.cvb (congrArg Value.bool h1) (q.eqlSl (fun _ => Wd.fls 0 rfl) rfl rfl Tryz.underlying28)) rfl <| R.nil ?_
    refine R.condT rfl rfl ?_
    refine R.reg rfl <| R.u 1 rfl <| R.nil ?_
    refine R.row0 (α := Note) 52 ?_
    have hz : l = [] := by (first | rfl | exact (List.nil_append _).symm | exact Sl.snil (H.fls 0 rfl) §4)
    rw [hz]
    exact R.w1 (.slice none 0 0) [0, 1] [] rfl Tryz.results36 (RV.tmp rfl) rfl rfl rfl rfl
  · refine R.q (q.cvb (congrArg Value.bool h1) (q.eqlSl (fun _ => Wd.fls 0 rfl) rfl rfl Tryz.underlying28)) rfl <| R.nil ?_
    refine R.condF rfl rfl ?_
    refine R.reg rfl <| ?_
    refine R.s rfl (s.bs (l := ([] : List Note)) tSl_28 tZero_52 rfl rfl rfl rfl rfl rfl rfl) fun b1 => ?_
    refine R.u 1 rfl <| ?_
    refine R.s rfl (s.app (l2 := l) 0 _ rfl rfl rfl (fun _ => Wd.fls 0 rfl) tApp_28 (by simp; omega) (by simp; omega) (fun _ => rfl) rfl) fun v1 => ?_
    refine R.u 1 rfl <| R.nil ?_
    have hz : l = (([]) ++ l) := by (first | rfl | exact (List.nil_append _).symm | exact Sl.snil (H.fls 0 rfl) §4)
    rw [hz]
    exact R.w1 v1 [0, 1] [] rfl Tryz.results36 (RV.tmp rfl) rfl rfl rfl rfl

theorem deleteNote_any (v_l : Value) (l : List Note) (i : Nat) (j : Nat) (w : World) (own : List Nat) (H : Wd w (blks [Res.row 52 v_l (l : List Note)] ++ own) ([Res.row 52 v_l (l : List Note)] ++ §26) [] w) (hij : i ≤ j ∧ j ≤ l.length) : Calls Tryz.prog 35 #[v_l, .int .i64 (i : Int), .int .i64 (j : Int)] w fun e w' => ∃ z : Value, e = .returned (z) ∧ Wd w (blks [Res.row 52 v_l (l : List Note)] ++ own) ([Res.row 52 z ((l.take i ++ l.drop j) : List Note)] ++ §26) [] w' := by
  have c_l := H.cap 0 rfl; have m_l := H.lenB 0 rfl
  refine R.enterN (n := 33) (vs := [v_l, .int .i64 (i : Int), .int .i64 (j : Int)]) (B := [Res.row 52 v_l (l : List Note), Res.held w own]) [(0, v_l), (1, .int .i64 (i : Int)), (2, .int .i64 (j : Int))] Tryz.func35 rfl rfl rfl rfl H ?_
  refine R.reg rfl <| R.u 1 rfl <| R.nil ?_
  refine R.reg rfl <| R.u 4 rfl <| R.q (q.len' §3 rfl Tryz.underlying28) rfl <| R.q (q.sl3 (i := i) (j := j) (q' := l.length) §3 rfl rfl rfl rfl tSl_28 rfl rfl rfl (by omega) (by omega) (by omega)) rfl <| R.nil ?_
  refine R.reg rfl <| R.u 2 rfl <| ?_
  by_cases h1 : i = j
  · refine R.q (q.eql rfl rfl (beq_iff_eq.2 (by omega))) rfl <| R.nil ?_
    refine R.condT rfl rfl ?_
    refine R.reg rfl <| R.u 2 rfl <| R.nil ?_
    have hz : l.take i ++ l.drop j = l := by (first | rfl | exact del_none (by omega))
    rw [hz]
    exact R.w1 v_l [0, 1] [] rfl Tryz.results35 (RV.tmp rfl) rfl rfl rfl rfl
  · refine R.q §24 rfl <| R.nil ?_
    refine R.condF rfl rfl ?_
    refine R.reg rfl <| R.u 1 rfl <| R.q (q.len' §3 rfl Tryz.underlying28) rfl <| R.u 1 rfl <| R.nil ?_
    refine R.regD (fuel := 8) (Wd w (blks [Res.row 52 v_l (l : List Note)] ++ own) §26 []) rfl mixed rfl ?_
    refine D.q (i := 0) rfl §19 §18 rfl (q.mv rfl) rfl <| D.q (i := 1) rfl §19 §18 rfl (q.mv rfl) rfl <| D.q (i := 3) rfl §19 §18 rfl (q.mv rfl) rfl <| D.q (i := 4) rfl §19 §18 rfl (q.mv rfl) rfl <| ?_
    refine D.two (i := 2) (j := 5) §19 rfl rfl ?_ ?_
    · refine Do.s (s.c (Qt.a (q.sto (i := i) §3 rfl rfl Tryz.underlying28 tInf_28 rfl §6)) rfl) (fun _ => §18) rfl fun _ => ?_
      refine D.one (i := 5) §19 rfl ?_
      refine Do.s (s.c (Qt.a (q.sfrom (i := j) §3 rfl rfl tSl_28 rfl §6)) rfl) (fun _ => §18) rfl fun _ => ?_
      refine D.one (i := 6) §19 rfl ?_
      refine Do.s (s.appCut (a := i) (l2 := (l.drop j)) 0 _ rfl rfl rfl (fun w hw => Sl.from (§3 w hw) (by omega)) tApp_28 (by omega) (by simp; omega) rfl rfl) (fun _ => §18) rfl fun _ => ?_
      refine D.q (i := 7) rfl §19 §18 rfl (q.as rfl) rfl <| D.done §19 <| ?_
      refine R.reg rfl <| R.u 2 rfl <| R.q (q.len' §3 rfl Tryz.underlying28) rfl <| R.u 1 rfl <| R.q (q.sl2 (i := (l.take i ++ (l.drop j)).length) (j := l.length) §3 rfl rfl rfl tSl_28 rfl rfl §6 (by first | assumption | omega | (simp; omega) | (simp [scap_sto]; omega))) rfl <| ?_
      refine R.s rfl (s.clrT' (lo := (l.take i ++ (l.drop j)).length) (hi := l.length) (z0 := (⟨0, ⟨#[]⟩, 0, 0⟩ : Note)) 0 rfl rfl tSl_28 tZero_52 rfl §6 §6 (by first | assumption | omega | (simp; omega) | (simp [scap_sto]; omega))) fun _ => ?_
      refine R.nil ?_
      refine R.reg rfl <| R.u 2 rfl <| R.nil ?_
      have hz : l.take i ++ l.drop j = (l.take i ++ (l.drop j)) := by (first | rfl | exact del_none (by omega))
      rw [hz]
      exact R.w1 (sto v_l (i + (l.drop j).length)) [0, 1] [] rfl Tryz.results35 (RV.tmp rfl) rfl rfl rfl rfl
    · refine Do.s (s.c (Qt.a (q.sfrom (i := j) §3 rfl rfl tSl_28 rfl §6)) rfl) (fun _ => §18) rfl fun _ => ?_
      refine D.one (i := 2) §19 rfl ?_
      refine Do.s (s.c (Qt.a (q.sto (i := i) §3 rfl rfl Tryz.underlying28 tInf_28 rfl §6)) rfl) (fun _ => §18) rfl fun _ => ?_
      refine D.one (i := 6) §19 rfl ?_
      refine Do.s (s.appCut (a := i) (l2 := (l.drop j)) 0 _ rfl rfl rfl (fun w hw => Sl.from (§3 w hw) (by omega)) tApp_28 (by omega) (by simp; omega) rfl rfl) (fun _ => §18) rfl fun _ => ?_
      refine D.q (i := 7) rfl §19 §18 rfl (q.as rfl) rfl <| D.done §19 <| ?_
      refine R.reg rfl <| R.u 2 rfl <| R.q (q.len' §3 rfl Tryz.underlying28) rfl <| R.u 1 rfl <| R.q (q.sl2 (i := (l.take i ++ (l.drop j)).length) (j := l.length) §3 rfl rfl rfl tSl_28 rfl rfl §6 (by first | assumption | omega | (simp; omega) | (simp [scap_sto]; omega))) rfl <| ?_
      refine R.s rfl (s.clrT' (lo := (l.take i ++ (l.drop j)).length) (hi := l.length) (z0 := (⟨0, ⟨#[]⟩, 0, 0⟩ : Note)) 0 rfl rfl tSl_28 tZero_52 rfl §6 §6 (by first | assumption | omega | (simp; omega) | (simp [scap_sto]; omega))) fun _ => ?_
      refine R.nil ?_
      refine R.reg rfl <| R.u 2 rfl <| R.nil ?_
      have hz : l.take i ++ l.drop j = (l.take i ++ (l.drop j)) := by (first | rfl | exact del_none (by omega))
      rw [hz]
      exact R.w1 (sto v_l (i + (l.drop j).length)) [0, 1] [] rfl Tryz.results35 (RV.tmp rfl) rfl rfl rfl rfl

theorem indexFuncThing_any (v_l : Value) (l : List Thing) (pr : Thing → Bool) (g_pr : Nat) (c_pr : List Value) (eg_pr : ∀ args w, (callFunc g_pr args).run Tryz.prog w = .ok (.enter g_pr args) w) (w : World) (s_l : Sl w v_l l) (H_pr : ∀ W (x1 : Thing), Ext w W → Calls Tryz.prog g_pr ([x1.val] ++ c_pr).toArray W fun e w' => e = .returned (.bool (pr x1)) ∧ Ext W w') : Calls Tryz.prog 65 #[v_l, .func (.func g_pr) #[] c_pr.toArray] w fun e w' => e = .returned (.int .i64 (idxOf pr l)) ∧ Ext w w' := by
  have b_l := s_l.lenle
  refine R.enter (n := 19) (vs := [v_l, .func (.func g_pr) #[] c_pr.toArray]) [] [(0, v_l), (1, .func (.func g_pr) #[] c_pr.toArray)] Tryz.func65 rfl rfl rfl rfl ?_
  refine R.reg rfl <| R.u 1 rfl <| R.nil ?_
  refine R.reg rfl <| R.u 1 rfl <| R.q (q.len' (fun _ => Wd.old s_l) rfl Tryz.underlying26) rfl <| R.u 1 rfl <| R.nil ?_
  refine R.loop §27 (fun k : Nat => []) (fun k : Nat => []) (fun k : Nat => k ≤ l.length ∧ ∀ (j : Nat) x, j < k → l[j]? = some x → pr x = false) (fun k : Nat => l.length - k) 0 rfl (by exact ⟨by omega, fun j x hj => absurd hj (Nat.not_lt_zero _)⟩) ⟨rfl, rfl, rfl, rfl, trivial⟩ (fun _ => Wd.pick [] [] rfl rfl rfl) ?_
  rintro k ⟨hk, HA⟩
  refine R.reg rfl <| ?_
  by_cases h1 : k < l.length
  · refine R.q §29 rfl <| R.nil ?_
    refine R.condT rfl rfl ?_
    refine R.reg rfl <| R.u 2 rfl <| R.nil ?_
    refine R.reg rfl <| R.u 3 rfl <| ?_
    obtain ⟨x1, hx1⟩ : ∃ z, l[k]? = some z := ⟨_, List.getElem?_eq_getElem (by omega)⟩
    refine R.q (q.idx (i := k) (fun _ => Wd.old s_l) rfl rfl tSl_26 rfl hx1) rfl <| R.q (q.ldES (ds := [.int .i64 x1.ID, .int .i64 x1.Kind, .string x1.Data]) (fun _ => Wd.old s_l) hx1 rfl tAgg_74 rfl) rfl <| ?_
    rcases Bool.eq_false_or_eq_true (pr x1) with h2 | h2
    · refine R.c §14 rfl <| R.nil ?_
      refine R.condT rfl rfl ?_
      refine R.reg rfl <| R.u 2 rfl <| R.nil ?_
      exact R.rv rfl Tryz.results65 rfl (rI §15)
    · refine R.c §14 rfl <| R.nil ?_
      refine R.condF rfl rfl ?_
      refine R.reg rfl <| R.q (q.add (r := ((k + 1 : Nat) : Int)) rfl rfl (wr (by omega))) rfl <| R.u 1 rfl <| R.nil ?_
      refine R.back (k + 1) rfl (by (exact ⟨by omega, none_step HA hx1 §4⟩)) (by omega) ⟨rfl, rfl, rfl, rfl, trivial⟩ (fun _ => Wd.pick [] [] rfl rfl rfl)
  · refine R.q §21 rfl <| R.nil ?_
    refine R.condF rfl rfl ?_
    refine R.reg rfl <| R.u 1 rfl <| R.nil ?_
    exact R.rv rfl Tryz.results65 rfl (rI §15)

theorem indexFuncNote_any (v_l : Value) (l : List Note) (pr : Note → Bool) (g_pr : Nat) (c_pr : List Value) (eg_pr : ∀ args w, (callFunc g_pr args).run Tryz.prog w = .ok (.enter g_pr args) w) (w : World) (s_l : Sl w v_l l) (H_pr : ∀ W (x1 : Note), Ext w W → Calls Tryz.prog g_pr ([x1.val] ++ c_pr).toArray W fun e w' => e = .returned (.bool (pr x1)) ∧ Ext W w') : Calls Tryz.prog 31 #[v_l, .func (.func g_pr) #[] c_pr.toArray] w fun e w' => e = .returned (.int .i64 (idxOf pr l)) ∧ Ext w w' := by
  have b_l := s_l.lenle
  refine R.enter (n := 19) (vs := [v_l, .func (.func g_pr) #[] c_pr.toArray]) [] [(0, v_l), (1, .func (.func g_pr) #[] c_pr.toArray)] Tryz.func31 rfl rfl rfl rfl ?_
  refine R.reg rfl <| R.u 1 rfl <| R.nil ?_
  refine R.reg rfl <| R.u 1 rfl <| R.q (q.len' (fun _ => Wd.old s_l) rfl Tryz.underlying28) rfl <| R.u 1 rfl <| R.nil ?_
  refine R.loop §27 (fun k : Nat => []) (fun k : Nat => []) (fun k : Nat => k ≤ l.length ∧ ∀ (j : Nat) x, j < k → l[j]? = some x → pr x = false) (fun k : Nat => l.length - k) 0 rfl (by exact ⟨by omega, fun j x hj => absurd hj (Nat.not_lt_zero _)⟩) ⟨rfl, rfl, rfl, rfl, trivial⟩ (fun _ => Wd.pick [] [] rfl rfl rfl) ?_
  rintro k ⟨hk, HA⟩
  refine R.reg rfl <| ?_
  by_cases h1 : k < l.length
  · refine R.q §29 rfl <| R.nil ?_
    refine R.condT rfl rfl ?_
    refine R.reg rfl <| R.u 2 rfl <| R.nil ?_
    refine R.reg rfl <| R.u 3 rfl <| ?_
    obtain ⟨x1, hx1⟩ : ∃ z, l[k]? = some z := ⟨_, List.getElem?_eq_getElem (by omega)⟩
    refine R.q (q.idx (i := k) (fun _ => Wd.old s_l) rfl rfl tSl_28 rfl hx1) rfl <| R.q (q.ldES (ds := [.int .i64 x1.Port, .string x1.Data, .int .i64 x1.Badge, .int .i64 x1.Writ]) (fun _ => Wd.old s_l) hx1 rfl tAgg_52 rfl) rfl <| ?_
    rcases Bool.eq_false_or_eq_true (pr x1) with h2 | h2
    · refine R.c §14 rfl <| R.nil ?_
      refine R.condT rfl rfl ?_
      refine R.reg rfl <| R.u 2 rfl <| R.nil ?_
      exact R.rv rfl Tryz.results31 rfl (rI §15)
    · refine R.c §14 rfl <| R.nil ?_
      refine R.condF rfl rfl ?_
      refine R.reg rfl <| R.q (q.add (r := ((k + 1 : Nat) : Int)) rfl rfl (wr (by omega))) rfl <| R.u 1 rfl <| R.nil ?_
      refine R.back (k + 1) rfl (by (exact ⟨by omega, none_step HA hx1 §4⟩)) (by omega) ⟨rfl, rfl, rfl, rfl, trivial⟩ (fun _ => Wd.pick [] [] rfl rfl rfl)
  · refine R.q §21 rfl <| R.nil ?_
    refine R.condF rfl rfl ?_
    refine R.reg rfl <| R.u 1 rfl <| R.nil ?_
    exact R.rv rfl Tryz.results31 rfl (rI §15)

theorem indexFuncHeld_any (v_l : Value) (l : List Held) (pr : Held → Bool) (g_pr : Nat) (c_pr : List Value) (eg_pr : ∀ args w, (callFunc g_pr args).run Tryz.prog w = .ok (.enter g_pr args) w) (w : World) (s_l : Sl w v_l l) (H_pr : ∀ W (x1 : Held), Ext w W → Calls Tryz.prog g_pr ([x1.val] ++ c_pr).toArray W fun e w' => e = .returned (.bool (pr x1)) ∧ Ext W w') : Calls Tryz.prog 98 #[v_l, .func (.func g_pr) #[] c_pr.toArray] w fun e w' => e = .returned (.int .i64 (idxOf pr l)) ∧ Ext w w' := by
  have b_l := s_l.lenle
  refine R.enter (n := 19) (vs := [v_l, .func (.func g_pr) #[] c_pr.toArray]) [] [(0, v_l), (1, .func (.func g_pr) #[] c_pr.toArray)] Tryz.func98 rfl rfl rfl rfl ?_
  refine R.reg rfl <| R.u 1 rfl <| R.nil ?_
  refine R.reg rfl <| R.u 1 rfl <| R.q (q.len' (fun _ => Wd.old s_l) rfl Tryz.underlying27) rfl <| R.u 1 rfl <| R.nil ?_
  refine R.loop §27 (fun k : Nat => []) (fun k : Nat => []) (fun k : Nat => k ≤ l.length ∧ ∀ (j : Nat) x, j < k → l[j]? = some x → pr x = false) (fun k : Nat => l.length - k) 0 rfl (by exact ⟨by omega, fun j x hj => absurd hj (Nat.not_lt_zero _)⟩) ⟨rfl, rfl, rfl, rfl, trivial⟩ (fun _ => Wd.pick [] [] rfl rfl rfl) ?_
  rintro k ⟨hk, HA⟩
  refine R.reg rfl <| ?_
  by_cases h1 : k < l.length
  · refine R.q §29 rfl <| R.nil ?_
    refine R.condT rfl rfl ?_
    refine R.reg rfl <| R.u 2 rfl <| R.nil ?_
    refine R.reg rfl <| R.u 3 rfl <| ?_
    obtain ⟨x1, hx1⟩ : ∃ z, l[k]? = some z := ⟨_, List.getElem?_eq_getElem (by omega)⟩
    refine R.q (q.idx (i := k) (fun _ => Wd.old s_l) rfl rfl tSl_27 rfl hx1) rfl <| R.q (q.ldES (ds := [.int .i64 x1.Place.Holder, .int .i64 x1.Place.Slot, .int .i64 x1.Writ]) (fun _ => Wd.old s_l) hx1 rfl tAgg_93 rfl) rfl <| ?_
    rcases Bool.eq_false_or_eq_true (pr x1) with h2 | h2
    · refine R.c §14 rfl <| R.nil ?_
      refine R.condT rfl rfl ?_
      refine R.reg rfl <| R.u 2 rfl <| R.nil ?_
      exact R.rv rfl Tryz.results98 rfl (rI §15)
    · refine R.c §14 rfl <| R.nil ?_
      refine R.condF rfl rfl ?_
      refine R.reg rfl <| R.q (q.add (r := ((k + 1 : Nat) : Int)) rfl rfl (wr (by omega))) rfl <| R.u 1 rfl <| R.nil ?_
      refine R.back (k + 1) rfl (by (exact ⟨by omega, none_step HA hx1 §4⟩)) (by omega) ⟨rfl, rfl, rfl, rfl, trivial⟩ (fun _ => Wd.pick [] [] rfl rfl rfl)
  · refine R.q §21 rfl <| R.nil ?_
    refine R.condF rfl rfl ?_
    refine R.reg rfl <| R.u 1 rfl <| R.nil ?_
    exact R.rv rfl Tryz.results98 rfl (rI §15)

theorem delFuncThing_any (v_l : Value) (l : List Thing) (pr : Thing → Bool) (g_pr : Nat) (c_pr : List Value) (eg_pr : ∀ args w, (callFunc g_pr args).run Tryz.prog w = .ok (.enter g_pr args) w) (w : World) (own : List Nat) (H : Wd w (blks [Res.row 74 v_l (l : List Thing)] ++ own) ([Res.row 74 v_l (l : List Thing)] ++ §26) [] w) (H_pr : ∀ W (x1 : Thing), Upd (blks [Res.row 74 v_l (l : List Thing)]) w W → Calls Tryz.prog g_pr ([x1.val] ++ c_pr).toArray W fun e w' => e = .returned (.bool (pr x1)) ∧ Ext W w') (hl : l.length ≤ 1000000) : Calls Tryz.prog 75 #[v_l, .func (.func g_pr) #[] c_pr.toArray] w fun e w' => ∃ z : Value, e = .returned (z) ∧ Wd w (blks [Res.row 74 v_l (l : List Thing)] ++ own) ([Res.row 74 z ((l.filter (fun x => !pr x)) : List Thing)] ++ §26) [] w' := by
  have c_l := H.cap 0 rfl; have m_l := H.lenB 0 rfl
  refine R.enterN (n := 42) (vs := [v_l, .func (.func g_pr) #[] c_pr.toArray]) (B := [Res.row 74 v_l (l : List Thing), Res.held w own]) [(0, v_l), (1, .func (.func g_pr) #[] c_pr.toArray)] Tryz.func75 rfl rfl rfl rfl H ?_
  refine R.reg rfl <| R.u 1 rfl <| R.nil ?_
  refine R.reg rfl <| R.u 2 rfl <| ?_
  rcases idx_cases pr l with ⟨c1f, c1n⟩ | ⟨c1k, c1x, c1f, c1h, c1e, c1b, c1B⟩
  · refine R.c (q.call eg_65 rfl rfl (fun w hw => (cv (congrArg (Value.int .i64) c1f) (indexFuncThing_any _ (l) pr _ _ eg_pr w (§3 w hw) §17 )))) rfl <| R.u 1 rfl <| R.nil ?_
    refine R.reg rfl <| R.u 1 rfl <| R.q (q.eql (b := true) rfl rfl (by decide)) rfl <| R.nil ?_
    refine R.condT rfl rfl ?_
    refine R.reg rfl <| R.u 2 rfl <| R.nil ?_
    have hz : l.filter (fun x => !pr x) = l := by (first | exact fil_none c1n | exact HA.done (by omega))
    rw [hz]
    exact R.w1 v_l [0, 1] [] rfl Tryz.results75 (RV.tmp rfl) rfl rfl rfl rfl
  · refine R.c (q.call eg_65 rfl rfl (fun w hw => (cv (congrArg (Value.int .i64) c1f) (indexFuncThing_any _ (l) pr _ _ eg_pr w (§3 w hw) §17 )))) rfl <| R.u 1 rfl <| R.nil ?_
    refine R.reg rfl <| R.u 1 rfl <| R.q §24 rfl <| R.nil ?_
    refine R.condF rfl rfl ?_
    refine R.reg rfl <| R.u 1 rfl <| R.q (q.add (r := ((c1k + 1 : Nat) : Int)) rfl rfl (wr (by omega))) rfl <| R.u 1 rfl <| R.nil ?_
    refine R.loop (fun g_ : Nat × Nat × (List Thing) => [(0, v_l), (1, .func (.func g_pr) #[] c_pr.toArray), (5, .int .i64 (g_.1 : Int)), (6, .int .i64 (g_.2.1 : Int))]) (fun g_ : Nat × Nat × (List Thing) => [Res.row 74 v_l (g_.2.2 : List Thing), Res.held w own]) (fun g_ : Nat × Nat × (List Thing) => []) (fun g_ : Nat × Nat × (List Thing) => Thin pr l g_.2.2 g_.1 g_.2.1) (fun g_ : Nat × Nat × (List Thing) => l.length - g_.2.1) (c1k, (c1k + 1), l) rfl (by exact Thin.start c1h c1e c1b) ⟨rfl, rfl, rfl, rfl, trivial⟩ (fun _ => Wd.pick [0, 1] [] rfl rfl rfl) ?_
    rintro ⟨a, b, acc⟩ HA
    dsimp only at *
    have t1 := HA.1; have t2 := HA.2.1; have t3 := HA.2.2.1
    refine R.reg rfl <| R.u 2 rfl <| R.q (q.len' §3 rfl Tryz.underlying26) rfl <| ?_
    by_cases h1 : b < acc.length
    · refine R.q §29 rfl <| R.nil ?_
      refine R.condT rfl rfl ?_
      refine R.reg rfl <| R.u 2 rfl <| ?_
      obtain ⟨x1, hx1⟩ : ∃ z, acc[b]? = some z := ⟨_, List.getElem?_eq_getElem (by omega)⟩
      refine R.q (q.idx (i := b) §3 rfl rfl tSl_26 rfl hx1) rfl <| R.q (q.ldES (ds := [.int .i64 x1.ID, .int .i64 x1.Kind, .string x1.Data]) §3 hx1 rfl tAgg_74 rfl) rfl <| ?_
      refine R.s rfl (s.alloc (cs := [.int .i64 0, .int .i64 0, .string (⟨#[]⟩)]) tZero_74 rfl rfl) fun b1 => ?_
      refine R.s rfl (s.st (us := [.int .i64 x1.ID, .int .i64 x1.Kind, .string x1.Data]) (cs' := [.int .i64 x1.ID, .int .i64 x1.Kind, .string x1.Data]) 0 _ rfl rfl rfl rfl (.inl tAgg_74) rfl rfl rfl rfl) fun _ => ?_
      refine R.nil ?_
      refine R.reg rfl <| R.u 1 rfl <| R.q (q.ldS 0 rfl rfl tAgg_74) rfl <| ?_
      rcases Bool.eq_false_or_eq_true (pr x1) with h2 | h2
      · refine R.c §10 rfl <| R.u 1 rfl <| R.nil ?_
        refine R.condF rfl rfl ?_
        refine R.reg rfl <| R.u 1 rfl <| R.q §22 rfl <| R.u 1 rfl <| R.nil ?_
        refine R.back (a, (b + 1), acc) rfl §23 (by dsimp only; omega) ⟨rfl, rfl, rfl, rfl, trivial⟩ (fun _ => Wd.pik [1, 2] [] rfl rfl rfl)
      · refine R.c §10 rfl <| R.u 1 rfl <| R.nil ?_
        refine R.condT rfl rfl ?_
        refine R.reg rfl <| R.u 2 rfl <| R.q (q.ldS 0 rfl rfl tAgg_74) rfl <| ?_
        obtain ⟨x2, hx2⟩ : ∃ z, acc[a]? = some z := ⟨_, List.getElem?_eq_getElem (by omega)⟩
        refine R.q (q.idx (i := a) (fun _ => Wd.row 1 rfl) rfl rfl tSl_26 rfl hx2) rfl <| ?_
        refine R.s rfl (s.stE (z := x1) 1 _ rfl hx2 rfl rfl rfl rfl (.inl tAgg_74) rfl) fun _ => ?_
        refine R.nil ?_
        refine R.reg rfl <| R.u 1 rfl <| R.q (q.add (r := ((a + 1 : Nat) : Int)) rfl rfl (wr (by omega))) rfl <| R.u 1 rfl <| R.nil ?_
        refine R.reg rfl <| R.u 1 rfl <| R.q §22 rfl <| R.u 1 rfl <| R.nil ?_
        refine R.back ((a + 1), (b + 1), (acc.set a x1)) rfl §23 (by dsimp only; omega) ⟨rfl, rfl, rfl, rfl, trivial⟩ (fun _ => Wd.pik [1, 2] [] rfl rfl rfl)
    · refine R.q §21 rfl <| R.nil ?_
      refine R.condF rfl rfl ?_
      refine R.reg rfl <| R.u 2 rfl <| R.q (q.sfrom (i := a) §3 rfl rfl tSl_26 rfl §6) rfl <| ?_
      refine R.s rfl (s.clrZ (lo := a) (z0 := (⟨0, 0, ⟨#[]⟩⟩ : Thing)) 0 _ rfl rfl tSl_26 tZero_74 rfl §6 rfl) fun _ => ?_
      refine R.nil ?_
      refine R.reg rfl <| R.u 2 rfl <| R.q (q.sto (i := a) §3 rfl rfl Tryz.underlying26 tInf_26 rfl §6) rfl <| R.u 1 rfl <| R.nil ?_
      refine R.rowTo 0 a _ rfl §6 rfl ?_
      have hz : l.filter (fun x => !pr x) = ((acc.take a ++ List.replicate (acc.length - a) (⟨0, 0, ⟨#[]⟩⟩ : Thing)).take a) := by (first | exact fil_none c1n | exact HA.done (by omega))
      rw [hz]
      exact R.w1 (sto v_l a) [0, 1] [] rfl Tryz.results75 (RV.tmp rfl) rfl rfl rfl rfl

theorem delFuncHeld_any (v_l : Value) (l : List Held) (pr : Held → Bool) (g_pr : Nat) (c_pr : List Value) (eg_pr : ∀ args w, (callFunc g_pr args).run Tryz.prog w = .ok (.enter g_pr args) w) (w : World) (own : List Nat) (H : Wd w (blks [Res.row 93 v_l (l : List Held)] ++ own) ([Res.row 93 v_l (l : List Held)] ++ §26) [] w) (H_pr : ∀ W (x1 : Held), Upd (blks [Res.row 93 v_l (l : List Held)]) w W → Calls Tryz.prog g_pr ([x1.val] ++ c_pr).toArray W fun e w' => e = .returned (.bool (pr x1)) ∧ Ext W w') (hl : l.length ≤ 1000000) : Calls Tryz.prog 78 #[v_l, .func (.func g_pr) #[] c_pr.toArray] w fun e w' => ∃ z : Value, e = .returned (z) ∧ Wd w (blks [Res.row 93 v_l (l : List Held)] ++ own) ([Res.row 93 z ((l.filter (fun x => !pr x)) : List Held)] ++ §26) [] w' := by
  have c_l := H.cap 0 rfl; have m_l := H.lenB 0 rfl
  refine R.enterN (n := 42) (vs := [v_l, .func (.func g_pr) #[] c_pr.toArray]) (B := [Res.row 93 v_l (l : List Held), Res.held w own]) [(0, v_l), (1, .func (.func g_pr) #[] c_pr.toArray)] Tryz.func78 rfl rfl rfl rfl H ?_
  refine R.reg rfl <| R.u 1 rfl <| R.nil ?_
  refine R.reg rfl <| R.u 2 rfl <| ?_
  rcases idx_cases pr l with ⟨c1f, c1n⟩ | ⟨c1k, c1x, c1f, c1h, c1e, c1b, c1B⟩
  · refine R.c (q.call eg_98 rfl rfl (fun w hw => (cv (congrArg (Value.int .i64) c1f) (indexFuncHeld_any _ (l) pr _ _ eg_pr w (§3 w hw) §17 )))) rfl <| R.u 1 rfl <| R.nil ?_
    refine R.reg rfl <| R.u 1 rfl <| R.q (q.eql (b := true) rfl rfl (by decide)) rfl <| R.nil ?_
    refine R.condT rfl rfl ?_
    refine R.reg rfl <| R.u 2 rfl <| R.nil ?_
    have hz : l.filter (fun x => !pr x) = l := by (first | exact fil_none c1n | exact HA.done (by omega))
    rw [hz]
    exact R.w1 v_l [0, 1] [] rfl Tryz.results78 (RV.tmp rfl) rfl rfl rfl rfl
  · refine R.c (q.call eg_98 rfl rfl (fun w hw => (cv (congrArg (Value.int .i64) c1f) (indexFuncHeld_any _ (l) pr _ _ eg_pr w (§3 w hw) §17 )))) rfl <| R.u 1 rfl <| R.nil ?_
    refine R.reg rfl <| R.u 1 rfl <| R.q §24 rfl <| R.nil ?_
    refine R.condF rfl rfl ?_
    refine R.reg rfl <| R.u 1 rfl <| R.q (q.add (r := ((c1k + 1 : Nat) : Int)) rfl rfl (wr (by omega))) rfl <| R.u 1 rfl <| R.nil ?_
    refine R.loop (fun g_ : Nat × Nat × (List Held) => [(0, v_l), (1, .func (.func g_pr) #[] c_pr.toArray), (5, .int .i64 (g_.1 : Int)), (6, .int .i64 (g_.2.1 : Int))]) (fun g_ : Nat × Nat × (List Held) => [Res.row 93 v_l (g_.2.2 : List Held), Res.held w own]) (fun g_ : Nat × Nat × (List Held) => []) (fun g_ : Nat × Nat × (List Held) => Thin pr l g_.2.2 g_.1 g_.2.1) (fun g_ : Nat × Nat × (List Held) => l.length - g_.2.1) (c1k, (c1k + 1), l) rfl (by exact Thin.start c1h c1e c1b) ⟨rfl, rfl, rfl, rfl, trivial⟩ (fun _ => Wd.pick [0, 1] [] rfl rfl rfl) ?_
    rintro ⟨a, b, acc⟩ HA
    dsimp only at *
    have t1 := HA.1; have t2 := HA.2.1; have t3 := HA.2.2.1
    refine R.reg rfl <| R.u 2 rfl <| R.q (q.len' §3 rfl Tryz.underlying27) rfl <| ?_
    by_cases h1 : b < acc.length
    · refine R.q §29 rfl <| R.nil ?_
      refine R.condT rfl rfl ?_
      refine R.reg rfl <| R.u 2 rfl <| ?_
      obtain ⟨x1, hx1⟩ : ∃ z, acc[b]? = some z := ⟨_, List.getElem?_eq_getElem (by omega)⟩
      refine R.q (q.idx (i := b) §3 rfl rfl tSl_27 rfl hx1) rfl <| R.q (q.ldES (ds := [.int .i64 x1.Place.Holder, .int .i64 x1.Place.Slot, .int .i64 x1.Writ]) §3 hx1 rfl tAgg_93 rfl) rfl <| ?_
      refine R.s rfl (s.alloc (cs := [.int .i64 0, .int .i64 0, .int .i64 0]) tZero_93 rfl rfl) fun b1 => ?_
      refine R.s rfl (s.st (us := [.int .i64 x1.Place.Holder, .int .i64 x1.Place.Slot, .int .i64 x1.Writ]) (cs' := [.int .i64 x1.Place.Holder, .int .i64 x1.Place.Slot, .int .i64 x1.Writ]) 0 _ rfl rfl rfl rfl (.inl tAgg_93) rfl rfl rfl rfl) fun _ => ?_
      refine R.nil ?_
      refine R.reg rfl <| R.u 1 rfl <| R.q (q.ldS 0 rfl rfl tAgg_93) rfl <| ?_
      rcases Bool.eq_false_or_eq_true (pr x1) with h2 | h2
      · refine R.c §10 rfl <| R.u 1 rfl <| R.nil ?_
        refine R.condF rfl rfl ?_
        refine R.reg rfl <| R.u 1 rfl <| R.q §22 rfl <| R.u 1 rfl <| R.nil ?_
        refine R.back (a, (b + 1), acc) rfl §23 (by dsimp only; omega) ⟨rfl, rfl, rfl, rfl, trivial⟩ (fun _ => Wd.pik [1, 2] [] rfl rfl rfl)
      · refine R.c §10 rfl <| R.u 1 rfl <| R.nil ?_
        refine R.condT rfl rfl ?_
        refine R.reg rfl <| R.u 2 rfl <| R.q (q.ldS 0 rfl rfl tAgg_93) rfl <| ?_
        obtain ⟨x2, hx2⟩ : ∃ z, acc[a]? = some z := ⟨_, List.getElem?_eq_getElem (by omega)⟩
        refine R.q (q.idx (i := a) (fun _ => Wd.row 1 rfl) rfl rfl tSl_27 rfl hx2) rfl <| ?_
        refine R.s rfl (s.stE (z := x1) 1 _ rfl hx2 rfl rfl rfl rfl (.inl tAgg_93) rfl) fun _ => ?_
        refine R.nil ?_
        refine R.reg rfl <| R.u 1 rfl <| R.q (q.add (r := ((a + 1 : Nat) : Int)) rfl rfl (wr (by omega))) rfl <| R.u 1 rfl <| R.nil ?_
        refine R.reg rfl <| R.u 1 rfl <| R.q §22 rfl <| R.u 1 rfl <| R.nil ?_
        refine R.back ((a + 1), (b + 1), (acc.set a x1)) rfl §23 (by dsimp only; omega) ⟨rfl, rfl, rfl, rfl, trivial⟩ (fun _ => Wd.pik [1, 2] [] rfl rfl rfl)
    · refine R.q §21 rfl <| R.nil ?_
      refine R.condF rfl rfl ?_
      refine R.reg rfl <| R.u 2 rfl <| R.q (q.sfrom (i := a) §3 rfl rfl tSl_27 rfl §6) rfl <| ?_
      refine R.s rfl (s.clrZ (lo := a) (z0 := (⟨(⟨0, 0⟩ : Place), 0⟩ : Held)) 0 _ rfl rfl tSl_27 tZero_93 rfl §6 rfl) fun _ => ?_
      refine R.nil ?_
      refine R.reg rfl <| R.u 2 rfl <| R.q (q.sto (i := a) §3 rfl rfl Tryz.underlying27 tInf_27 rfl §6) rfl <| R.u 1 rfl <| R.nil ?_
      refine R.rowTo 0 a _ rfl §6 rfl ?_
      have hz : l.filter (fun x => !pr x) = ((acc.take a ++ List.replicate (acc.length - a) (⟨(⟨0, 0⟩ : Place), 0⟩ : Held)).take a) := by (first | exact fil_none c1n | exact HA.done (by omega))
      rw [hz]
      exact R.w1 (sto v_l a) [0, 1] [] rfl Tryz.results78 (RV.tmp rfl) rfl rfl rfl rfl

theorem delFuncWrit_any (v_l : Value) (l : List Writ) (pr : Writ → Bool) (g_pr : Nat) (c_pr : List Value) (eg_pr : ∀ args w, (callFunc g_pr args).run Tryz.prog w = .ok (.enter g_pr args) w) (w : World) (own : List Nat) (H : Wd w (blks [Res.row 39 v_l (l : List Writ)] ++ own) ([Res.row 39 v_l (l : List Writ)] ++ §26) [] w) (H_pr : ∀ W (x1 : Writ), Upd (blks [Res.row 39 v_l (l : List Writ)]) w W → Calls Tryz.prog g_pr ([x1.val] ++ c_pr).toArray W fun e w' => e = .returned (.bool (pr x1)) ∧ Ext W w') (hl : l.length ≤ 1000000) : Calls Tryz.prog 84 #[v_l, .func (.func g_pr) #[] c_pr.toArray] w fun e w' => ∃ z : Value, e = .returned (z) ∧ Wd w (blks [Res.row 39 v_l (l : List Writ)] ++ own) ([Res.row 39 z ((l.filter (fun x => !pr x)) : List Writ)] ++ §26) [] w' := by
  have c_l := H.cap 0 rfl; have m_l := H.lenB 0 rfl
  refine R.enterN (n := 42) (vs := [v_l, .func (.func g_pr) #[] c_pr.toArray]) (B := [Res.row 39 v_l (l : List Writ), Res.held w own]) [(0, v_l), (1, .func (.func g_pr) #[] c_pr.toArray)] Tryz.func84 rfl rfl rfl rfl H ?_
  refine R.reg rfl <| R.u 1 rfl <| R.nil ?_
  refine R.reg rfl <| R.u 2 rfl <| ?_
  rcases idx_cases pr l with ⟨c1f, c1n⟩ | ⟨c1k, c1x, c1f, c1h, c1e, c1b, c1B⟩
  · refine R.c (q.call eg_62 rfl rfl (fun w hw => (cv (congrArg (Value.int .i64) c1f) (indexFuncW_any _ (l) pr _ _ eg_pr w (§3 w hw) §17 )))) rfl <| R.u 1 rfl <| R.nil ?_
    refine R.reg rfl <| R.u 1 rfl <| R.q (q.eql (b := true) rfl rfl (by decide)) rfl <| R.nil ?_
    refine R.condT rfl rfl ?_
    refine R.reg rfl <| R.u 2 rfl <| R.nil ?_
    have hz : l.filter (fun x => !pr x) = l := by (first | exact fil_none c1n | exact HA.done (by omega))
    rw [hz]
    exact R.w1 v_l [0, 1] [] rfl Tryz.results84 (RV.tmp rfl) rfl rfl rfl rfl
  · refine R.c (q.call eg_62 rfl rfl (fun w hw => (cv (congrArg (Value.int .i64) c1f) (indexFuncW_any _ (l) pr _ _ eg_pr w (§3 w hw) §17 )))) rfl <| R.u 1 rfl <| R.nil ?_
    refine R.reg rfl <| R.u 1 rfl <| R.q §24 rfl <| R.nil ?_
    refine R.condF rfl rfl ?_
    refine R.reg rfl <| R.u 1 rfl <| R.q (q.add (r := ((c1k + 1 : Nat) : Int)) rfl rfl (wr (by omega))) rfl <| R.u 1 rfl <| R.nil ?_
    refine R.loop (fun g_ : Nat × Nat × (List Writ) => [(0, v_l), (1, .func (.func g_pr) #[] c_pr.toArray), (5, .int .i64 (g_.1 : Int)), (6, .int .i64 (g_.2.1 : Int))]) (fun g_ : Nat × Nat × (List Writ) => [Res.row 39 v_l (g_.2.2 : List Writ), Res.held w own]) (fun g_ : Nat × Nat × (List Writ) => []) (fun g_ : Nat × Nat × (List Writ) => Thin pr l g_.2.2 g_.1 g_.2.1) (fun g_ : Nat × Nat × (List Writ) => l.length - g_.2.1) (c1k, (c1k + 1), l) rfl (by exact Thin.start c1h c1e c1b) ⟨rfl, rfl, rfl, rfl, trivial⟩ (fun _ => Wd.pick [0, 1] [] rfl rfl rfl) ?_
    rintro ⟨a, b, acc⟩ HA
    dsimp only at *
    have t1 := HA.1; have t2 := HA.2.1; have t3 := HA.2.2.1
    refine R.reg rfl <| R.u 2 rfl <| R.q (q.len' §3 rfl Tryz.underlying25) rfl <| ?_
    by_cases h1 : b < acc.length
    · refine R.q §29 rfl <| R.nil ?_
      refine R.condT rfl rfl ?_
      refine R.reg rfl <| R.u 2 rfl <| ?_
      obtain ⟨x1, hx1⟩ : ∃ z, acc[b]? = some z := ⟨_, List.getElem?_eq_getElem (by omega)⟩
      refine R.q (q.idx (i := b) §3 rfl rfl tSl_25 rfl hx1) rfl <| R.q (q.ldES (ds := [.int .i64 x1.ID, .int .i64 x1.Thing, .int .i64 x1.Rights, .int .i64 x1.Badge, .int .i64 x1.From]) §3 hx1 rfl tAgg_39 rfl) rfl <| ?_
      refine R.s rfl (s.alloc (cs := §11) tZero_39 rfl rfl) fun b1 => ?_
      refine R.s rfl (s.st (us := [.int .i64 x1.ID, .int .i64 x1.Thing, .int .i64 x1.Rights, .int .i64 x1.Badge, .int .i64 x1.From]) (cs' := [.int .i64 x1.ID, .int .i64 x1.Thing, .int .i64 x1.Rights, .int .i64 x1.Badge, .int .i64 x1.From]) 0 _ rfl rfl rfl rfl (.inl tAgg_39) rfl rfl rfl rfl) fun _ => ?_
      refine R.nil ?_
      refine R.reg rfl <| R.u 1 rfl <| R.q (q.ldS 0 rfl rfl tAgg_39) rfl <| ?_
      rcases Bool.eq_false_or_eq_true (pr x1) with h2 | h2
      · refine R.c §10 rfl <| R.u 1 rfl <| R.nil ?_
        refine R.condF rfl rfl ?_
        refine R.reg rfl <| R.u 1 rfl <| R.q §22 rfl <| R.u 1 rfl <| R.nil ?_
        refine R.back (a, (b + 1), acc) rfl §23 (by dsimp only; omega) ⟨rfl, rfl, rfl, rfl, trivial⟩ (fun _ => Wd.pik [1, 2] [] rfl rfl rfl)
      · refine R.c §10 rfl <| R.u 1 rfl <| R.nil ?_
        refine R.condT rfl rfl ?_
        refine R.reg rfl <| R.u 2 rfl <| R.q (q.ldS 0 rfl rfl tAgg_39) rfl <| ?_
        obtain ⟨x2, hx2⟩ : ∃ z, acc[a]? = some z := ⟨_, List.getElem?_eq_getElem (by omega)⟩
        refine R.q (q.idx (i := a) (fun _ => Wd.row 1 rfl) rfl rfl tSl_25 rfl hx2) rfl <| ?_
        refine R.s rfl (s.stE (z := x1) 1 _ rfl hx2 rfl rfl rfl rfl (.inl tAgg_39) rfl) fun _ => ?_
        refine R.nil ?_
        refine R.reg rfl <| R.u 1 rfl <| R.q (q.add (r := ((a + 1 : Nat) : Int)) rfl rfl (wr (by omega))) rfl <| R.u 1 rfl <| R.nil ?_
        refine R.reg rfl <| R.u 1 rfl <| R.q §22 rfl <| R.u 1 rfl <| R.nil ?_
        refine R.back ((a + 1), (b + 1), (acc.set a x1)) rfl §23 (by dsimp only; omega) ⟨rfl, rfl, rfl, rfl, trivial⟩ (fun _ => Wd.pik [1, 2] [] rfl rfl rfl)
    · refine R.q §21 rfl <| R.nil ?_
      refine R.condF rfl rfl ?_
      refine R.reg rfl <| R.u 2 rfl <| R.q (q.sfrom (i := a) §3 rfl rfl tSl_25 rfl §6) rfl <| ?_
      refine R.s rfl (s.clrZ (lo := a) (z0 := (⟨0, 0, 0, 0, 0⟩ : Writ)) 0 _ rfl rfl tSl_25 tZero_39 rfl §6 rfl) fun _ => ?_
      refine R.nil ?_
      refine R.reg rfl <| R.u 2 rfl <| R.q (q.sto (i := a) §3 rfl rfl Tryz.underlying25 tInf_25 rfl §6) rfl <| R.u 1 rfl <| R.nil ?_
      refine R.rowTo 0 a _ rfl §6 rfl ?_
      have hz : l.filter (fun x => !pr x) = ((acc.take a ++ List.replicate (acc.length - a) (⟨0, 0, 0, 0, 0⟩ : Writ)).take a) := by (first | exact fil_none c1n | exact HA.done (by omega))
      rw [hz]
      exact R.w1 (sto v_l a) [0, 1] [] rfl Tryz.results84 (RV.tmp rfl) rfl rfl rfl rfl

theorem thingsL_any (v_l : Value) (l : List Writ) (w : World) (s_l : Sl w v_l l) (hl : l.length ≤ 1000000) : Calls Tryz.prog 74 #[v_l] w fun e w' => ∃ u, e = .returned u ∧ Own w.heap.size 3 w' u (thingsL l) ∧ Ext w w' := things_any v_l l w s_l hl

theorem indexI_any (v_l : Value) (l : List Int) (x : Int) (w : World) (s_l : Sl w v_l l) : Calls Tryz.prog 97 #[v_l, .int .i64 x] w fun e w' => e = .returned (.int .i64 (idxOf (fun y => y == x) l)) ∧ Ext w w' := by
  have b_l := s_l.lenle
  refine R.enter (n := 19) (vs := [v_l, .int .i64 x]) [] [(0, v_l), (1, .int .i64 x)] Tryz.func97 rfl rfl rfl rfl ?_
  refine R.reg rfl <| R.u 1 rfl <| R.nil ?_
  refine R.reg rfl <| R.u 1 rfl <| R.q (q.len' (fun _ => Wd.old s_l) rfl Tryz.underlying116) rfl <| R.u 1 rfl <| R.nil ?_
  refine R.loop (fun k : Nat => [(0, v_l), (1, .int .i64 x), (7, .int .i64 (l.length : Int)), (8, .int .i64 (k : Int))]) (fun k : Nat => []) (fun k : Nat => []) (fun k : Nat => k ≤ l.length ∧ ∀ (j : Nat) y, j < k → l[j]? = some y → (y == x) = false) (fun k : Nat => l.length - k) 0 rfl (by exact ⟨by omega, fun j x hj => absurd hj (Nat.not_lt_zero _)⟩) ⟨rfl, rfl, rfl, rfl, trivial⟩ (fun _ => Wd.pick [] [] rfl rfl rfl) ?_
  rintro k ⟨hk, HA⟩
  refine R.reg rfl <| ?_
  by_cases h1 : k < l.length
  · refine R.q §29 rfl <| R.nil ?_
    refine R.condT rfl rfl ?_
    refine R.reg rfl <| R.u 2 rfl <| R.nil ?_
    refine R.reg rfl <| R.u 3 rfl <| ?_
    obtain ⟨x1, hx1⟩ : ∃ z, l[k]? = some z := ⟨_, List.getElem?_eq_getElem (by omega)⟩
    refine R.q (q.idx (i := k) (fun _ => Wd.old s_l) rfl rfl tSl_116 rfl hx1) rfl <| R.q (q.ldE (fun _ => Wd.old s_l) hx1 rfl tOne_3 rfl) rfl <| ?_
    by_cases h2 : x = x1
    · refine R.q (q.eql rfl rfl (beq_iff_eq.2 (by omega))) rfl <| R.nil ?_
      refine R.condT rfl rfl ?_
      refine R.reg rfl <| R.u 2 rfl <| R.nil ?_
      exact R.rv rfl Tryz.results97 rfl (rI (by (first | exact (idxOf_hit (p := fun y => y == x) hx1 (beq_iff_eq.2 (by omega)) HA).symm | exact (idxOf_miss §4 HA).symm)))
    · refine R.q §24 rfl <| R.nil ?_
      refine R.condF rfl rfl ?_
      refine R.reg rfl <| R.q (q.add (r := ((k + 1 : Nat) : Int)) rfl rfl (wr (by omega))) rfl <| R.u 1 rfl <| R.nil ?_
      refine R.back (k + 1) rfl (by (exact ⟨by omega, none_step (p := fun y => y == x) HA hx1 (beq_eq_false_iff_ne.2 (by omega))⟩)) (by omega) ⟨rfl, rfl, rfl, rfl, trivial⟩ (fun _ => Wd.pick [] [] rfl rfl rfl)
  · refine R.q §21 rfl <| R.nil ?_
    refine R.condF rfl rfl ?_
    refine R.reg rfl <| R.u 1 rfl <| R.nil ?_
    exact R.rv rfl Tryz.results97 rfl (rI (by (first | exact (idxOf_hit (p := fun y => y == x) hx1 (beq_iff_eq.2 (by omega)) HA).symm | exact (idxOf_miss §4 HA).symm)))

theorem idx_mem {l : List Int} {x : Int} : (0 ≤ idxOf (fun y => y == x) l) = (x ∈ l) := by
  rcases idx_cases (fun y : Int => y == x) l with ⟨h, hn⟩ | ⟨k, y, h, hy, he, _, _⟩
  · rw [h]; simp; intro hm; have := hn x hm; simp at this
  · rw [h]; simp
    have : y = x := by simpa using he
    subst this; exact List.mem_of_getElem? hy

theorem containsI_any (v_l : Value) (l : List Int) (x : Int) (w : World) (s_l : Sl w v_l l) : Calls Tryz.prog 77 #[v_l, .int .i64 x] w fun e w' => e = .returned (.bool (decide (x ∈ l))) ∧ Ext w w' := by
  have b_l := s_l.lenle
  refine R.enter (n := 9) (vs := [v_l, .int .i64 x]) [] [(0, v_l), (1, .int .i64 x)] Tryz.func77 rfl rfl rfl rfl ?_
  refine R.reg rfl <| R.u 1 rfl <| R.nil ?_
  refine R.reg rfl <| R.u 2 rfl <| R.c (q.call eg_97 rfl rfl (fun w hw => (indexI_any _ (l) (x) w ((fun _ => Wd.old s_l) w hw) ))) rfl <| ?_
  by_cases h1 : idxOf (fun y => y == x) l < 0
  · refine R.q (q.geq rfl rfl (decide_eq_false (by omega))) rfl <| R.u 1 rfl <| R.nil ?_
    exact R.rv rfl Tryz.results77 rfl (rB (by (have e := idx_mem (l := l) (x := x); first | exact (decide_eq_true (e ▸ (by omega))).symm | exact (decide_eq_false (e ▸ (by omega))).symm)))
  · refine R.q (q.geq rfl rfl (decide_eq_true (by omega))) rfl <| R.u 1 rfl <| R.nil ?_
    exact R.rv rfl Tryz.results77 rfl (rB (by (have e := idx_mem (l := l) (x := x); first | exact (decide_eq_true (e ▸ (by omega))).symm | exact (decide_eq_false (e ▸ (by omega))).symm)))

theorem get_any (v_rW v_rT v_rH v_rN : Value) (r : Realm) (p : Place) (w : World) (s_rW : Sl w v_rW r.Writs) (s_rT : Sl w v_rT r.Things) (s_rH : Sl w v_rH r.Held) (s_rN : Sl w v_rN r.Notes) (hk : Ok r) : Calls Tryz.prog 8 #[.agg #[v_rW, v_rT, v_rH, v_rN, .int .i64 r.NextWrit, .int .i64 r.NextThing], .agg #[.int .i64 p.Holder, .int .i64 p.Slot]] w fun e w' => e = .returned (.tuple #[Writ.val ((getR r p).1), errv ((getR r p).2)]) ∧ Ext w w' := by
  have b1 := hk.hl
  refine R.enter (n := 30) (vs := [.agg #[v_rW, v_rT, v_rH, v_rN, .int .i64 r.NextWrit, .int .i64 r.NextThing], .agg #[.int .i64 p.Holder, .int .i64 p.Slot]]) [] [(0, .agg #[v_rW, v_rT, v_rH, v_rN, .int .i64 r.NextWrit, .int .i64 r.NextThing]), (1, .agg #[.int .i64 p.Holder, .int .i64 p.Slot])] Tryz.func8 rfl rfl rfl rfl ?_
  refine R.reg rfl <| ?_
  refine R.s rfl (s.box (cs := §7) rfl rfl rfl) fun b1 => ?_
  refine R.s rfl (s.box (cs := §5) rfl rfl rfl) fun b2 => ?_
  refine R.s rfl (s.alloc (cs := §11) tZero_39 rfl rfl) fun b3 => ?_
  refine R.u 1 rfl <| R.nil ?_
  refine R.reg rfl <| R.q (q.ldS 1 rfl rfl tAgg_33) rfl <| R.c (q.call eg_23 rfl rfl (fun w hw => (placeCheck_any (p) w  ))) rfl <| R.u 1 rfl <| R.nil ?_
  refine R.reg rfl <| R.u 1 rfl <| ?_
  by_cases h1 : placeFault p = 0
  · refine R.q (q.neqE0 rfl rfl Tryz.underlying41 (by omega)) rfl <| R.nil ?_
    refine R.condF rfl rfl ?_
    rcases findW_cases r.Writs (atH r.Held p) with ⟨c1f, c1n⟩ | ⟨c1j, c1h, c1f, c1e, c1m⟩
    · refine R.regQ rfl mixed §19 <| Q.q §30 rfl <| Q.q (q.ld 2 rfl rfl tOne_25 rfl) rfl <| Q.q §25 rfl <| Q.q (q.ld 2 rfl rfl tOne_27 rfl) rfl <| Q.q (q.ldS 1 rfl rfl tAgg_33) rfl <| Q.c (q.call eg_25 rfl rfl (fun w hw => (atPlace_any _ (r.Held) (p) w ((fun _ => Wd.old s_rH) w hw) §9))) rfl <| Q.c (q.call eg_24 rfl rfl (fun w hw => (cv (congrArg (Value.int .i64) c1f) (find_any _ (r.Writs) (atH r.Held p) w ((fun _ => Wd.old s_rW) w hw) )))) rfl <| Q.u 1 rfl <| Q.nil ?_
      refine R.reg rfl <| R.u 1 rfl <| R.q (q.lss (b := true) rfl rfl (by decide)) rfl <| R.nil ?_
      refine R.condT rfl rfl ?_
      refine R.reg rfl <| R.q (q.build (cs := §11) tB_39 rfl rfl) rfl <| R.q (q.iface rfl con_69) rfl <| ?_
      refine R.s rfl (s.st (us := §11) (cs' := §11) 0 _ rfl rfl rfl rfl (.inl tAgg_39) rfl rfl rfl rfl) fun _ => ?_
      refine R.u 1 rfl <| R.nil ?_
      exact R.rr2 rfl Tryz.results8 (RV.cell 0 rfl rfl tAgg_39) (RV.tmp rfl) (congrArg Writ.val (show (⟨0, 0, 0, 0, 0⟩ : Writ) = (getR r p).1 from by (first | (rw [getR_bad §4]; first | done | rfl | omega) | (rw [getR_none §4 c1f]; first | done | rfl | omega) | (rw [getR_hit §4 c1f (List.getElem?_eq_getElem c1h)]; first | done | rfl | omega)))) (errk (by decide) §13)
    · refine R.regQ rfl mixed §19 <| Q.q §30 rfl <| Q.q (q.ld 2 rfl rfl tOne_25 rfl) rfl <| Q.q §25 rfl <| Q.q (q.ld 2 rfl rfl tOne_27 rfl) rfl <| Q.q (q.ldS 1 rfl rfl tAgg_33) rfl <| Q.c (q.call eg_25 rfl rfl (fun w hw => (atPlace_any _ (r.Held) (p) w ((fun _ => Wd.old s_rH) w hw) §9))) rfl <| Q.c (q.call eg_24 rfl rfl (fun w hw => (cv (congrArg (Value.int .i64) c1f) (find_any _ (r.Writs) (atH r.Held p) w ((fun _ => Wd.old s_rW) w hw) )))) rfl <| Q.u 1 rfl <| Q.nil ?_
      refine R.reg rfl <| R.u 1 rfl <| R.q §21 rfl <| R.nil ?_
      refine R.condF rfl rfl ?_
      refine R.reg rfl <| R.q §30 rfl <| R.q (q.ld 2 rfl rfl tOne_25 rfl) rfl <| R.u 1 rfl <| R.q (q.idx (i := c1j) (fun _ => Wd.old s_rW) rfl rfl tSl_25 rfl (List.getElem?_eq_getElem c1h)) rfl <| R.q (q.ldES (ds := §20) (fun _ => Wd.old s_rW) (List.getElem?_eq_getElem c1h) rfl tAgg_39 rfl) rfl <| ?_
      refine R.s rfl (s.st (us := §20) (cs' := §20) 0 _ rfl rfl rfl rfl (.inl tAgg_39) rfl rfl rfl rfl) fun _ => ?_
      refine R.u 1 rfl <| R.nil ?_
      exact R.rr2 rfl Tryz.results8 (RV.cell 0 rfl rfl tAgg_39) (RV.tmp rfl) (congrArg Writ.val (show (r.Writs[c1j]) = (getR r p).1 from by (first | (rw [getR_bad §4]; first | done | rfl | omega) | (rw [getR_none §4 c1f]; first | done | rfl | omega) | (rw [getR_hit §4 c1f (List.getElem?_eq_getElem c1h)]; first | done | rfl | omega)))) (err0 §13)
  · refine R.q (q.neqE1 rfl rfl Tryz.underlying41 (by omega)) rfl <| R.nil ?_
    refine R.condT rfl rfl ?_
    refine R.reg rfl <| R.q (q.build (cs := §11) tB_39 rfl rfl) rfl <| R.u 1 rfl <| ?_
    refine R.s rfl (s.st (us := §11) (cs' := §11) 0 _ rfl rfl rfl rfl (.inl tAgg_39) rfl rfl rfl rfl) fun _ => ?_
    refine R.u 1 rfl <| R.nil ?_
    exact R.rr2 rfl Tryz.results8 (RV.cell 0 rfl rfl tAgg_39) (RV.tmp rfl) (congrArg Writ.val (show (⟨0, 0, 0, 0, 0⟩ : Writ) = (getR r p).1 from by (first | (rw [getR_bad §4]; first | done | rfl | omega) | (rw [getR_none §4 c1f]; first | done | rfl | omega) | (rw [getR_hit §4 c1f (List.getElem?_eq_getElem c1h)]; first | done | rfl | omega)))) (rE §13)

theorem freeR_any (v_rW v_rT v_rH v_rN : Value) (r : Realm) (p : Place) (w : World) (s_rW : Sl w v_rW r.Writs) (s_rT : Sl w v_rT r.Things) (s_rH : Sl w v_rH r.Held) (s_rN : Sl w v_rN r.Notes) (hk : Ok r) : Calls Tryz.prog 60 #[.agg #[v_rW, v_rT, v_rH, v_rN, .int .i64 r.NextWrit, .int .i64 r.NextThing], .agg #[.int .i64 p.Holder, .int .i64 p.Slot]] w fun e w' => e = .returned (errv (freeR r p)) ∧ Ext w w' := by
  have b1 := hk.hl
  refine R.enter (n := 19) (vs := [.agg #[v_rW, v_rT, v_rH, v_rN, .int .i64 r.NextWrit, .int .i64 r.NextThing], .agg #[.int .i64 p.Holder, .int .i64 p.Slot]]) [] [(0, .agg #[v_rW, v_rT, v_rH, v_rN, .int .i64 r.NextWrit, .int .i64 r.NextThing]), (1, .agg #[.int .i64 p.Holder, .int .i64 p.Slot])] Tryz.func60 rfl rfl rfl rfl ?_
  refine R.reg rfl <| ?_
  refine R.s rfl (s.box (cs := §7) rfl rfl rfl) fun b1 => ?_
  refine R.s rfl (s.box (cs := §5) rfl rfl rfl) fun b2 => ?_
  refine R.u 1 rfl <| R.nil ?_
  refine R.reg rfl <| R.q (q.ldS 0 rfl rfl tAgg_33) rfl <| R.c (q.call eg_23 rfl rfl (fun w hw => (placeCheck_any (p) w  ))) rfl <| R.u 1 rfl <| R.nil ?_
  refine R.reg rfl <| R.u 1 rfl <| ?_
  by_cases h1 : placeFault p = 0
  · refine R.q (q.eqlE0 rfl rfl Tryz.underlying41 (by omega)) rfl <| R.u 1 rfl <| R.qg rfl §25 rfl <| R.qg rfl (q.ld 1 rfl rfl tOne_27 rfl) rfl <| R.qg rfl (q.ldS 0 rfl rfl tAgg_33) rfl <| R.cg rfl (q.call eg_25 rfl rfl (fun w hw => (atPlace_any _ (r.Held) (p) w ((fun _ => Wd.old s_rH) w hw) §9))) rfl <| ?_
    by_cases h2 : atH r.Held p = 0
    · refine R.qg rfl (q.neq rfl rfl (bne_eq_false_iff_eq.2 (by omega))) rfl <| R.u 1 rfl <| R.nil ?_
      refine R.condF rfl rfl ?_
      refine R.reg rfl <| R.u 2 rfl <| R.nil ?_
      exact R.rv rfl Tryz.results60 rfl (rE §16)
    · refine R.qg rfl (q.neq rfl rfl (bne_iff_ne.2 (by omega))) rfl <| R.u 1 rfl <| R.nil ?_
      refine R.condT rfl rfl ?_
      refine R.reg rfl <| R.q (q.iface rfl con_69) rfl <| R.u 1 rfl <| R.nil ?_
      refine R.reg rfl <| R.u 2 rfl <| R.nil ?_
      exact R.rv rfl Tryz.results60 rfl (errk (by decide) §16)
  · refine R.q (q.eqlE1 rfl rfl Tryz.underlying41 (by omega)) rfl <| R.u 7 rfl <| R.nil ?_
    refine R.condF rfl rfl ?_
    refine R.reg rfl <| R.u 2 rfl <| R.nil ?_
    exact R.rv rfl Tryz.results60 rfl (rE §16)

theorem addR_any (v_rW v_rT v_rH v_rN : Value) (r : Realm) (w0 : Writ) (p : Place) (w : World) (own : List Nat) (H : Wd w (blks [] ++ own) ([] ++ §26) §2 w) (hk : r.Held.length ≤ 3000 ∧ r.Writs.length ≤ 3000 ∧ 0 ≤ r.NextWrit ∧ r.NextWrit ≤ 3000) : Calls Tryz.prog 61 #[.agg #[v_rW, v_rT, v_rH, v_rN, .int .i64 r.NextWrit, .int .i64 r.NextThing], .agg #[.int .i64 w0.ID, .int .i64 w0.Thing, .int .i64 w0.Rights, .int .i64 w0.Badge, .int .i64 w0.From], .agg #[.int .i64 p.Holder, .int .i64 p.Slot]] w fun e w' => ∃ z : Value × Value × Value × Value, e = .returned (.agg #[z.1, z.2.1, z.2.2.1, z.2.2.2, .int .i64 (((addR r w0 p)).NextWrit), .int .i64 (((addR r w0 p)).NextThing)]) ∧ Wd w (blks [] ++ own) ([] ++ §26) [Res.ls z.1 (((addR r w0 p)).Writs : List Writ), Res.ls z.2.1 (((addR r w0 p)).Things : List Thing), Res.ls z.2.2.1 (((addR r w0 p)).Held : List Held), Res.ls z.2.2.2 (((addR r w0 p)).Notes : List Note)] w' := by
  have m_r_Writs := H.lenF 0 rfl
  have m_r_Things := H.lenF 1 rfl
  have m_r_Held := H.lenF 2 rfl
  have m_r_Notes := H.lenF 3 rfl
  have b1 := hk.1; have b2 := hk.2.1; have b3 := hk.2.2.1; have b4 := hk.2.2.2
  refine R.enterN (n := 29) (vs := [.agg #[v_rW, v_rT, v_rH, v_rN, .int .i64 r.NextWrit, .int .i64 r.NextThing], .agg #[.int .i64 w0.ID, .int .i64 w0.Thing, .int .i64 w0.Rights, .int .i64 w0.Badge, .int .i64 w0.From], .agg #[.int .i64 p.Holder, .int .i64 p.Slot]]) (B := §26) [(0, .agg #[v_rW, v_rT, v_rH, v_rN, .int .i64 r.NextWrit, .int .i64 r.NextThing]), (1, .agg #[.int .i64 w0.ID, .int .i64 w0.Thing, .int .i64 w0.Rights, .int .i64 w0.Badge, .int .i64 w0.From]), (2, .agg #[.int .i64 p.Holder, .int .i64 p.Slot])] Tryz.func61 rfl rfl rfl rfl H ?_
  refine R.reg rfl <| ?_
  refine R.s rfl (s.box (cs := §7) rfl rfl rfl) fun b1 => ?_
  refine R.s rfl (s.box (cs := §0) rfl rfl rfl) fun b2 => ?_
  refine R.s rfl (s.box (cs := §5) rfl rfl rfl) fun b3 => ?_
  refine R.s rfl (s.alloc (cs := §1) tZero_30 rfl rfl) fun b4 => ?_
  refine R.nil ?_
  refine R.regD (fuel := 8) (Wd w (blks [] ++ own) [Res.box b4 §1 30, Res.box b3 §5 33, Res.box b2 §0 39, Res.held w own] §2) rfl mixed rfl ?_
  refine D.q (i := 0) rfl §19 (fun _ => Wd.pik [0, 1, 2, 4] [0, 1, 2, 3] rfl rfl rfl) rfl §30 rfl <| D.q (i := 3) rfl §19 (fun _ => Wd.pik [0, 1, 2, 4] [0, 1, 2, 3] rfl rfl rfl) rfl (q.ldS 2 rfl rfl tAgg_39) rfl <| ?_
  refine D.two (i := 1) (j := 4) §19 rfl rfl ?_ ?_
  · refine Do.s (s.c (Qt.a (q.ld 3 rfl rfl tOne_25 rfl)) rfl) (fun _ => (fun _ => Wd.pik [0, 1, 2, 4] [0, 1, 2, 3] rfl rfl rfl)) rfl fun _ => ?_
    refine D.two (i := 2) (j := 4) §19 rfl rfl ?_ ?_
    · refine Do.s (B' := (fun bz0_ : Value => [Res.row 39 bz0_ (r.Writs : List Writ), Res.box b4 §1 30, Res.box b3 §5 33, Res.box b2 §0 39, Res.box b1 §7 30, Res.held w own])) (F' := (fun bz0_ : Value => §2)) (s.callV (B0 := []) (Br := [Res.box b4 §1 30, Res.box b3 §5 33, Res.box b2 §0 39, Res.box b1 §7 30, Res.held w own]) (F0 := [Res.ls v_rW (r.Writs : List Writ)]) [0, 1, 2, 3, 4] [0] (fun bz0_ : Value => bz0_) (fun bz0_ : Value => [Res.row 39 bz0_ (r.Writs : List Writ)]) (fun bz0_ : Value => []) rfl rfl rfl eg_44 rfl rfl (fun w own hw H => cloneWrit_any v_rW (r.Writs) w own H §9) rfl) (fun _ => (fun _ => Wd.pik [1, 2, 3, 5] [0, 1, 2, 3] rfl rfl rfl)) rfl fun z2 => ?_
      refine D.one (i := 4) §19 rfl ?_
      refine Do.s (s.bs (l := ([w0] : List Writ)) tSl_25 tZero_39 rfl rfl rfl rfl rfl rfl rfl) (fun _ => §8) rfl fun b5 => ?_
      refine D.one (i := 5) §19 rfl ?_
      refine Do.s (s.app (l2 := [w0]) 1 _ rfl rfl rfl §3 tApp_25 §6 §6 (fun _ => rfl) rfl) (fun _ => §8) rfl fun v1 => ?_
      refine D.q (i := 6) rfl §19 §8 rfl §30 rfl <| ?_
      refine D.one (i := 7) §19 rfl ?_
      refine Do.s (s.stV (us := [v1]) (cs' := [v1, v_rT, v_rH, v_rN, .int .i64 r.NextWrit, .int .i64 r.NextThing]) 5 _ rfl rfl rfl (fun w hw => Sl.cells1 ((fun _ => Wd.row 1 rfl) w hw)) (.inr ⟨tOne_25, rfl⟩) (fun w hw => (one_cons (Sl.one ((fun _ => Wd.row 1 rfl) w hw)) one_nil)) rfl rfl rfl) (fun _ => §8) rfl fun _ => ?_
      refine D.done §19 <| ?_
      refine R.reg rfl <| R.q (q.fld (off' := 4) rfl tFld_30_4 rfl) rfl <| R.q (q.ld 5 rfl rfl tOne_3 rfl) rfl <| R.q (q.add (r := r.NextWrit + 1) rfl rfl (wr (by omega))) rfl <| R.q (q.fld (off' := 4) rfl tFld_30_4 rfl) rfl <| ?_
      refine R.s rfl (s.st (us := [.int .i64 (r.NextWrit + 1)]) (cs' := [v1, v_rT, v_rH, v_rN, .int .i64 (r.NextWrit + 1), .int .i64 r.NextThing]) 5 _ rfl rfl rfl rfl (.inr ⟨tOne_3, rfl⟩) rfl rfl rfl rfl) fun _ => ?_
      refine R.nil ?_
      refine R.reg rfl <| R.q (q.fld (off' := 0) rfl tFld_33_0 rfl) rfl <| R.q (q.ld 3 rfl rfl tOne_3 rfl) rfl <| ?_
      by_cases h1 : 0 < p.Holder
      · refine R.q (q.gtr rfl rfl (decide_eq_true (by omega))) rfl <| R.nil ?_
        refine R.condT rfl rfl ?_
        refine R.reg rfl <| R.q §25 rfl <| R.q (q.ld 5 rfl rfl tOne_27 rfl) rfl <| R.q (q.ldS 3 rfl rfl tAgg_33) rfl <| R.q (q.fld (off' := 0) rfl tFld_39_0 rfl) rfl <| R.q (q.ld 4 rfl rfl tOne_3 rfl) rfl <| ?_
        refine R.s (B' := (fun bz0_ : Value => [Res.row 93 bz0_ ((putH r.Held p w0.ID) : List Held), Res.row 39 (.slice (some ⟨b5, 0, none⟩) 1 1) ([w0] : List Writ), Res.row 39 v1 ((r.Writs ++ ([w0])) : List Writ), Res.box b4 §1 30, Res.box b3 §5 33, Res.box b2 §0 39, Res.box b1 [v1, v_rT, v_rH, v_rN, .int .i64 (r.NextWrit + 1), .int .i64 r.NextThing] 30, Res.held w own])) (F' := (fun bz0_ : Value => §2)) rfl (s.callV (B0 := []) (Br := [Res.row 39 (.slice (some ⟨b5, 0, none⟩) 1 1) ([w0] : List Writ), Res.row 39 v1 ((r.Writs ++ ([w0])) : List Writ), Res.box b4 §1 30, Res.box b3 §5 33, Res.box b2 §0 39, Res.box b1 [v1, v_rT, v_rH, v_rN, .int .i64 (r.NextWrit + 1), .int .i64 r.NextThing] 30, Res.held w own]) (F0 := [Res.ls v_rH (r.Held : List Held)]) [0, 1, 2, 3, 4, 5, 6] [2] (fun bz0_ : Value => bz0_) (fun bz0_ : Value => [Res.row 93 bz0_ ((putH r.Held p w0.ID) : List Held)]) (fun bz0_ : Value => []) rfl rfl rfl eg_34 rfl rfl (fun w own hw H => put_any v_rH (r.Held) (p) (w0.ID) w own H §9) rfl) fun z3 => ?_
        refine R.q §25 rfl <| ?_
        refine R.s rfl (s.stV (us := [z3]) (cs' := [v1, v_rT, z3, v_rN, .int .i64 (r.NextWrit + 1), .int .i64 r.NextThing]) 6 _ rfl rfl rfl (fun w hw => Sl.cells1 (§3 w hw)) (.inr ⟨tOne_27, rfl⟩) (fun w hw => (one_cons (Sl.one (§3 w hw)) one_nil)) rfl rfl rfl) fun _ => ?_
        refine R.nil ?_
        refine R.reg rfl <| R.q (q.ldS 6 rfl rfl tAgg_30) rfl <| ?_
        refine R.s rfl (s.stV (us := [v1, v_rT, z3, v_rN, .int .i64 (r.NextWrit + 1), .int .i64 r.NextThing]) (cs' := [v1, v_rT, z3, v_rN, .int .i64 (r.NextWrit + 1), .int .i64 r.NextThing]) 3 _ rfl rfl rfl (fun _ _ => rfl) (.inl tAgg_30) (fun w hw => (one_cons (Sl.one ((fun _ => Wd.row 2 rfl) w hw)) (one_cons (Sl.one ((fun _ => Wd.fls 1 rfl) w hw)) (one_cons (Sl.one (§3 w hw)) §12)))) rfl rfl rfl) fun _ => ?_
        refine R.nil ?_
        refine R.mp (B' := [Res.row 93 z3 (putH r.Held p w0.ID : List Held), Res.row 39 (.slice (some ⟨b5, 0, none⟩) 1 1) ([w0] : List Writ), Res.box b4 [v1, v_rT, z3, v_rN, .int .i64 (r.NextWrit + 1), .int .i64 r.NextThing] 30, Res.box b3 §5 33, Res.box b2 §0 39, Res.box b1 [v1, v_rT, z3, v_rN, .int .i64 (r.NextWrit + 1), .int .i64 r.NextThing] 30, Res.held w own]) (fun _ hw => hw.lendL 2 _ rfl rfl) ?_
        refine R.mp (B' := [Res.row 39 (.slice (some ⟨b5, 0, none⟩) 1 1) ([w0] : List Writ), Res.box b4 [v1, v_rT, z3, v_rN, .int .i64 (r.NextWrit + 1), .int .i64 r.NextThing] 30, Res.box b3 §5 33, Res.box b2 §0 39, Res.box b1 [v1, v_rT, z3, v_rN, .int .i64 (r.NextWrit + 1), .int .i64 r.NextThing] 30, Res.held w own]) (fun _ hw => hw.lendL 0 _ rfl rfl) ?_
        have hz : addR r w0 p = (⟨(r.Writs ++ ([w0])), r.Things, putH r.Held p w0.ID, r.Notes, (r.NextWrit + 1), r.NextThing⟩ : Realm) := by (unfold addR; first | (rw [if_pos §4]; first | done | rfl | omega) | (rw [if_neg §4]; first | done | rfl | omega))
        rw [hz]
        exact R.w1 (v1, v_rT, z3, v_rN) [5] [1, 3, 0, 5] rfl Tryz.results61 (RV.cell 1 rfl rfl tAgg_30) rfl rfl rfl rfl
      · refine R.q (q.gtr rfl rfl (decide_eq_false (by omega))) rfl <| R.nil ?_
        refine R.condF rfl rfl ?_
        refine R.reg rfl <| R.q (q.ldS 5 rfl rfl tAgg_30) rfl <| ?_
        refine R.s rfl (s.stV (us := [v1, v_rT, v_rH, v_rN, .int .i64 (r.NextWrit + 1), .int .i64 r.NextThing]) (cs' := [v1, v_rT, v_rH, v_rN, .int .i64 (r.NextWrit + 1), .int .i64 r.NextThing]) 2 _ rfl rfl rfl (fun _ _ => rfl) (.inl tAgg_30) (fun w hw => (one_cons (Sl.one ((fun _ => Wd.row 1 rfl) w hw)) (one_cons (Sl.one ((fun _ => Wd.fls 1 rfl) w hw)) (one_cons (Sl.one ((fun _ => Wd.fls 2 rfl) w hw)) §12)))) rfl rfl rfl) fun _ => ?_
        refine R.nil ?_
        refine R.mp (B' := [Res.row 39 (.slice (some ⟨b5, 0, none⟩) 1 1) ([w0] : List Writ), Res.box b4 [v1, v_rT, v_rH, v_rN, .int .i64 (r.NextWrit + 1), .int .i64 r.NextThing] 30, Res.box b3 §5 33, Res.box b2 §0 39, Res.box b1 [v1, v_rT, v_rH, v_rN, .int .i64 (r.NextWrit + 1), .int .i64 r.NextThing] 30, Res.held w own]) (fun _ hw => hw.lendL 1 _ rfl rfl) ?_
        have hz : addR r w0 p = (⟨(r.Writs ++ ([w0])), r.Things, r.Held, r.Notes, (r.NextWrit + 1), r.NextThing⟩ : Realm) := by (unfold addR; first | (rw [if_pos §4]; first | done | rfl | omega) | (rw [if_neg §4]; first | done | rfl | omega))
        rw [hz]
        exact R.w1 (v1, v_rT, v_rH, v_rN) [5] [0, 2, 3, 4] rfl Tryz.results61 (RV.cell 1 rfl rfl tAgg_30) rfl rfl rfl rfl
    · refine Do.s (s.bs (l := ([w0] : List Writ)) tSl_25 tZero_39 rfl rfl rfl rfl rfl rfl rfl) (fun _ => (fun _ => Wd.pik [1, 2, 3, 5] [0, 1, 2, 3] rfl rfl rfl)) rfl fun b6 => ?_
      refine D.one (i := 2) §19 rfl ?_
      refine Do.s (B' := (fun bz0_ : Value => [Res.row 39 bz0_ (r.Writs : List Writ), Res.row 39 (.slice (some ⟨b6, 0, none⟩) 1 1) ([w0] : List Writ), Res.box b4 §1 30, Res.box b3 §5 33, Res.box b2 §0 39, Res.box b1 §7 30, Res.held w own])) (F' := (fun bz0_ : Value => §2)) (s.callV (B0 := []) (Br := [Res.row 39 (.slice (some ⟨b6, 0, none⟩) 1 1) ([w0] : List Writ), Res.box b4 §1 30, Res.box b3 §5 33, Res.box b2 §0 39, Res.box b1 §7 30, Res.held w own]) (F0 := [Res.ls v_rW (r.Writs : List Writ)]) [0, 1, 2, 3, 4, 5] [0] (fun bz0_ : Value => bz0_) (fun bz0_ : Value => [Res.row 39 bz0_ (r.Writs : List Writ)]) (fun bz0_ : Value => []) rfl rfl rfl eg_44 rfl rfl (fun w own hw H => cloneWrit_any v_rW (r.Writs) w own H §9) rfl) (fun _ => §8) rfl fun z4 => ?_
      refine D.one (i := 5) §19 rfl ?_
      refine Do.s (s.app (l2 := [w0]) 0 _ rfl rfl rfl (fun _ => Wd.row 1 rfl) tApp_25 §6 §6 (fun _ => rfl) rfl) (fun _ => §8) rfl fun v2 => ?_
      refine D.q (i := 6) rfl §19 §8 rfl §30 rfl <| ?_
      refine D.one (i := 7) §19 rfl ?_
      refine Do.s (s.stV (us := [v2]) (cs' := [v2, v_rT, v_rH, v_rN, .int .i64 r.NextWrit, .int .i64 r.NextThing]) 5 _ rfl rfl rfl (fun w hw => Sl.cells1 (§3 w hw)) (.inr ⟨tOne_25, rfl⟩) (fun w hw => (one_cons (Sl.one (§3 w hw)) one_nil)) rfl rfl rfl) (fun _ => §8) rfl fun _ => ?_
      refine D.done §19 <| ?_
      refine R.reg rfl <| R.q (q.fld (off' := 4) rfl tFld_30_4 rfl) rfl <| R.q (q.ld 5 rfl rfl tOne_3 rfl) rfl <| R.q (q.add (r := r.NextWrit + 1) rfl rfl (wr (by omega))) rfl <| R.q (q.fld (off' := 4) rfl tFld_30_4 rfl) rfl <| ?_
      refine R.s rfl (s.st (us := [.int .i64 (r.NextWrit + 1)]) (cs' := [v2, v_rT, v_rH, v_rN, .int .i64 (r.NextWrit + 1), .int .i64 r.NextThing]) 5 _ rfl rfl rfl rfl (.inr ⟨tOne_3, rfl⟩) rfl rfl rfl rfl) fun _ => ?_
      refine R.nil ?_
      refine R.reg rfl <| R.q (q.fld (off' := 0) rfl tFld_33_0 rfl) rfl <| R.q (q.ld 3 rfl rfl tOne_3 rfl) rfl <| ?_
      by_cases h2 : 0 < p.Holder
      · refine R.q (q.gtr rfl rfl (decide_eq_true (by omega))) rfl <| R.nil ?_
        refine R.condT rfl rfl ?_
        refine R.reg rfl <| R.q §25 rfl <| R.q (q.ld 5 rfl rfl tOne_27 rfl) rfl <| R.q (q.ldS 3 rfl rfl tAgg_33) rfl <| R.q (q.fld (off' := 0) rfl tFld_39_0 rfl) rfl <| R.q (q.ld 4 rfl rfl tOne_3 rfl) rfl <| ?_
        refine R.s (B' := (fun bz0_ : Value => [Res.row 93 bz0_ ((putH r.Held p w0.ID) : List Held), Res.row 39 v2 ((r.Writs ++ ([w0])) : List Writ), Res.row 39 (.slice (some ⟨b6, 0, none⟩) 1 1) ([w0] : List Writ), Res.box b4 §1 30, Res.box b3 §5 33, Res.box b2 §0 39, Res.box b1 [v2, v_rT, v_rH, v_rN, .int .i64 (r.NextWrit + 1), .int .i64 r.NextThing] 30, Res.held w own])) (F' := (fun bz0_ : Value => §2)) rfl (s.callV (B0 := []) (Br := [Res.row 39 v2 ((r.Writs ++ ([w0])) : List Writ), Res.row 39 (.slice (some ⟨b6, 0, none⟩) 1 1) ([w0] : List Writ), Res.box b4 §1 30, Res.box b3 §5 33, Res.box b2 §0 39, Res.box b1 [v2, v_rT, v_rH, v_rN, .int .i64 (r.NextWrit + 1), .int .i64 r.NextThing] 30, Res.held w own]) (F0 := [Res.ls v_rH (r.Held : List Held)]) [0, 1, 2, 3, 4, 5, 6] [2] (fun bz0_ : Value => bz0_) (fun bz0_ : Value => [Res.row 93 bz0_ ((putH r.Held p w0.ID) : List Held)]) (fun bz0_ : Value => []) rfl rfl rfl eg_34 rfl rfl (fun w own hw H => put_any v_rH (r.Held) (p) (w0.ID) w own H §9) rfl) fun z5 => ?_
        refine R.q §25 rfl <| ?_
        refine R.s rfl (s.stV (us := [z5]) (cs' := [v2, v_rT, z5, v_rN, .int .i64 (r.NextWrit + 1), .int .i64 r.NextThing]) 6 _ rfl rfl rfl (fun w hw => Sl.cells1 (§3 w hw)) (.inr ⟨tOne_27, rfl⟩) (fun w hw => (one_cons (Sl.one (§3 w hw)) one_nil)) rfl rfl rfl) fun _ => ?_
        refine R.nil ?_
        refine R.reg rfl <| R.q (q.ldS 6 rfl rfl tAgg_30) rfl <| ?_
        refine R.s rfl (s.stV (us := [v2, v_rT, z5, v_rN, .int .i64 (r.NextWrit + 1), .int .i64 r.NextThing]) (cs' := [v2, v_rT, z5, v_rN, .int .i64 (r.NextWrit + 1), .int .i64 r.NextThing]) 3 _ rfl rfl rfl (fun _ _ => rfl) (.inl tAgg_30) (fun w hw => (one_cons (Sl.one ((fun _ => Wd.row 1 rfl) w hw)) (one_cons (Sl.one ((fun _ => Wd.fls 1 rfl) w hw)) (one_cons (Sl.one (§3 w hw)) §12)))) rfl rfl rfl) fun _ => ?_
        refine R.nil ?_
        refine R.mp (B' := [Res.row 93 z5 (putH r.Held p w0.ID : List Held), Res.row 39 (.slice (some ⟨b6, 0, none⟩) 1 1) ([w0] : List Writ), Res.box b4 [v2, v_rT, z5, v_rN, .int .i64 (r.NextWrit + 1), .int .i64 r.NextThing] 30, Res.box b3 §5 33, Res.box b2 §0 39, Res.box b1 [v2, v_rT, z5, v_rN, .int .i64 (r.NextWrit + 1), .int .i64 r.NextThing] 30, Res.held w own]) (fun _ hw => hw.lendL 1 _ rfl rfl) ?_
        refine R.mp (B' := [Res.row 39 (.slice (some ⟨b6, 0, none⟩) 1 1) ([w0] : List Writ), Res.box b4 [v2, v_rT, z5, v_rN, .int .i64 (r.NextWrit + 1), .int .i64 r.NextThing] 30, Res.box b3 §5 33, Res.box b2 §0 39, Res.box b1 [v2, v_rT, z5, v_rN, .int .i64 (r.NextWrit + 1), .int .i64 r.NextThing] 30, Res.held w own]) (fun _ hw => hw.lendL 0 _ rfl rfl) ?_
        have hz : addR r w0 p = (⟨(r.Writs ++ ([w0])), r.Things, putH r.Held p w0.ID, r.Notes, (r.NextWrit + 1), r.NextThing⟩ : Realm) := by (unfold addR; first | (rw [if_pos §4]; first | done | rfl | omega) | (rw [if_neg §4]; first | done | rfl | omega))
        rw [hz]
        exact R.w1 (v2, v_rT, z5, v_rN) [5] [1, 3, 0, 5] rfl Tryz.results61 (RV.cell 1 rfl rfl tAgg_30) rfl rfl rfl rfl
      · refine R.q (q.gtr rfl rfl (decide_eq_false (by omega))) rfl <| R.nil ?_
        refine R.condF rfl rfl ?_
        refine R.reg rfl <| R.q (q.ldS 5 rfl rfl tAgg_30) rfl <| ?_
        refine R.s rfl (s.stV (us := [v2, v_rT, v_rH, v_rN, .int .i64 (r.NextWrit + 1), .int .i64 r.NextThing]) (cs' := [v2, v_rT, v_rH, v_rN, .int .i64 (r.NextWrit + 1), .int .i64 r.NextThing]) 2 _ rfl rfl rfl (fun _ _ => rfl) (.inl tAgg_30) (fun w hw => (one_cons (Sl.one (§3 w hw)) (one_cons (Sl.one ((fun _ => Wd.fls 1 rfl) w hw)) (one_cons (Sl.one ((fun _ => Wd.fls 2 rfl) w hw)) §12)))) rfl rfl rfl) fun _ => ?_
        refine R.nil ?_
        refine R.mp (B' := [Res.row 39 (.slice (some ⟨b6, 0, none⟩) 1 1) ([w0] : List Writ), Res.box b4 [v2, v_rT, v_rH, v_rN, .int .i64 (r.NextWrit + 1), .int .i64 r.NextThing] 30, Res.box b3 §5 33, Res.box b2 §0 39, Res.box b1 [v2, v_rT, v_rH, v_rN, .int .i64 (r.NextWrit + 1), .int .i64 r.NextThing] 30, Res.held w own]) (fun _ hw => hw.lendL 0 _ rfl rfl) ?_
        have hz : addR r w0 p = (⟨(r.Writs ++ ([w0])), r.Things, r.Held, r.Notes, (r.NextWrit + 1), r.NextThing⟩ : Realm) := by (unfold addR; first | (rw [if_pos §4]; first | done | rfl | omega) | (rw [if_neg §4]; first | done | rfl | omega))
        rw [hz]
        exact R.w1 (v2, v_rT, v_rH, v_rN) [5] [0, 2, 3, 4] rfl Tryz.results61 (RV.cell 1 rfl rfl tAgg_30) rfl rfl rfl rfl
  · refine Do.s (s.bs (l := ([w0] : List Writ)) tSl_25 tZero_39 rfl rfl rfl rfl rfl rfl rfl) (fun _ => (fun _ => Wd.pik [1, 2, 3, 5] [0, 1, 2, 3] rfl rfl rfl)) rfl fun b7 => ?_
    refine D.one (i := 1) §19 rfl ?_
    refine Do.s (s.c (Qt.a (q.ld 4 rfl rfl tOne_25 rfl)) rfl) (fun _ => (fun _ => Wd.pik [1, 2, 3, 5] [0, 1, 2, 3] rfl rfl rfl)) rfl fun _ => ?_
    refine D.one (i := 2) §19 rfl ?_
    refine Do.s (B' := (fun bz0_ : Value => [Res.row 39 bz0_ (r.Writs : List Writ), Res.row 39 (.slice (some ⟨b7, 0, none⟩) 1 1) ([w0] : List Writ), Res.box b4 §1 30, Res.box b3 §5 33, Res.box b2 §0 39, Res.box b1 §7 30, Res.held w own])) (F' := (fun bz0_ : Value => §2)) (s.callV (B0 := []) (Br := [Res.row 39 (.slice (some ⟨b7, 0, none⟩) 1 1) ([w0] : List Writ), Res.box b4 §1 30, Res.box b3 §5 33, Res.box b2 §0 39, Res.box b1 §7 30, Res.held w own]) (F0 := [Res.ls v_rW (r.Writs : List Writ)]) [0, 1, 2, 3, 4, 5] [0] (fun bz0_ : Value => bz0_) (fun bz0_ : Value => [Res.row 39 bz0_ (r.Writs : List Writ)]) (fun bz0_ : Value => []) rfl rfl rfl eg_44 rfl rfl (fun w own hw H => cloneWrit_any v_rW (r.Writs) w own H §9) rfl) (fun _ => §8) rfl fun z6 => ?_
    refine D.one (i := 5) §19 rfl ?_
    refine Do.s (s.app (l2 := [w0]) 0 _ rfl rfl rfl (fun _ => Wd.row 1 rfl) tApp_25 §6 §6 (fun _ => rfl) rfl) (fun _ => §8) rfl fun v3 => ?_
    refine D.q (i := 6) rfl §19 §8 rfl §30 rfl <| ?_
    refine D.one (i := 7) §19 rfl ?_
    refine Do.s (s.stV (us := [v3]) (cs' := [v3, v_rT, v_rH, v_rN, .int .i64 r.NextWrit, .int .i64 r.NextThing]) 5 _ rfl rfl rfl (fun w hw => Sl.cells1 (§3 w hw)) (.inr ⟨tOne_25, rfl⟩) (fun w hw => (one_cons (Sl.one (§3 w hw)) one_nil)) rfl rfl rfl) (fun _ => §8) rfl fun _ => ?_
    refine D.done §19 <| ?_
    refine R.reg rfl <| R.q (q.fld (off' := 4) rfl tFld_30_4 rfl) rfl <| R.q (q.ld 5 rfl rfl tOne_3 rfl) rfl <| R.q (q.add (r := r.NextWrit + 1) rfl rfl (wr (by omega))) rfl <| R.q (q.fld (off' := 4) rfl tFld_30_4 rfl) rfl <| ?_
    refine R.s rfl (s.st (us := [.int .i64 (r.NextWrit + 1)]) (cs' := [v3, v_rT, v_rH, v_rN, .int .i64 (r.NextWrit + 1), .int .i64 r.NextThing]) 5 _ rfl rfl rfl rfl (.inr ⟨tOne_3, rfl⟩) rfl rfl rfl rfl) fun _ => ?_
    refine R.nil ?_
    refine R.reg rfl <| R.q (q.fld (off' := 0) rfl tFld_33_0 rfl) rfl <| R.q (q.ld 3 rfl rfl tOne_3 rfl) rfl <| ?_
    by_cases h3 : 0 < p.Holder
    · refine R.q (q.gtr rfl rfl (decide_eq_true (by omega))) rfl <| R.nil ?_
      refine R.condT rfl rfl ?_
      refine R.reg rfl <| R.q §25 rfl <| R.q (q.ld 5 rfl rfl tOne_27 rfl) rfl <| R.q (q.ldS 3 rfl rfl tAgg_33) rfl <| R.q (q.fld (off' := 0) rfl tFld_39_0 rfl) rfl <| R.q (q.ld 4 rfl rfl tOne_3 rfl) rfl <| ?_
      refine R.s (B' := (fun bz0_ : Value => [Res.row 93 bz0_ ((putH r.Held p w0.ID) : List Held), Res.row 39 v3 ((r.Writs ++ ([w0])) : List Writ), Res.row 39 (.slice (some ⟨b7, 0, none⟩) 1 1) ([w0] : List Writ), Res.box b4 §1 30, Res.box b3 §5 33, Res.box b2 §0 39, Res.box b1 [v3, v_rT, v_rH, v_rN, .int .i64 (r.NextWrit + 1), .int .i64 r.NextThing] 30, Res.held w own])) (F' := (fun bz0_ : Value => §2)) rfl (s.callV (B0 := []) (Br := [Res.row 39 v3 ((r.Writs ++ ([w0])) : List Writ), Res.row 39 (.slice (some ⟨b7, 0, none⟩) 1 1) ([w0] : List Writ), Res.box b4 §1 30, Res.box b3 §5 33, Res.box b2 §0 39, Res.box b1 [v3, v_rT, v_rH, v_rN, .int .i64 (r.NextWrit + 1), .int .i64 r.NextThing] 30, Res.held w own]) (F0 := [Res.ls v_rH (r.Held : List Held)]) [0, 1, 2, 3, 4, 5, 6] [2] (fun bz0_ : Value => bz0_) (fun bz0_ : Value => [Res.row 93 bz0_ ((putH r.Held p w0.ID) : List Held)]) (fun bz0_ : Value => []) rfl rfl rfl eg_34 rfl rfl (fun w own hw H => put_any v_rH (r.Held) (p) (w0.ID) w own H §9) rfl) fun z7 => ?_
      refine R.q §25 rfl <| ?_
      refine R.s rfl (s.stV (us := [z7]) (cs' := [v3, v_rT, z7, v_rN, .int .i64 (r.NextWrit + 1), .int .i64 r.NextThing]) 6 _ rfl rfl rfl (fun w hw => Sl.cells1 (§3 w hw)) (.inr ⟨tOne_27, rfl⟩) (fun w hw => (one_cons (Sl.one (§3 w hw)) one_nil)) rfl rfl rfl) fun _ => ?_
      refine R.nil ?_
      refine R.reg rfl <| R.q (q.ldS 6 rfl rfl tAgg_30) rfl <| ?_
      refine R.s rfl (s.stV (us := [v3, v_rT, z7, v_rN, .int .i64 (r.NextWrit + 1), .int .i64 r.NextThing]) (cs' := [v3, v_rT, z7, v_rN, .int .i64 (r.NextWrit + 1), .int .i64 r.NextThing]) 3 _ rfl rfl rfl (fun _ _ => rfl) (.inl tAgg_30) (fun w hw => (one_cons (Sl.one ((fun _ => Wd.row 1 rfl) w hw)) (one_cons (Sl.one ((fun _ => Wd.fls 1 rfl) w hw)) (one_cons (Sl.one (§3 w hw)) §12)))) rfl rfl rfl) fun _ => ?_
      refine R.nil ?_
      refine R.mp (B' := [Res.row 93 z7 (putH r.Held p w0.ID : List Held), Res.row 39 (.slice (some ⟨b7, 0, none⟩) 1 1) ([w0] : List Writ), Res.box b4 [v3, v_rT, z7, v_rN, .int .i64 (r.NextWrit + 1), .int .i64 r.NextThing] 30, Res.box b3 §5 33, Res.box b2 §0 39, Res.box b1 [v3, v_rT, z7, v_rN, .int .i64 (r.NextWrit + 1), .int .i64 r.NextThing] 30, Res.held w own]) (fun _ hw => hw.lendL 1 _ rfl rfl) ?_
      refine R.mp (B' := [Res.row 39 (.slice (some ⟨b7, 0, none⟩) 1 1) ([w0] : List Writ), Res.box b4 [v3, v_rT, z7, v_rN, .int .i64 (r.NextWrit + 1), .int .i64 r.NextThing] 30, Res.box b3 §5 33, Res.box b2 §0 39, Res.box b1 [v3, v_rT, z7, v_rN, .int .i64 (r.NextWrit + 1), .int .i64 r.NextThing] 30, Res.held w own]) (fun _ hw => hw.lendL 0 _ rfl rfl) ?_
      have hz : addR r w0 p = (⟨(r.Writs ++ ([w0])), r.Things, putH r.Held p w0.ID, r.Notes, (r.NextWrit + 1), r.NextThing⟩ : Realm) := by (unfold addR; first | (rw [if_pos §4]; first | done | rfl | omega) | (rw [if_neg §4]; first | done | rfl | omega))
      rw [hz]
      exact R.w1 (v3, v_rT, z7, v_rN) [5] [1, 3, 0, 5] rfl Tryz.results61 (RV.cell 1 rfl rfl tAgg_30) rfl rfl rfl rfl
    · refine R.q (q.gtr rfl rfl (decide_eq_false (by omega))) rfl <| R.nil ?_
      refine R.condF rfl rfl ?_
      refine R.reg rfl <| R.q (q.ldS 5 rfl rfl tAgg_30) rfl <| ?_
      refine R.s rfl (s.stV (us := [v3, v_rT, v_rH, v_rN, .int .i64 (r.NextWrit + 1), .int .i64 r.NextThing]) (cs' := [v3, v_rT, v_rH, v_rN, .int .i64 (r.NextWrit + 1), .int .i64 r.NextThing]) 2 _ rfl rfl rfl (fun _ _ => rfl) (.inl tAgg_30) (fun w hw => (one_cons (Sl.one (§3 w hw)) (one_cons (Sl.one ((fun _ => Wd.fls 1 rfl) w hw)) (one_cons (Sl.one ((fun _ => Wd.fls 2 rfl) w hw)) §12)))) rfl rfl rfl) fun _ => ?_
      refine R.nil ?_
      refine R.mp (B' := [Res.row 39 (.slice (some ⟨b7, 0, none⟩) 1 1) ([w0] : List Writ), Res.box b4 [v3, v_rT, v_rH, v_rN, .int .i64 (r.NextWrit + 1), .int .i64 r.NextThing] 30, Res.box b3 §5 33, Res.box b2 §0 39, Res.box b1 [v3, v_rT, v_rH, v_rN, .int .i64 (r.NextWrit + 1), .int .i64 r.NextThing] 30, Res.held w own]) (fun _ hw => hw.lendL 0 _ rfl rfl) ?_
      have hz : addR r w0 p = (⟨(r.Writs ++ ([w0])), r.Things, r.Held, r.Notes, (r.NextWrit + 1), r.NextThing⟩ : Realm) := by (unfold addR; first | (rw [if_pos §4]; first | done | rfl | omega) | (rw [if_neg §4]; first | done | rfl | omega))
      rw [hz]
      exact R.w1 (v3, v_rT, v_rH, v_rN) [5] [0, 2, 3, 4] rfl Tryz.results61 (RV.cell 1 rfl rfl tAgg_30) rfl rfl rfl rfl

theorem newR_any  (w : World) (own : List Nat) (H : Wd w (blks [] ++ own) ([] ++ §26) [] w)  : Calls Tryz.prog 6 #[] w fun e w' => ∃ z : Value × Value × Value × Value, e = .returned (.agg #[z.1, z.2.1, z.2.2.1, z.2.2.2, .int .i64 (((⟨[], [], [], [], 1, 1⟩ : Realm)).NextWrit), .int .i64 (((⟨[], [], [], [], 1, 1⟩ : Realm)).NextThing)]) ∧ Wd w (blks [] ++ own) ([] ++ §26) [Res.ls z.1 (((⟨[], [], [], [], 1, 1⟩ : Realm)).Writs : List Writ), Res.ls z.2.1 (((⟨[], [], [], [], 1, 1⟩ : Realm)).Things : List Thing), Res.ls z.2.2.1 (((⟨[], [], [], [], 1, 1⟩ : Realm)).Held : List Held), Res.ls z.2.2.2 (((⟨[], [], [], [], 1, 1⟩ : Realm)).Notes : List Note)] w' := by
  refine R.enterN (n := 2) (vs := []) (B := §26) [] Tryz.func6 rfl rfl rfl rfl H ?_
  refine R.reg rfl <| ?_
  refine R.s rfl (s.alloc (cs := §1) tZero_30 rfl rfl) fun b1 => ?_
  refine R.nil ?_
  refine R.reg rfl <| R.q (q.build (cs := [.slice none 0 0, .slice none 0 0, .slice none 0 0, .slice none 0 0, .int .i64 1, .int .i64 1]) tB_30 rfl rfl) rfl <| ?_
  refine R.s rfl (s.st (us := [.slice none 0 0, .slice none 0 0, .slice none 0 0, .slice none 0 0, .int .i64 1, .int .i64 1]) (cs' := [.slice none 0 0, .slice none 0 0, .slice none 0 0, .slice none 0 0, .int .i64 1, .int .i64 1]) 0 _ rfl rfl rfl rfl (.inl tAgg_30) rfl rfl rfl rfl) fun _ => ?_
  refine R.nil ?_
  refine R.mp (fun _ hw => hw.nilL (α := Writ)) ?_
  refine R.mp (fun _ hw => hw.nilL (α := Thing)) ?_
  refine R.mp (fun _ hw => hw.nilL (α := Held)) ?_
  refine R.mp (fun _ hw => hw.nilL (α := Note)) ?_
  exact R.w1 ((.slice none 0 0), (.slice none 0 0), (.slice none 0 0), (.slice none 0 0)) [1] [3, 2, 1, 0] rfl Tryz.results6 (RV.cell 0 rfl rfl tAgg_30) rfl rfl rfl rfl

theorem mayLit_any (t : Thing) (w0 : Writ) (b_w0 : Nat) (w : World) (k_w0 : (Res.box b_w0 §0 39).ok w) : Calls Tryz.prog 66 #[.agg #[.int .i64 t.ID, .int .i64 t.Kind, .string t.Data], .pointer (some ⟨b_w0, 0, none⟩)] w fun e w' => e = .returned (.bool (t.ID == w0.Thing)) ∧ Ext w w' := by
  refine R.enter (n := 9) (vs := [.agg #[.int .i64 t.ID, .int .i64 t.Kind, .string t.Data], .pointer (some ⟨b_w0, 0, none⟩)]) [] [(0, .agg #[.int .i64 t.ID, .int .i64 t.Kind, .string t.Data]), (1, .pointer (some ⟨b_w0, 0, none⟩))] Tryz.func66 rfl rfl rfl rfl ?_
  refine R.oldF (r := Res.box b_w0 §0 39) k_w0 (box_lt k_w0) ?_
  refine R.reg rfl <| ?_
  refine R.s rfl (s.box (cs := [.int .i64 t.ID, .int .i64 t.Kind, .string t.Data]) rfl rfl rfl) fun b1 => ?_
  refine R.u 1 rfl <| R.nil ?_
  refine R.reg rfl <| R.q (q.fld (off' := 0) rfl tFld_74_0 rfl) rfl <| R.q (q.ld 0 rfl rfl tOne_3 rfl) rfl <| R.q (q.fld (off' := 1) rfl tFld_39_1 rfl) rfl <| R.q (q.ldF 0 rfl rfl tOne_3 rfl) rfl <| ?_
  by_cases h1 : t.ID = w0.Thing
  · refine R.q (q.eql rfl rfl (beq_iff_eq.2 (by omega))) rfl <| R.u 1 rfl <| R.nil ?_
    exact R.rv rfl Tryz.results66 rfl (rB §28)
  · refine R.q §24 rfl <| R.u 1 rfl <| R.nil ?_
    exact R.rv rfl Tryz.results66 rfl (rB §28)

theorem takeLit_any (t : Note) (w0 : Writ) (b_w0 : Nat) (w : World) (k_w0 : (Res.box b_w0 §0 39).ok w) : Calls Tryz.prog 32 #[.agg #[.int .i64 t.Port, .string t.Data, .int .i64 t.Badge, .int .i64 t.Writ], .pointer (some ⟨b_w0, 0, none⟩)] w fun e w' => e = .returned (.bool (t.Port == w0.Thing)) ∧ Ext w w' := by
  refine R.enter (n := 9) (vs := [.agg #[.int .i64 t.Port, .string t.Data, .int .i64 t.Badge, .int .i64 t.Writ], .pointer (some ⟨b_w0, 0, none⟩)]) [] [(0, .agg #[.int .i64 t.Port, .string t.Data, .int .i64 t.Badge, .int .i64 t.Writ]), (1, .pointer (some ⟨b_w0, 0, none⟩))] Tryz.func32 rfl rfl rfl rfl ?_
  refine R.oldF (r := Res.box b_w0 §0 39) k_w0 (box_lt k_w0) ?_
  refine R.reg rfl <| ?_
  refine R.s rfl (s.box (cs := [.int .i64 t.Port, .string t.Data, .int .i64 t.Badge, .int .i64 t.Writ]) rfl rfl rfl) fun b1 => ?_
  refine R.u 1 rfl <| R.nil ?_
  refine R.reg rfl <| R.q (q.fld (off' := 0) rfl tFld_52_0 rfl) rfl <| R.q (q.ld 0 rfl rfl tOne_3 rfl) rfl <| R.q (q.fld (off' := 1) rfl tFld_39_1 rfl) rfl <| R.q (q.ldF 0 rfl rfl tOne_3 rfl) rfl <| ?_
  by_cases h1 : t.Port = w0.Thing
  · refine R.q (q.eql rfl rfl (beq_iff_eq.2 (by omega))) rfl <| R.u 1 rfl <| R.nil ?_
    exact R.rv rfl Tryz.results32 rfl (rB §28)
  · refine R.q §24 rfl <| R.u 1 rfl <| R.nil ?_
    exact R.rv rfl Tryz.results32 rfl (rB §28)

theorem sweepLit1_any (t : Thing) (v_ts : Value) (ts : List Int) (b_ts : Nat) (w : World) (k_ts : (Res.box b_ts [v_ts] 116).ok w) (s_ts : Sl w v_ts ts) : Calls Tryz.prog 76 #[.agg #[.int .i64 t.ID, .int .i64 t.Kind, .string t.Data], .pointer (some ⟨b_ts, 0, none⟩)] w fun e w' => e = .returned (.bool (!decide (t.ID ∈ ts))) ∧ Ext w w' := by
  refine R.enter (n := 9) (vs := [.agg #[.int .i64 t.ID, .int .i64 t.Kind, .string t.Data], .pointer (some ⟨b_ts, 0, none⟩)]) [] [(0, .agg #[.int .i64 t.ID, .int .i64 t.Kind, .string t.Data]), (1, .pointer (some ⟨b_ts, 0, none⟩))] Tryz.func76 rfl rfl rfl rfl ?_
  refine R.oldF (r := Res.box b_ts [v_ts] 116) k_ts (box_lt k_ts) ?_
  refine R.reg rfl <| ?_
  refine R.s rfl (s.box (cs := [.int .i64 t.ID, .int .i64 t.Kind, .string t.Data]) rfl rfl rfl) fun b1 => ?_
  refine R.u 1 rfl <| R.nil ?_
  refine R.reg rfl <| R.q (q.ldF 0 rfl rfl tOne_116 rfl) rfl <| R.q (q.fld (off' := 0) rfl tFld_74_0 rfl) rfl <| R.q (q.ld 0 rfl rfl tOne_3 rfl) rfl <| R.c (q.call eg_77 rfl rfl (fun w hw => (containsI_any _ (ts) (t.ID) w ((fun _ => Wd.old s_ts) w hw) ))) rfl <| R.q (q.not rfl) rfl <| R.u 1 rfl <| R.nil ?_
  exact R.rv rfl Tryz.results76 rfl (rB (by (rfl)))

theorem sweepLit2_any (h : Held) (v_rW v_rT v_rH v_rN : Value) (r : Realm) (b_r : Nat) (w : World) (k_r : (Res.box b_r §7 30).ok w) (s_rW : Sl w v_rW r.Writs) (s_rT : Sl w v_rT r.Things) (s_rH : Sl w v_rH r.Held) (s_rN : Sl w v_rN r.Notes) : Calls Tryz.prog 79 #[.agg #[.int .i64 h.Place.Holder, .int .i64 h.Place.Slot, .int .i64 h.Writ], .pointer (some ⟨b_r, 0, none⟩)] w fun e w' => e = .returned (.bool (decide (findW r.Writs h.Writ < 0))) ∧ Ext w w' := by
  refine R.enter (n := 10) (vs := [.agg #[.int .i64 h.Place.Holder, .int .i64 h.Place.Slot, .int .i64 h.Writ], .pointer (some ⟨b_r, 0, none⟩)]) [] [(0, .agg #[.int .i64 h.Place.Holder, .int .i64 h.Place.Slot, .int .i64 h.Writ]), (1, .pointer (some ⟨b_r, 0, none⟩))] Tryz.func79 rfl rfl rfl rfl ?_
  refine R.oldF (r := Res.box b_r §7 30) k_r (box_lt k_r) ?_
  refine R.reg rfl <| ?_
  refine R.s rfl (s.box (cs := [.int .i64 h.Place.Holder, .int .i64 h.Place.Slot, .int .i64 h.Writ]) rfl rfl rfl) fun b1 => ?_
  refine R.u 1 rfl <| R.nil ?_
  refine R.reg rfl <| R.q §30 rfl <| R.q (q.ldF 0 rfl rfl tOne_25 rfl) rfl <| R.q (q.fld (off' := 2) rfl tFld_93_1 rfl) rfl <| R.q (q.ld 0 rfl rfl tOne_3 rfl) rfl <| ?_
  rcases findW_cases r.Writs h.Writ with ⟨c1f, c1n⟩ | ⟨c1j, c1h, c1f, c1e, c1m⟩
  · refine R.c (q.call eg_24 rfl rfl (fun w hw => (cv (congrArg (Value.int .i64) c1f) (find_any _ (r.Writs) (h.Writ) w ((fun _ => Wd.old s_rW) w hw) )))) rfl <| R.q (q.lss (b := true) rfl rfl (by decide)) rfl <| R.u 1 rfl <| R.nil ?_
    exact R.rv rfl Tryz.results79 rfl (rB (by (first | exact (decide_eq_true (by omega)).symm | exact (decide_eq_false (by omega)).symm)))
  · refine R.c (q.call eg_24 rfl rfl (fun w hw => (cv (congrArg (Value.int .i64) c1f) (find_any _ (r.Writs) (h.Writ) w ((fun _ => Wd.old s_rW) w hw) )))) rfl <| R.q §21 rfl <| R.u 1 rfl <| R.nil ?_
    exact R.rv rfl Tryz.results79 rfl (rB (by (first | exact (decide_eq_true (by omega)).symm | exact (decide_eq_false (by omega)).symm)))

theorem revokeLit_any (x : Writ) (v_gs : Value) (gs : List Int) (b_gs : Nat) (w : World) (k_gs : (Res.box b_gs [v_gs] 116).ok w) (s_gs : Sl w v_gs gs) : Calls Tryz.prog 85 #[.agg #[.int .i64 x.ID, .int .i64 x.Thing, .int .i64 x.Rights, .int .i64 x.Badge, .int .i64 x.From], .pointer (some ⟨b_gs, 0, none⟩)] w fun e w' => e = .returned (.bool (decide (x.ID ∈ gs))) ∧ Ext w w' := by
  refine R.enter (n := 8) (vs := [.agg #[.int .i64 x.ID, .int .i64 x.Thing, .int .i64 x.Rights, .int .i64 x.Badge, .int .i64 x.From], .pointer (some ⟨b_gs, 0, none⟩)]) [] [(0, .agg #[.int .i64 x.ID, .int .i64 x.Thing, .int .i64 x.Rights, .int .i64 x.Badge, .int .i64 x.From]), (1, .pointer (some ⟨b_gs, 0, none⟩))] Tryz.func85 rfl rfl rfl rfl ?_
  refine R.oldF (r := Res.box b_gs [v_gs] 116) k_gs (box_lt k_gs) ?_
  refine R.reg rfl <| ?_
  refine R.s rfl (s.box (cs := [.int .i64 x.ID, .int .i64 x.Thing, .int .i64 x.Rights, .int .i64 x.Badge, .int .i64 x.From]) rfl rfl rfl) fun b1 => ?_
  refine R.u 1 rfl <| R.nil ?_
  refine R.reg rfl <| R.q (q.ldF 0 rfl rfl tOne_116 rfl) rfl <| R.q (q.fld (off' := 0) rfl tFld_39_0 rfl) rfl <| R.q (q.ld 0 rfl rfl tOne_3 rfl) rfl <| R.c (q.call eg_77 rfl rfl (fun w hw => (containsI_any _ (gs) (x.ID) w ((fun _ => Wd.old s_gs) w hw) ))) rfl <| R.u 1 rfl <| R.nil ?_
  exact R.rv rfl Tryz.results85 rfl (rB (by (rfl)))

end Go.Proofs.YtpipachmngdegaaGreat
end
