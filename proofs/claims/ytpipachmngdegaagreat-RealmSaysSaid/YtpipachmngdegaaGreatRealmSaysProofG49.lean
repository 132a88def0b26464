import Derived.Test.YtpipachmngdegaaGreatRealmSaysProofG48
section
/-
  The walk of the law of chapter 5.
-/
namespace Go.Proofs.YtpipachmngdegaaGreat
open Go Go.RowKit
set_option linter.unusedVariables false
set_option linter.unusedSimpArgs false
set_option maxRecDepth 100000
set_option hygiene false
local macro:max "§0" : term => `([Res.box b8 [.int .i64 (((takeR r1 x1.P).2.1).Port), .string (((takeR r1 x1.P).2.1).Data), .int .i64 (((takeR r1 x1.P).2.1).Badge), .int .i64 (((takeR r1 x1.P).2.1).Writ)] 52, Res.box b7 [.int .i64 (((takeR r1 x1.P).2.1).Port), .string (((takeR r1 x1.P).2.1).Data), .int .i64 (((takeR r1 x1.P).2.1).Badge), .int .i64 (((takeR r1 x1.P).2.1).Writ)] 52, Res.box b6 [z9, z10, z11, z12, .int .i64 (((takeR r1 x1.P).1).NextWrit), .int .i64 (((takeR r1 x1.P).1).NextThing)] 30, Res.box b5 [.int .i64 (((getR r1 x1.P).1).ID), .int .i64 (((getR r1 x1.P).1).Thing), .int .i64 (((getR r1 x1.P).1).Rights), .int .i64 (((getR r1 x1.P).1).Badge), .int .i64 (((getR r1 x1.P).1).From)] 39, Res.box b4 [.int .i64 (((getR r1 x1.P).1).ID), .int .i64 (((getR r1 x1.P).1).Thing), .int .i64 (((getR r1 x1.P).1).Rights), .int .i64 (((getR r1 x1.P).1).Badge), .int .i64 (((getR r1 x1.P).1).From)] 39, Res.box b3 [.string x1.Kind, .string x1.S, .int .i64 x1.P.Holder, .int .i64 x1.P.Slot, .int .i64 x1.Q.Holder, .int .i64 x1.Q.Slot, .int .i64 x1.A, .int .i64 x1.B, .int .i64 x1.N, .int .u64 x1.K, x1.cv] 37, Res.box b2 [vmW, vmT, vmH, vmN, .int .i64 r1.NextWrit, .int .i64 r1.NextThing] 30, Res.box b1 [r1_W, r1_T, r1_H, r1_N, .int .i64 r1.NextWrit, .int .i64 r1.NextThing] 30])
local macro:max "§1" : term => `((⟨[], [], [], [], 1, 1⟩ : Realm))
local macro:max "§2" : term => `([.int .i64 (((getR r1 x1.P).1).ID), .int .i64 (((getR r1 x1.P).1).Thing), .int .i64 (((getR r1 x1.P).1).Rights), .int .i64 (((getR r1 x1.P).1).Badge), .int .i64 (((getR r1 x1.P).1).From)])
local macro:max "§3" : term => `((fun _ => Wd.pik [0, 1, 2, 3, 4, 5, 6, 7] [0, 1, 2, 3, 4, 5, 6, 7, 8, 9, 10, 11, 12, 13, 14, 15, 16, 17, 18, 19, 20, 21] rfl rfl rfl))
local macro:max "§4" : term => `((fun w hw => (one_cons (Sl.one ((fun _ => Wd.fls 0 rfl) w hw)) (one_cons (Sl.one ((fun _ => Wd.fls 1 rfl) w hw)) (one_cons (Sl.one ((fun _ => Wd.fls 2 rfl) w hw)) (one_cons (Sl.one ((fun _ => Wd.fls 3 rfl) w hw)) (one_cons rfl (one_cons rfl one_nil))))))))
local macro:max "§5" : term => `([.string x1.Kind, .string x1.S, .int .i64 x1.P.Holder, .int .i64 x1.P.Slot, .int .i64 x1.Q.Holder, .int .i64 x1.Q.Slot, .int .i64 x1.A, .int .i64 x1.B, .int .i64 x1.N, .int .u64 x1.K, x1.cv])
local macro:max "§6" : term => `([.int .i64 (((takeR r1 x1.P).2.1).Port), .string (((takeR r1 x1.P).2.1).Data), .int .i64 (((takeR r1 x1.P).2.1).Badge), .int .i64 (((takeR r1 x1.P).2.1).Writ)])
local macro:max "§7" : term => `((fun _ => Wd.pik [0, 1, 2, 3, 4, 5, 6, 7] [8, 9, 10, 11, 12, 13, 14, 15, 16, 17, 18, 19, 20, 21, 22, 23, 24, 25, 26, 27, 28, 29] rfl rfl rfl))
local macro:max "§8" : term => `((getR ((makeR §1 (⟨1, 0⟩ : Place) 1).1) (⟨1, 0⟩ : Place)))
local macro:max "§9" : term => `((takeR r1 x1.P))
local macro:max "§10" : term => `((fun g_ : Value × Value × Value × Value => [Res.ls g_.1 ((§1).Writs : List Writ), Res.ls g_.2.1 ((§1).Things : List Thing), Res.ls g_.2.2.1 ((§1).Held : List Held), Res.ls g_.2.2.2 ((§1).Notes : List Note)]))
local macro:max "§11" : term => `((s.alloc (cs := [.slice none 0 0, .slice none 0 0, .slice none 0 0, .slice none 0 0, .int .i64 0, .int .i64 0]) tZero_30 rfl rfl))
local macro:max "§12" : term => `((fun g_ : Value × Value × Value × Value => []))
local macro:max "§13" : term => `([Res.box b9 [z37, z38, z39, z40, .int .i64 (((doR r1 x1).1).NextWrit), .int .i64 (((doR r1 x1).1).NextThing)] 30, Res.box b8 §6 52, Res.box b7 §6 52, Res.box b6 [z9, z10, z11, z12, .int .i64 ((§9.1).NextWrit), .int .i64 ((§9.1).NextThing)] 30, Res.box b5 §2 39, Res.box b4 §2 39, Res.box b3 §5 37, Res.box b2 [vmW, vmT, vmH, vmN, .int .i64 r1.NextWrit, .int .i64 r1.NextThing] 30, Res.box b1 [r1_W, r1_T, r1_H, r1_N, .int .i64 r1.NextWrit, .int .i64 r1.NextThing] 30])
local macro:max "§14" : term => `([Res.ls r1_W (r1.Writs : List Writ), Res.ls r1_T (r1.Things : List Thing), Res.ls r1_H (r1.Held : List Held), Res.ls r1_N (r1.Notes : List Note)])
local macro:max "§15" : term => `((fun _ => Wd.pik [0, 1, 2, 3, 4, 5, 6, 7] [12, 13, 14, 15, 16, 17, 18, 19, 20, 21, 22, 23, 24, 25, 26, 27, 28, 29, 30, 31, 32, 33] rfl rfl rfl))
local macro:max "§16" : term => `([Res.box b7 §6 52, Res.box b6 [z9, z10, z11, z12, .int .i64 ((§9.1).NextWrit), .int .i64 ((§9.1).NextThing)] 30, Res.box b5 §2 39, Res.box b4 §2 39, Res.box b3 §5 37, Res.box b2 [vmW, vmT, vmH, vmN, .int .i64 r1.NextWrit, .int .i64 r1.NextThing] 30, Res.box b1 [r1_W, r1_T, r1_H, r1_N, .int .i64 r1.NextWrit, .int .i64 r1.NextThing] 30])
local macro:max "§17" : term => `((by kernel_rfl))
local macro:max "§18" : term => `((fun g_ : Value × Value × Value × Value => .agg #[g_.1, g_.2.1, g_.2.2.1, g_.2.2.2, .int .i64 ((§1).NextWrit), .int .i64 ((§1).NextThing)]))
local macro:max "§19" : term => `([z37, z38, z39, z40, .int .i64 (((doR r1 x1).1).NextWrit), .int .i64 (((doR r1 x1).1).NextThing)])
local macro:max "§20" : term => `([z41, z42, z43, z44, .int .i64 (((doR r1 x1).1).NextWrit), .int .i64 (((doR r1 x1).1).NextThing)])
local macro:max "§21" : term => `([Res.ls vmW (r1.Writs : List Writ), Res.ls vmT (r1.Things : List Thing), Res.ls vmH (r1.Held : List Held), Res.ls vmN (r1.Notes : List Note)])
local macro:max "§22" : term => `((⟨1, 0⟩ : Place))
local macro:max "§23" : term => `((fun g_ : Value × Value × Value × Value => [Res.ls g_.1 ((((doR r1 x1)).1).Writs : List Writ), Res.ls g_.2.1 ((((doR r1 x1)).1).Things : List Thing), Res.ls g_.2.2.1 ((((doR r1 x1)).1).Held : List Held), Res.ls g_.2.2.2 ((((doR r1 x1)).1).Notes : List Note)]))
local macro:max "§24" : term => `((fun g_ : Value × Value × Value × Value => [Res.ls g_.1 (((quietR r1)).Writs : List Writ), Res.ls g_.2.1 (((quietR r1)).Things : List Thing), Res.ls g_.2.2.1 (((quietR r1)).Held : List Held), Res.ls g_.2.2.2 (((quietR r1)).Notes : List Note)]))
local macro:max "§25" : term => `((by first | omega | (have := placeFault_01 _; omega)))
local macro:max "§26" : term => `([Res.box b5 §2 39, Res.box b4 §2 39, Res.box b3 §5 37, Res.box b2 [vmW, vmT, vmH, vmN, .int .i64 r1.NextWrit, .int .i64 r1.NextThing] 30, Res.box b1 [r1_W, r1_T, r1_H, r1_N, .int .i64 r1.NextWrit, .int .i64 r1.NextThing] 30])

theorem realms_any  (w : World)  : Calls Tryz.prog 4 #[] w fun e w' => e = .returned (.bool true) ∧ Ext w w' := by
  have f0 := made_o; have f1 := made_1; have f2 := made_p; have f3 : §8.2 = 0 := (by rw [made_2]); have f4 : (§8.1).Rights = 7 := (by rw [made_2]); have f5 : (§8.1).ID = 1 := (by rw [made_2]); have f6 := decide_eq_true f1; have f7 := decide_eq_true f3
  refine R.enter (n := 33) (vs := []) [] [] Tryz.func4 rfl rfl rfl rfl ?_
  refine R.reg rfl <| R.u 1 rfl <| R.nil ?_
  refine R.reg rfl <| ?_
  refine R.s (B' := §12) (F' := §10) rfl (s.callV (B0 := []) (Br := []) (F0 := []) [] [] §18 §12 §10 rfl rfl rfl eg_6 rfl rfl (fun w own hw H => newR_any  w own H ) rfl) ?_
  rintro ⟨z1, z2, z3, z4⟩
  dsimp only
  refine R.q (q.build (cs := [.int .i64 1, .int .i64 0]) tB_33 rfl rfl) rfl <| ?_
  refine R.s (B' := §12) (F' := (fun g_ : Value × Value × Value × Value => [Res.ls g_.1 ((((makeR §1 §22 1)).1).Writs : List Writ), Res.ls g_.2.1 ((((makeR §1 §22 1)).1).Things : List Thing), Res.ls g_.2.2.1 ((((makeR §1 §22 1)).1).Held : List Held), Res.ls g_.2.2.2 ((((makeR §1 §22 1)).1).Notes : List Note), Res.ls z1 (([]) : List Writ), Res.ls z2 (([]) : List Thing), Res.ls z3 (([]) : List Held), Res.ls z4 (([]) : List Note)])) rfl (s.callV (B0 := []) (Br := []) (F0 := [Res.ls z1 (§1.Writs : List Writ), Res.ls z2 (§1.Things : List Thing), Res.ls z3 (§1.Held : List Held), Res.ls z4 (§1.Notes : List Note)]) [] [0, 1, 2, 3] (fun g_ : Value × Value × Value × Value => .tuple #[.agg #[g_.1, g_.2.1, g_.2.2.1, g_.2.2.2, .int .i64 ((((makeR §1 §22 1)).1).NextWrit), .int .i64 ((((makeR §1 §22 1)).1).NextThing)], errv (((makeR §1 §22 1)).2)]) §12 (fun g_ : Value × Value × Value × Value => [Res.ls g_.1 ((((makeR §1 §22 1)).1).Writs : List Writ), Res.ls g_.2.1 ((((makeR §1 §22 1)).1).Things : List Thing), Res.ls g_.2.2.1 ((((makeR §1 §22 1)).1).Held : List Held), Res.ls g_.2.2.2 ((((makeR §1 §22 1)).1).Notes : List Note)]) rfl rfl rfl eg_21 rfl rfl (fun w own hw H => makeR_any z1 z2 z3 z4 (§1) (§22) (1) w own H (by assumption)) rfl) ?_
  rintro ⟨z5, z6, z7, z8⟩
  dsimp only
  refine R.u 3 rfl <| ?_
  refine R.s rfl §11 fun b1 => ?_
  refine R.s rfl (s.stV (us := [z5, z6, z7, z8, .int .i64 (((makeR §1 §22 1).1).NextWrit), .int .i64 (((makeR §1 §22 1).1).NextThing)]) (cs' := [z5, z6, z7, z8, .int .i64 (((makeR §1 §22 1).1).NextWrit), .int .i64 (((makeR §1 §22 1).1).NextThing)]) 0 _ rfl rfl rfl (fun _ _ => rfl) (.inl tAgg_30) §4 rfl rfl rfl) fun _ => ?_
  refine R.u 1 rfl <| R.nil ?_
  refine R.reg rfl <| R.q (q.ldS 0 rfl rfl tAgg_30) rfl <| R.q (q.build (cs := [.int .i64 1, .int .i64 0]) tB_33 rfl rfl) rfl <| R.c (q.call eg_8 rfl rfl (fun w hw => (get_any _ _ _ _ (((makeR §1 §22 1).1)) (§22) w ((fun _ => Wd.fls 0 rfl) w hw) ((fun _ => Wd.fls 1 rfl) w hw) ((fun _ => Wd.fls 2 rfl) w hw) ((fun _ => Wd.fls 3 rfl) w hw) (by assumption)))) rfl <| R.u 3 rfl <| ?_
  refine R.s rfl (s.alloc (cs := [.int .i64 0, .int .i64 0, .int .i64 0, .int .i64 0, .int .i64 0]) tZero_39 rfl rfl) fun b2 => ?_
  refine R.s rfl (s.st (us := [.int .i64 ((§8.1).ID), .int .i64 ((§8.1).Thing), .int .i64 ((§8.1).Rights), .int .i64 ((§8.1).Badge), .int .i64 ((§8.1).From)]) (cs' := [.int .i64 ((§8.1).ID), .int .i64 ((§8.1).Thing), .int .i64 ((§8.1).Rights), .int .i64 ((§8.1).Badge), .int .i64 ((§8.1).From)]) 0 _ rfl rfl rfl rfl (.inl tAgg_39) rfl rfl rfl rfl) fun _ => ?_
  refine R.u 1 rfl <| R.nil ?_
  refine R.reg rfl <| R.u 1 rfl <| R.c (q.call eg_12 rfl rfl (fun w hw => (cv (congrArg Value.bool f6) (same_any ((makeR §1 §22 1).2) (0) w  §25)))) rfl <| R.u 2 rfl <| R.cg rfl (q.call eg_12 rfl rfl (fun w hw => (cv (congrArg Value.bool f7) (same_any (§8.2) (0) w  §25)))) rfl <| R.u 2 rfl <| R.qg rfl (q.fld (off' := 2) rfl tFld_39_2 rfl) rfl <| R.qg rfl (q.ld 0 rfl rfl tOne_3 rfl) rfl <| R.qg rfl (q.eql rfl rfl (beq_iff_eq.2 (by omega))) rfl <| R.u 2 rfl <| R.qg rfl (q.fld (off' := 0) rfl tFld_39_0 rfl) rfl <| R.qg rfl (q.ld 0 rfl rfl tOne_3 rfl) rfl <| R.qg rfl (q.eql rfl rfl (beq_iff_eq.2 (by omega))) rfl <| R.u 2 rfl <| R.nil ?_
  exact R.rv rfl Tryz.results4 rfl (rB (by (rfl)))

theorem ite_nonneg {α : Type} {c : Prop} [Decidable c] {x y : α × Int} (h : 0 ≤ x.2) (h' : 0 ≤ y.2) : 0 ≤ (if c then x else y).2 := by split <;> assumption
theorem do_nonneg {r : Realm} (a : Deed) : 0 ≤ (doR r a).2 := by
  have hd := fun (w : Writ) id rg b => derived_cases w id rg b
  have dn : ∀ (w : Writ) id rg b, 0 ≤ (derived w id rg b).2 := fun w id rg b => by have := hd w id rg b; omega
  have hT : 0 ≤ (takeR r a.P).2.2.2 := by
    have := mayR_nonneg r a.P 2 1; unfold takeR; (repeat' split) <;> first | (dsimp only; omega) | omega
  unfold doR
  refine ite_nonneg ?_ (ite_nonneg ?_ (ite_nonneg ?_ (ite_nonneg ?_ (ite_nonneg ?_ (ite_nonneg ?_ (ite_nonneg ?_ (ite_nonneg hT (Int.le_refl 0))))))))
  · exact ite_nonneg (ite_nonneg (ite_nonneg (by decide) (by exact Int.le_refl 0)) (freeR_nonneg r a.P)) (by decide)
  · exact ite_nonneg (ite_nonneg (ite_nonneg (ite_nonneg (by decide) (ite_nonneg (by exact Int.le_refl 0) (dn _ _ _ _))) (by decide)) (freeR_nonneg r a.Q)) (getR_nonneg r a.P)
  · exact ite_nonneg (ite_nonneg (by exact Int.le_refl 0) (freeR_nonneg r _)) (getR_nonneg r a.P)
  · exact ite_nonneg (by exact Int.le_refl 0) (getR_nonneg r a.P)
  · exact ite_nonneg (by exact Int.le_refl 0) (getR_nonneg r a.P)
  · exact ite_nonneg (ite_nonneg (by decide) (by exact Int.le_refl 0)) (mayR_nonneg r a.P 1 2)
  · refine ite_nonneg (ite_nonneg (by decide) (ite_nonneg (by decide) (ite_nonneg (by exact Int.le_refl 0) (ite_nonneg ?_ (by decide))))) (mayR_nonneg r a.P 2 2)
    exact ite_nonneg (ite_nonneg (by decide) (ite_nonneg (by exact Int.le_refl 0) (dn _ _ _ _))) (getR_nonneg r _)
theorem read_nonneg (r : Realm) (p : Place) : 0 ≤ (readR r p).2 := by
  have := mayR_nonneg r p 1 1; unfold readR; (repeat' split) <;> first | (dsimp only; omega) | omega
theorem take_nonneg (r : Realm) (p : Place) : 0 ≤ (takeR r p).2.2.2 := by
  have := mayR_nonneg r p 2 1; unfold takeR; (repeat' split) <;> first | (dsimp only; omega) | omega

set_option maxRecDepth 100000 in
set_option maxHeartbeats 4000000 in
theorem realmSays_any (v_l : Value) (l : List Deed) (w : World) (s_l : Sl w v_l l) (c_l : ∀ x ∈ l, Sl w x.cv x.Changes) : Calls Tryz.prog 3 #[v_l] w fun e w' => e = .returned (.bool true) ∧ Ext w w' := by
  have b_l := s_l.lenle
  refine R.enter (n := 174) (vs := [v_l]) [] [(0, v_l)] Tryz.func3 rfl rfl rfl rfl ?_
  refine R.oldL s_l ?_
  refine R.oldF (r := Res.acts l) c_l (acts_lt c_l) ?_
  refine R.reg rfl <| R.u 1 rfl <| R.nil ?_
  refine R.reg rfl <| R.c (q.call eg_4 rfl rfl (fun w hw => (realms_any  w  ))) rfl <| R.u 1 rfl <| R.nil ?_
  refine R.reg rfl <| R.u 4 rfl <| ?_
  rcases Bool.eq_false_or_eq_true (lightA l 80) with h1 | h1
  · refine R.cg rfl (q.call eg_5 rfl rfl (fun w hw => (cv (congrArg Value.bool h1) (lightA_any _ (l) (80) w ((fun _ => Wd.fls 1 rfl) w hw) (hw.acts 0 rfl) )))) rfl <| R.u 2 rfl <| R.nil ?_
    refine R.condF rfl rfl ?_
    have hll := lightA_len (l := l) (most := 80) (by assumption)
    refine R.reg rfl <| ?_
    refine R.s (B' := §12) (F' := (fun g_ : Value × Value × Value × Value => [Res.ls g_.1 ((§1).Writs : List Writ), Res.ls g_.2.1 ((§1).Things : List Thing), Res.ls g_.2.2.1 ((§1).Held : List Held), Res.ls g_.2.2.2 ((§1).Notes : List Note), Res.acts l, Res.ls v_l (l : List Deed)])) rfl (s.callV (B0 := []) (Br := []) (F0 := []) [] [] §18 §12 §10 rfl rfl rfl eg_6 rfl rfl (fun w own hw H => newR_any  w own H ) rfl) ?_
    rintro ⟨z1, z2, z3, z4⟩
    dsimp only
    refine R.s rfl §11 fun b1 => ?_
    refine R.s rfl (s.stV (us := [z1, z2, z3, z4, .int .i64 (§1.NextWrit), .int .i64 (§1.NextThing)]) (cs' := [z1, z2, z3, z4, .int .i64 (§1.NextWrit), .int .i64 (§1.NextThing)]) 0 _ rfl rfl rfl (fun _ _ => rfl) (.inl tAgg_30) §4 rfl rfl rfl) fun _ => ?_
    refine R.nil ?_
    refine R.reg rfl <| ?_
    refine R.s (B' := (fun g_ : Value × Value × Value × Value => [Res.box b1 [z1, z2, z3, z4, .int .i64 (1), .int .i64 (1)] 30])) (F' := (fun g_ : Value × Value × Value × Value => [Res.ls g_.1 ((§1).Writs : List Writ), Res.ls g_.2.1 ((§1).Things : List Thing), Res.ls g_.2.2.1 ((§1).Held : List Held), Res.ls g_.2.2.2 ((§1).Notes : List Note), Res.ls z1 (([]) : List Writ), Res.ls z2 (([]) : List Thing), Res.ls z3 (([]) : List Held), Res.ls z4 (([]) : List Note), Res.acts l, Res.ls v_l (l : List Deed)])) rfl (s.callV (B0 := []) (Br := [Res.box b1 [z1, z2, z3, z4, .int .i64 (§1.NextWrit), .int .i64 (§1.NextThing)] 30]) (F0 := []) [0] [] §18 §12 §10 rfl rfl rfl eg_7 rfl rfl (fun w own hw H => newD_any  w own H ) rfl) ?_
    rintro ⟨z5, z6, z7, z8⟩
    dsimp only
    refine R.s rfl §11 fun b2 => ?_
    refine R.s rfl (s.stV (us := [z5, z6, z7, z8, .int .i64 (§1.NextWrit), .int .i64 (§1.NextThing)]) (cs' := [z5, z6, z7, z8, .int .i64 (§1.NextWrit), .int .i64 (§1.NextThing)]) 0 _ rfl rfl rfl (fun _ _ => rfl) (.inl tAgg_30) §4 rfl rfl rfl) fun _ => ?_
    refine R.nil ?_
    refine R.reg rfl <| R.u 1 rfl <| R.nil ?_
    refine R.loop (fun g_ : Nat × Value × Value × Value × Value × Realm × Value × Value × Value × Value => [(0, v_l), (4, .pointer (some ⟨b1, 0, none⟩)), (5, .pointer (some ⟨b2, 0, none⟩)), (6, .int .i64 (g_.1 : Int))]) (fun g_ : Nat × Value × Value × Value × Value × Realm × Value × Value × Value × Value => [Res.box b2 [g_.2.1, g_.2.2.1, g_.2.2.2.1, g_.2.2.2.2.1, .int .i64 g_.2.2.2.2.2.1.NextWrit, .int .i64 g_.2.2.2.2.2.1.NextThing] 30, Res.box b1 [g_.2.2.2.2.2.2.1, g_.2.2.2.2.2.2.2.1, g_.2.2.2.2.2.2.2.2.1, g_.2.2.2.2.2.2.2.2.2, .int .i64 g_.2.2.2.2.2.1.NextWrit, .int .i64 g_.2.2.2.2.2.1.NextThing] 30]) (fun g_ : Nat × Value × Value × Value × Value × Realm × Value × Value × Value × Value => [Res.ls g_.2.1 (g_.2.2.2.2.2.1.Writs : List Writ), Res.ls g_.2.2.1 (g_.2.2.2.2.2.1.Things : List Thing), Res.ls g_.2.2.2.1 (g_.2.2.2.2.2.1.Held : List Held), Res.ls g_.2.2.2.2.1 (g_.2.2.2.2.2.1.Notes : List Note), Res.ls g_.2.2.2.2.2.2.1 (g_.2.2.2.2.2.1.Writs : List Writ), Res.ls g_.2.2.2.2.2.2.2.1 (g_.2.2.2.2.2.1.Things : List Thing), Res.ls g_.2.2.2.2.2.2.2.2.1 (g_.2.2.2.2.2.1.Held : List Held), Res.ls g_.2.2.2.2.2.2.2.2.2 (g_.2.2.2.2.2.1.Notes : List Note), Res.ls z5 (§1.Writs : List Writ), Res.ls z6 (§1.Things : List Thing), Res.ls z7 (§1.Held : List Held), Res.ls z8 (§1.Notes : List Note), Res.ls z1 (§1.Writs : List Writ), Res.ls z2 (§1.Things : List Thing), Res.ls z3 (§1.Held : List Held), Res.ls z4 (§1.Notes : List Note), Res.acts l, Res.ls v_l (l : List Deed)]) (fun g_ : Nat × Value × Value × Value × Value × Realm × Value × Value × Value × Value => g_.1 ≤ l.length ∧ Inv g_.2.2.2.2.2.1 ∧ Sz g_.1 g_.2.2.2.2.2.1) (fun g_ : Nat × Value × Value × Value × Value × Realm × Value × Value × Value × Value => l.length - g_.1) (0, z5, z6, z7, z8, §1, z1, z2, z3, z4) rfl (by dsimp only; exact ⟨by omega, Inv.new, Sz.new⟩) ⟨rfl, rfl, rfl, rfl, trivial⟩ (fun _ => Wd.pick [0, 1] [0, 1, 2, 3, 4, 5, 6, 7, 0, 1, 2, 3, 4, 5, 6, 7, 8, 9] rfl rfl rfl) ?_
    rintro ⟨i, vmW, vmT, vmH, vmN, r1, r1_W, r1_T, r1_H, r1_N⟩ ⟨hi, hI, hz⟩
    dsimp only at *
    have hk : Ok r1 := hz.ok (by omega)
    refine R.reg rfl <| R.u 2 rfl <| R.q (q.len' (fun _ => Wd.fls 17 rfl) rfl Tryz.underlying22) rfl <| ?_
    by_cases h2 : i < l.length
    · refine R.q (q.lss rfl rfl (decide_eq_true (by omega))) rfl <| R.nil ?_
      refine R.condT rfl rfl ?_
      refine R.reg rfl <| R.u 2 rfl <| ?_
      obtain ⟨x1, hx1⟩ : ∃ z, l[i]? = some z := ⟨_, List.getElem?_eq_getElem (by omega)⟩
      refine R.q (q.idx (i := i) (fun _ => Wd.fls 17 rfl) rfl rfl tSl_22 rfl hx1) rfl <| R.q (q.ldES (ds := §5) (fun _ => Wd.fls 17 rfl) hx1 rfl tAgg_37 rfl) rfl <| ?_
      refine R.s rfl (s.alloc (cs := [.string (⟨#[]⟩), .string (⟨#[]⟩), .int .i64 0, .int .i64 0, .int .i64 0, .int .i64 0, .int .i64 0, .int .i64 0, .int .i64 0, .int .u64 0, .slice none 0 0]) tZero_37 rfl rfl) fun b3 => ?_
      refine R.s rfl (s.stV (us := §5) (cs' := §5) 0 _ rfl rfl rfl (fun _ _ => rfl) (.inl tAgg_37) (fun w hw => (one_cons rfl (one_cons rfl (one_cons rfl (one_cons rfl (one_cons rfl (one_cons rfl (one_cons rfl (one_cons rfl (one_cons rfl (one_cons rfl (one_cons (Sl.one ((fun _ => Wd.actX (l := l) 16 rfl (List.mem_of_getElem? hx1)) w hw)) one_nil)))))))))))) rfl rfl rfl) fun _ => ?_
      refine R.nil ?_
      have hn1 := getR_nonneg r1 x1.P; have hn2 := read_nonneg r1 x1.P; have hn3 := take_nonneg r1 x1.P; have hn4 := do_nonneg (r := r1) x1
      have t0_ : decide ((getR r1 x1.P).2 = (getR r1 x1.P).2) = true := decide_eq_true rfl
      have t1_ : decide ((readR r1 x1.P).2 = (readR r1 x1.P).2) = true := decide_eq_true rfl
      have t2_ : decide (§9.2.2.2 = §9.2.2.2) = true := decide_eq_true rfl
      have t3_ : decide (quietR r1 = quietR r1) = true := decide_eq_true rfl
      have t4_ : decide (r1 = r1) = true := decide_eq_true rfl
      have t5_ : decide ((doR r1 x1).2 = (doR r1 x1).2) = true := decide_eq_true rfl
      have t6_ : decide ((doR r1 x1).1 = (doR r1 x1).1) = true := decide_eq_true rfl
      have q0_ : (getR r1 x1.P).1 = (getR r1 x1.P).1 := rfl
      have q1_ : (readR r1 x1.P).1 = (readR r1 x1.P).1 := rfl
      have q2_ : §9.2.1 = §9.2.1 := rfl
      have q3_ : §9.2.2.1 = §9.2.2.1 := rfl
      refine R.reg rfl <| R.q (q.ldS 2 rfl rfl tAgg_30) rfl <| R.q (q.fld (off' := 2) rfl tFld_37_2 rfl) rfl <| R.q (q.ldP (ds := [.int .i64 x1.P.Holder, .int .i64 x1.P.Slot]) 0 rfl rfl tAgg_33 rfl) rfl <| R.c (q.call eg_8 rfl rfl (fun w hw => (get_any _ _ _ _ (r1) (x1.P) w ((fun _ => Wd.fls 4 rfl) w hw) ((fun _ => Wd.fls 5 rfl) w hw) ((fun _ => Wd.fls 6 rfl) w hw) ((fun _ => Wd.fls 7 rfl) w hw) (by assumption)))) rfl <| R.u 3 rfl <| ?_
      refine R.s rfl (s.alloc (cs := [.int .i64 0, .int .i64 0, .int .i64 0, .int .i64 0, .int .i64 0]) tZero_39 rfl rfl) fun b4 => ?_
      refine R.s rfl (s.st (us := §2) (cs' := §2) 0 _ rfl rfl rfl rfl (.inl tAgg_39) rfl rfl rfl rfl) fun _ => ?_
      refine R.u 1 rfl <| R.nil ?_
      refine R.reg rfl <| R.q (q.ldS 2 rfl rfl tAgg_30) rfl <| R.q (q.fld (off' := 2) rfl tFld_37_2 rfl) rfl <| R.q (q.ldP (ds := [.int .i64 x1.P.Holder, .int .i64 x1.P.Slot]) 1 rfl rfl tAgg_33 rfl) rfl <| R.c (q.call eg_9 rfl rfl (fun w hw => (getD_any _ _ _ _ (r1) (x1.P) w ((fun _ => Wd.fls 0 rfl) w hw) ((fun _ => Wd.fls 1 rfl) w hw) ((fun _ => Wd.fls 2 rfl) w hw) ((fun _ => Wd.fls 3 rfl) w hw) (by assumption) (by assumption)))) rfl <| R.u 3 rfl <| ?_
      refine R.s rfl (s.alloc (cs := [.int .i64 0, .int .i64 0, .int .i64 0, .int .i64 0, .int .i64 0]) tZero_39 rfl rfl) fun b5 => ?_
      refine R.s rfl (s.st (us := §2) (cs' := §2) 0 _ rfl rfl rfl rfl (.inl tAgg_39) rfl rfl rfl rfl) fun _ => ?_
      refine R.u 1 rfl <| R.nil ?_
      refine R.reg rfl <| R.q (q.ldS 4 rfl rfl tAgg_30) rfl <| R.q (q.fld (off' := 2) rfl tFld_37_2 rfl) rfl <| R.q (q.ldP (ds := [.int .i64 x1.P.Holder, .int .i64 x1.P.Slot]) 2 rfl rfl tAgg_33 rfl) rfl <| R.c (q.call eg_10 rfl rfl (fun w hw => (readR_any _ _ _ _ (r1) (x1.P) w ((fun _ => Wd.fls 4 rfl) w hw) ((fun _ => Wd.fls 5 rfl) w hw) ((fun _ => Wd.fls 6 rfl) w hw) ((fun _ => Wd.fls 7 rfl) w hw) (by assumption)))) rfl <| R.u 5 rfl <| R.nil ?_
      refine R.reg rfl <| R.q (q.ldS 3 rfl rfl tAgg_30) rfl <| R.q (q.fld (off' := 2) rfl tFld_37_2 rfl) rfl <| R.q (q.ldP (ds := [.int .i64 x1.P.Holder, .int .i64 x1.P.Slot]) 2 rfl rfl tAgg_33 rfl) rfl <| R.c (q.call eg_11 rfl rfl (fun w hw => (readD_any _ _ _ _ (r1) (x1.P) w ((fun _ => Wd.fls 0 rfl) w hw) ((fun _ => Wd.fls 1 rfl) w hw) ((fun _ => Wd.fls 2 rfl) w hw) ((fun _ => Wd.fls 3 rfl) w hw) (by assumption) (by assumption)))) rfl <| R.u 5 rfl <| R.nil ?_
      refine R.reg rfl <| R.q (q.ldS 1 rfl rfl tAgg_39) rfl <| R.q (q.ldS 0 rfl rfl tAgg_39) rfl <| R.q (q.neqT1 (x := ((getR r1 x1.P).1)) (y := ((getR r1 x1.P).1)) eq_39 rfl rfl ‹_›) rfl <| R.u 3 rfl <| R.cg rfl (q.call eg_12 rfl rfl (fun w hw => (cv (congrArg Value.bool t0_) (same_any ((getR r1 x1.P).2) ((getR r1 x1.P).2) w  §25)))) rfl <| R.u 5 rfl <| R.qg rfl (q.neqS1 rfl rfl ‹_›) rfl <| R.u 4 rfl <| R.cg rfl (q.call eg_12 rfl rfl (fun w hw => (cv (congrArg Value.bool t1_) (same_any ((readR r1 x1.P).2) ((readR r1 x1.P).2) w  §25)))) rfl <| R.u 2 rfl <| R.nil ?_
      refine R.condF rfl rfl ?_
      refine R.reg rfl <| R.q (q.ldS 4 rfl rfl tAgg_30) rfl <| R.q (q.fld (off' := 2) rfl tFld_37_2 rfl) rfl <| R.q (q.ldP (ds := [.int .i64 x1.P.Holder, .int .i64 x1.P.Slot]) 2 rfl rfl tAgg_33 rfl) rfl <| ?_
      refine R.s (B' := (fun g_ : Value × Value × Value × Value => §26)) (F' := (fun g_ : Value × Value × Value × Value => [Res.ls g_.1 (((§9).1).Writs : List Writ), Res.ls g_.2.1 (((§9).1).Things : List Thing), Res.ls g_.2.2.1 (((§9).1).Held : List Held), Res.ls g_.2.2.2 (((§9).1).Notes : List Note), Res.ls vmW (r1.Writs : List Writ), Res.ls vmT (r1.Things : List Thing), Res.ls vmH (r1.Held : List Held), Res.ls vmN (r1.Notes : List Note), Res.ls r1_W (r1.Writs : List Writ), Res.ls r1_T (r1.Things : List Thing), Res.ls r1_H (r1.Held : List Held), Res.ls r1_N (r1.Notes : List Note), Res.ls z5 (([]) : List Writ), Res.ls z6 (([]) : List Thing), Res.ls z7 (([]) : List Held), Res.ls z8 (([]) : List Note), Res.ls z1 (([]) : List Writ), Res.ls z2 (([]) : List Thing), Res.ls z3 (([]) : List Held), Res.ls z4 (([]) : List Note), Res.acts l, Res.ls v_l (l : List Deed)])) rfl (s.callV (B0 := []) (Br := §26) (F0 := §14) [0, 1, 2, 3, 4] [4, 5, 6, 7] (fun g_ : Value × Value × Value × Value => .tuple #[.agg #[g_.1, g_.2.1, g_.2.2.1, g_.2.2.2, .int .i64 (((§9).1).NextWrit), .int .i64 (((§9).1).NextThing)], .agg #[.int .i64 (((§9).2.1).Port), .string (((§9).2.1).Data), .int .i64 (((§9).2.1).Badge), .int .i64 (((§9).2.1).Writ)], .int .i64 ((§9).2.2.1), errv ((§9).2.2.2)]) §12 (fun g_ : Value × Value × Value × Value => [Res.ls g_.1 (((§9).1).Writs : List Writ), Res.ls g_.2.1 (((§9).1).Things : List Thing), Res.ls g_.2.2.1 (((§9).1).Held : List Held), Res.ls g_.2.2.2 (((§9).1).Notes : List Note)]) rfl rfl rfl eg_13 rfl rfl (fun w own hw H => takeR_any r1_W r1_T r1_H r1_N (r1) (x1.P) w own H (by assumption)) rfl) ?_
      rintro ⟨z9, z10, z11, z12⟩
      dsimp only
      refine R.u 5 rfl <| ?_
      refine R.s rfl §11 fun b6 => ?_
      refine R.s rfl (s.alloc (cs := [.int .i64 0, .string (⟨#[]⟩), .int .i64 0, .int .i64 0]) tZero_52 rfl rfl) fun b7 => ?_
      refine R.s rfl (s.stV (us := [z9, z10, z11, z12, .int .i64 ((§9.1).NextWrit), .int .i64 ((§9.1).NextThing)]) (cs' := [z9, z10, z11, z12, .int .i64 ((§9.1).NextWrit), .int .i64 ((§9.1).NextThing)]) 1 _ rfl rfl rfl (fun _ _ => rfl) (.inl tAgg_30) §4 rfl rfl rfl) fun _ => ?_
      refine R.s rfl (s.st (us := §6) (cs' := §6) 0 _ rfl rfl rfl rfl (.inl tAgg_52) rfl rfl rfl rfl) fun _ => ?_
      refine R.u 2 rfl <| R.nil ?_
      refine R.reg rfl <| R.q (q.ldS 5 rfl rfl tAgg_30) rfl <| R.q (q.fld (off' := 2) rfl tFld_37_2 rfl) rfl <| R.q (q.ldP (ds := [.int .i64 x1.P.Holder, .int .i64 x1.P.Slot]) 4 rfl rfl tAgg_33 rfl) rfl <| ?_
      refine R.s (B' := (fun _u : Unit => §16)) (F' := (fun _u : Unit => [Res.ls z9 ((§9.1).Writs : List Writ), Res.ls z10 ((§9.1).Things : List Thing), Res.ls z11 ((§9.1).Held : List Held), Res.ls z12 ((§9.1).Notes : List Note), Res.ls vmW (r1.Writs : List Writ), Res.ls vmT (r1.Things : List Thing), Res.ls vmH (r1.Held : List Held), Res.ls vmN (r1.Notes : List Note), Res.ls r1_W (r1.Writs : List Writ), Res.ls r1_T (r1.Things : List Thing), Res.ls r1_H (r1.Held : List Held), Res.ls r1_N (r1.Notes : List Note), Res.ls z5 (([]) : List Writ), Res.ls z6 (([]) : List Thing), Res.ls z7 (([]) : List Held), Res.ls z8 (([]) : List Note), Res.ls z1 (([]) : List Writ), Res.ls z2 (([]) : List Thing), Res.ls z3 (([]) : List Held), Res.ls z4 (([]) : List Note), Res.acts l, Res.ls v_l (l : List Deed)])) rfl (s.callV (B0 := []) (Br := §16) (F0 := §21) [0, 1, 2, 3, 4, 5, 6] [4, 5, 6, 7] (fun _u : Unit => .tuple #[.agg #[.int .i64 (((§9.2.1)).Port), .string (((§9.2.1)).Data), .int .i64 (((§9.2.1)).Badge), .int .i64 (((§9.2.1)).Writ)], .int .i64 ((§9.2.2.1)), .int .i64 ((§9.2.2.2))]) (fun _u : Unit => []) (fun _u : Unit => []) rfl rfl rfl eg_14 rfl rfl (fun w own hw H => noteD_any vmW vmT vmH vmN (r1) (x1.P) w own H (by assumption) (by assumption)) rfl) fun _ => ?_
      refine R.u 4 rfl <| ?_
      refine R.s rfl (s.alloc (cs := [.int .i64 0, .string (⟨#[]⟩), .int .i64 0, .int .i64 0]) tZero_52 rfl rfl) fun b8 => ?_
      refine R.s rfl (s.st (us := §6) (cs' := §6) 0 _ rfl rfl rfl rfl (.inl tAgg_52) rfl rfl rfl rfl) fun _ => ?_
      refine R.u 2 rfl <| R.nil ?_
      refine R.regD (fuel := 29) (Wd w [] §0 [Res.ls z9 ((§9.1).Writs : List Writ), Res.ls z10 ((§9.1).Things : List Thing), Res.ls z11 ((§9.1).Held : List Held), Res.ls z12 ((§9.1).Notes : List Note), Res.ls vmW (r1.Writs : List Writ), Res.ls vmT (r1.Things : List Thing), Res.ls vmH (r1.Held : List Held), Res.ls vmN (r1.Notes : List Note), Res.ls r1_W (r1.Writs : List Writ), Res.ls r1_T (r1.Things : List Thing), Res.ls r1_H (r1.Held : List Held), Res.ls r1_N (r1.Notes : List Note), Res.ls z5 (§1.Writs : List Writ), Res.ls z6 (§1.Things : List Thing), Res.ls z7 (§1.Held : List Held), Res.ls z8 (§1.Notes : List Note), Res.ls z1 (§1.Writs : List Writ), Res.ls z2 (§1.Things : List Thing), Res.ls z3 (§1.Held : List Held), Res.ls z4 (§1.Notes : List Note), Res.acts l, Res.ls v_l (l : List Deed)]) rfl mixed rfl ?_
      refine D.q (i := 0) rfl §17 §3 rfl (q.ldS 1 rfl rfl tAgg_52) rfl <| D.q (i := 1) rfl §17 §3 rfl (q.ldS 0 rfl rfl tAgg_52) rfl <| D.q (i := 2) rfl §17 §3 rfl (q.neqT1 (x := (§9.2.1)) (y := (§9.2.1)) eq_52 rfl rfl ‹_›) rfl <| D.q (i := 3) rfl §17 §3 rfl (q.mv rfl) rfl <| D.q (i := 4) rfl §17 §3 rfl (q.mv rfl) rfl <| D.q (i := 5) rfl §17 §3 rfl (q.mv rfl) rfl <| D.q (i := 6) rfl §17 §3 rfl (q.neq rfl rfl (bne_eq_false_iff_eq.2 (by omega))) rfl <| D.q (i := 7) rfl §17 §3 rfl (q.pickF rfl rfl) rfl <| D.q (i := 8) rfl §17 §3 rfl (q.mv rfl) rfl <| D.q (i := 9) rfl §17 §3 rfl (q.mv rfl) rfl <| D.q (i := 10) rfl §17 §3 rfl (q.mv rfl) rfl <| ?_
      refine D.one (i := 11) §17 rfl ?_
      refine Do.s (s.c (q.call eg_12 rfl rfl (fun w hw => (cv (congrArg Value.bool t2_) (same_any (§9.2.2.2) (§9.2.2.2) w  §25)))) rfl) (fun _ => §3) rfl fun _ => ?_
      refine D.q (i := 12) rfl §17 §3 rfl (q.not rfl) rfl <| D.q (i := 13) rfl §17 §3 rfl (q.pickF rfl rfl) rfl <| D.q (i := 14) rfl §17 §3 rfl (q.mv rfl) rfl <| D.q (i := 15) rfl §17 §3 rfl (q.ldS 7 rfl rfl tAgg_30) rfl <| D.q (i := 17) rfl §17 §3 rfl (q.ldS 6 rfl rfl tAgg_30) rfl <| ?_
      refine D.one (i := 16) §17 rfl ?_
      refine Do.s (B' := (fun g_ : Value × Value × Value × Value => §0)) (F' := (fun g_ : Value × Value × Value × Value => [Res.ls g_.1 (((quietR r1)).Writs : List Writ), Res.ls g_.2.1 (((quietR r1)).Things : List Thing), Res.ls g_.2.2.1 (((quietR r1)).Held : List Held), Res.ls g_.2.2.2 (((quietR r1)).Notes : List Note), Res.ls z9 ((§9.1).Writs : List Writ), Res.ls z10 ((§9.1).Things : List Thing), Res.ls z11 ((§9.1).Held : List Held), Res.ls z12 ((§9.1).Notes : List Note), Res.ls vmW (r1.Writs : List Writ), Res.ls vmT (r1.Things : List Thing), Res.ls vmH (r1.Held : List Held), Res.ls vmN (r1.Notes : List Note), Res.ls r1_W (r1.Writs : List Writ), Res.ls r1_T (r1.Things : List Thing), Res.ls r1_H (r1.Held : List Held), Res.ls r1_N (r1.Notes : List Note), Res.ls z5 (([]) : List Writ), Res.ls z6 (([]) : List Thing), Res.ls z7 (([]) : List Held), Res.ls z8 (([]) : List Note), Res.ls z1 (([]) : List Writ), Res.ls z2 (([]) : List Thing), Res.ls z3 (([]) : List Held), Res.ls z4 (([]) : List Note), Res.acts l, Res.ls v_l (l : List Deed)])) (s.callV (B0 := []) (Br := §0) (F0 := §14) [0, 1, 2, 3, 4, 5, 6, 7] [8, 9, 10, 11] (fun g_ : Value × Value × Value × Value => .agg #[g_.1, g_.2.1, g_.2.2.1, g_.2.2.2, .int .i64 (((quietR r1)).NextWrit), .int .i64 (((quietR r1)).NextThing)]) §12 §24 rfl rfl rfl eg_16 rfl rfl (fun w own hw H => quietR_any r1_W r1_T r1_H r1_N (r1) w own H (by assumption)) rfl) (fun _ => (fun _ => Wd.pik [0, 1, 2, 3, 4, 5, 6, 7] [4, 5, 6, 7, 8, 9, 10, 11, 12, 13, 14, 15, 16, 17, 18, 19, 20, 21, 22, 23, 24, 25] rfl rfl rfl)) rfl ?_
      rintro ⟨z25, z26, z27, z28⟩
      dsimp only
      refine D.one (i := 18) §17 rfl ?_
      refine Do.s (B' := (fun g_ : Value × Value × Value × Value => §0)) (F' := (fun g_ : Value × Value × Value × Value => [Res.ls g_.1 (((quietR r1)).Writs : List Writ), Res.ls g_.2.1 (((quietR r1)).Things : List Thing), Res.ls g_.2.2.1 (((quietR r1)).Held : List Held), Res.ls g_.2.2.2 (((quietR r1)).Notes : List Note), Res.ls z25 ((quietR r1).Writs : List Writ), Res.ls z26 ((quietR r1).Things : List Thing), Res.ls z27 ((quietR r1).Held : List Held), Res.ls z28 ((quietR r1).Notes : List Note), Res.ls z9 ((§9.1).Writs : List Writ), Res.ls z10 ((§9.1).Things : List Thing), Res.ls z11 ((§9.1).Held : List Held), Res.ls z12 ((§9.1).Notes : List Note), Res.ls vmW (r1.Writs : List Writ), Res.ls vmT (r1.Things : List Thing), Res.ls vmH (r1.Held : List Held), Res.ls vmN (r1.Notes : List Note), Res.ls r1_W (r1.Writs : List Writ), Res.ls r1_T (r1.Things : List Thing), Res.ls r1_H (r1.Held : List Held), Res.ls r1_N (r1.Notes : List Note), Res.ls z5 (([]) : List Writ), Res.ls z6 (([]) : List Thing), Res.ls z7 (([]) : List Held), Res.ls z8 (([]) : List Note), Res.ls z1 (([]) : List Writ), Res.ls z2 (([]) : List Thing), Res.ls z3 (([]) : List Held), Res.ls z4 (([]) : List Note), Res.acts l, Res.ls v_l (l : List Deed)])) (s.callV (B0 := []) (Br := §0) (F0 := §21) [0, 1, 2, 3, 4, 5, 6, 7] [8, 9, 10, 11] (fun g_ : Value × Value × Value × Value => .agg #[g_.1, g_.2.1, g_.2.2.1, g_.2.2.2, .int .i64 (((quietR r1)).NextWrit), .int .i64 (((quietR r1)).NextThing)]) §12 §24 rfl rfl rfl eg_17 rfl rfl (fun w own hw H => quietD_any vmW vmT vmH vmN (r1) w own H (by assumption) (by assumption)) rfl) (fun _ => §7) rfl ?_
      rintro ⟨z29, z30, z31, z32⟩
      dsimp only
      refine D.one (i := 19) §17 rfl ?_
      refine Do.s (s.c (q.call eg_15 rfl rfl (fun w hw => (cv (congrArg Value.bool t3_) (sameRealm_any _ _ _ _ ((quietR r1)) _ _ _ _ ((quietR r1)) w ((fun _ => Wd.fls 4 rfl) w hw) ((fun _ => Wd.fls 5 rfl) w hw) ((fun _ => Wd.fls 6 rfl) w hw) ((fun _ => Wd.fls 7 rfl) w hw) ((fun _ => Wd.fls 0 rfl) w hw) ((fun _ => Wd.fls 1 rfl) w hw) ((fun _ => Wd.fls 2 rfl) w hw) ((fun _ => Wd.fls 3 rfl) w hw) )))) rfl) (fun _ => §7) rfl fun _ => ?_
      refine D.q (i := 20) rfl §17 §7 rfl (q.not rfl) rfl <| D.q (i := 21) rfl §17 §7 rfl (q.pickF rfl rfl) rfl <| D.q (i := 22) rfl §17 §7 rfl (q.mv rfl) rfl <| D.q (i := 23) rfl §17 §7 rfl (q.ldS 7 rfl rfl tAgg_30) rfl <| D.q (i := 25) rfl §17 §7 rfl (q.ldS 6 rfl rfl tAgg_30) rfl <| ?_
      refine D.one (i := 24) §17 rfl ?_
      refine Do.s (B' := (fun g_ : Value × Value × Value × Value => §0)) (F' := (fun g_ : Value × Value × Value × Value => [Res.ls g_.1 ((r1).Writs : List Writ), Res.ls g_.2.1 ((r1).Things : List Thing), Res.ls g_.2.2.1 ((r1).Held : List Held), Res.ls g_.2.2.2 ((r1).Notes : List Note), Res.ls z29 ((quietR r1).Writs : List Writ), Res.ls z30 ((quietR r1).Things : List Thing), Res.ls z31 ((quietR r1).Held : List Held), Res.ls z32 ((quietR r1).Notes : List Note), Res.ls z25 ((quietR r1).Writs : List Writ), Res.ls z26 ((quietR r1).Things : List Thing), Res.ls z27 ((quietR r1).Held : List Held), Res.ls z28 ((quietR r1).Notes : List Note), Res.ls z9 ((§9.1).Writs : List Writ), Res.ls z10 ((§9.1).Things : List Thing), Res.ls z11 ((§9.1).Held : List Held), Res.ls z12 ((§9.1).Notes : List Note), Res.ls vmW (r1.Writs : List Writ), Res.ls vmT (r1.Things : List Thing), Res.ls vmH (r1.Held : List Held), Res.ls vmN (r1.Notes : List Note), Res.ls r1_W (r1.Writs : List Writ), Res.ls r1_T (r1.Things : List Thing), Res.ls r1_H (r1.Held : List Held), Res.ls r1_N (r1.Notes : List Note), Res.ls z5 (([]) : List Writ), Res.ls z6 (([]) : List Thing), Res.ls z7 (([]) : List Held), Res.ls z8 (([]) : List Note), Res.ls z1 (([]) : List Writ), Res.ls z2 (([]) : List Thing), Res.ls z3 (([]) : List Held), Res.ls z4 (([]) : List Note), Res.acts l, Res.ls v_l (l : List Deed)])) (s.callV (B0 := []) (Br := §0) (F0 := §14) [0, 1, 2, 3, 4, 5, 6, 7] [16, 17, 18, 19] (fun g_ : Value × Value × Value × Value => .agg #[g_.1, g_.2.1, g_.2.2.1, g_.2.2.2, .int .i64 ((r1).NextWrit), .int .i64 ((r1).NextThing)]) §12 (fun g_ : Value × Value × Value × Value => [Res.ls g_.1 ((r1).Writs : List Writ), Res.ls g_.2.1 ((r1).Things : List Thing), Res.ls g_.2.2.1 ((r1).Held : List Held), Res.ls g_.2.2.2 ((r1).Notes : List Note)]) rfl rfl rfl eg_18 rfl rfl (fun w own hw H => copyR_any r1_W r1_T r1_H r1_N (r1) w own H (by assumption)) rfl) (fun _ => §15) rfl ?_
      rintro ⟨z33, z34, z35, z36⟩
      dsimp only
      refine D.one (i := 26) §17 rfl ?_
      refine Do.s (s.c (q.call eg_15 rfl rfl (fun w hw => (cv (congrArg Value.bool t4_) (sameRealm_any _ _ _ _ (r1) _ _ _ _ (r1) w ((fun _ => Wd.fls 0 rfl) w hw) ((fun _ => Wd.fls 1 rfl) w hw) ((fun _ => Wd.fls 2 rfl) w hw) ((fun _ => Wd.fls 3 rfl) w hw) ((fun _ => Wd.fls 16 rfl) w hw) ((fun _ => Wd.fls 17 rfl) w hw) ((fun _ => Wd.fls 18 rfl) w hw) ((fun _ => Wd.fls 19 rfl) w hw) )))) rfl) (fun _ => §15) rfl fun _ => ?_
      refine D.q (i := 27) rfl §17 §15 rfl (q.not rfl) rfl <| D.q (i := 28) rfl §17 §15 rfl (q.pickF rfl rfl) rfl <| D.done §17 <| ?_
      refine R.condF rfl rfl ?_
      refine R.reg rfl <| R.q (q.ldS 7 rfl rfl tAgg_30) rfl <| R.q (q.ldS 5 rfl rfl tAgg_37) rfl <| ?_
      refine R.s (B' := (fun g_ : Value × Value × Value × Value => §0)) (F' := (fun g_ : Value × Value × Value × Value => [Res.ls g_.1 ((((doR r1 x1)).1).Writs : List Writ), Res.ls g_.2.1 ((((doR r1 x1)).1).Things : List Thing), Res.ls g_.2.2.1 ((((doR r1 x1)).1).Held : List Held), Res.ls g_.2.2.2 ((((doR r1 x1)).1).Notes : List Note), Res.ls z33 (r1.Writs : List Writ), Res.ls z34 (r1.Things : List Thing), Res.ls z35 (r1.Held : List Held), Res.ls z36 (r1.Notes : List Note), Res.ls z29 ((quietR r1).Writs : List Writ), Res.ls z30 ((quietR r1).Things : List Thing), Res.ls z31 ((quietR r1).Held : List Held), Res.ls z32 ((quietR r1).Notes : List Note), Res.ls z25 ((quietR r1).Writs : List Writ), Res.ls z26 ((quietR r1).Things : List Thing), Res.ls z27 ((quietR r1).Held : List Held), Res.ls z28 ((quietR r1).Notes : List Note), Res.ls z9 ((§9.1).Writs : List Writ), Res.ls z10 ((§9.1).Things : List Thing), Res.ls z11 ((§9.1).Held : List Held), Res.ls z12 ((§9.1).Notes : List Note), Res.ls vmW (r1.Writs : List Writ), Res.ls vmT (r1.Things : List Thing), Res.ls vmH (r1.Held : List Held), Res.ls vmN (r1.Notes : List Note), Res.ls r1_W (r1.Writs : List Writ), Res.ls r1_T (r1.Things : List Thing), Res.ls r1_H (r1.Held : List Held), Res.ls r1_N (r1.Notes : List Note), Res.ls z5 (([]) : List Writ), Res.ls z6 (([]) : List Thing), Res.ls z7 (([]) : List Held), Res.ls z8 (([]) : List Note), Res.ls z1 (([]) : List Writ), Res.ls z2 (([]) : List Thing), Res.ls z3 (([]) : List Held), Res.ls z4 (([]) : List Note), Res.acts l, Res.ls v_l (l : List Deed)])) rfl (s.callV (B0 := []) (Br := §0) (F0 := §14) [0, 1, 2, 3, 4, 5, 6, 7] [20, 21, 22, 23] (fun g_ : Value × Value × Value × Value => .tuple #[.agg #[g_.1, g_.2.1, g_.2.2.1, g_.2.2.2, .int .i64 ((((doR r1 x1)).1).NextWrit), .int .i64 ((((doR r1 x1)).1).NextThing)], errv (((doR r1 x1)).2)]) §12 §23 rfl rfl rfl eg_19 rfl rfl (fun w own hw H => doR_any r1_W r1_T r1_H r1_N (r1) (x1) w own H (by assumption)) rfl) ?_
      rintro ⟨z37, z38, z39, z40⟩
      dsimp only
      refine R.u 3 rfl <| ?_
      refine R.s rfl §11 fun b9 => ?_
      refine R.s rfl (s.stV (us := §19) (cs' := §19) 0 _ rfl rfl rfl (fun _ _ => rfl) (.inl tAgg_30) §4 rfl rfl rfl) fun _ => ?_
      refine R.u 1 rfl <| R.nil ?_
      refine R.reg rfl <| R.q (q.ldS 7 rfl rfl tAgg_30) rfl <| R.q (q.ldS 6 rfl rfl tAgg_37) rfl <| ?_
      refine R.s (B' := (fun g_ : Value × Value × Value × Value => §13)) (F' := (fun g_ : Value × Value × Value × Value => [Res.ls g_.1 ((((doR r1 x1)).1).Writs : List Writ), Res.ls g_.2.1 ((((doR r1 x1)).1).Things : List Thing), Res.ls g_.2.2.1 ((((doR r1 x1)).1).Held : List Held), Res.ls g_.2.2.2 ((((doR r1 x1)).1).Notes : List Note), Res.ls z37 (((doR r1 x1).1).Writs : List Writ), Res.ls z38 (((doR r1 x1).1).Things : List Thing), Res.ls z39 (((doR r1 x1).1).Held : List Held), Res.ls z40 (((doR r1 x1).1).Notes : List Note), Res.ls z33 (r1.Writs : List Writ), Res.ls z34 (r1.Things : List Thing), Res.ls z35 (r1.Held : List Held), Res.ls z36 (r1.Notes : List Note), Res.ls z29 ((quietR r1).Writs : List Writ), Res.ls z30 ((quietR r1).Things : List Thing), Res.ls z31 ((quietR r1).Held : List Held), Res.ls z32 ((quietR r1).Notes : List Note), Res.ls z25 ((quietR r1).Writs : List Writ), Res.ls z26 ((quietR r1).Things : List Thing), Res.ls z27 ((quietR r1).Held : List Held), Res.ls z28 ((quietR r1).Notes : List Note), Res.ls z9 ((§9.1).Writs : List Writ), Res.ls z10 ((§9.1).Things : List Thing), Res.ls z11 ((§9.1).Held : List Held), Res.ls z12 ((§9.1).Notes : List Note), Res.ls vmW (r1.Writs : List Writ), Res.ls vmT (r1.Things : List Thing), Res.ls vmH (r1.Held : List Held), Res.ls vmN (r1.Notes : List Note), Res.ls r1_W (r1.Writs : List Writ), Res.ls r1_T (r1.Things : List Thing), Res.ls r1_H (r1.Held : List Held), Res.ls r1_N (r1.Notes : List Note), Res.ls z5 (([]) : List Writ), Res.ls z6 (([]) : List Thing), Res.ls z7 (([]) : List Held), Res.ls z8 (([]) : List Note), Res.ls z1 (([]) : List Writ), Res.ls z2 (([]) : List Thing), Res.ls z3 (([]) : List Held), Res.ls z4 (([]) : List Note), Res.acts l, Res.ls v_l (l : List Deed)])) rfl (s.callV (B0 := []) (Br := §13) (F0 := §21) [0, 1, 2, 3, 4, 5, 6, 7, 8] [20, 21, 22, 23] (fun g_ : Value × Value × Value × Value => .tuple #[.agg #[g_.1, g_.2.1, g_.2.2.1, g_.2.2.2, .int .i64 ((((doR r1 x1)).1).NextWrit), .int .i64 ((((doR r1 x1)).1).NextThing)], .int .i64 (((doR r1 x1)).2)]) §12 §23 rfl rfl rfl eg_20 rfl rfl (fun w own hw H => doD_any vmW vmT vmH vmN (r1) (x1) w own H (by assumption) (by assumption)) rfl) ?_
      rintro ⟨z41, z42, z43, z44⟩
      dsimp only
      refine R.u 3 rfl <| ?_
      refine R.s rfl §11 fun b10 => ?_
      refine R.s rfl (s.stV (us := §20) (cs' := §20) 0 _ rfl rfl rfl (fun _ _ => rfl) (.inl tAgg_30) §4 rfl rfl rfl) fun _ => ?_
      refine R.u 1 rfl <| R.nil ?_
      refine R.reg rfl <| R.u 2 rfl <| R.c (q.call eg_12 rfl rfl (fun w hw => (cv (congrArg Value.bool t5_) (same_any ((doR r1 x1).2) ((doR r1 x1).2) w  §25)))) rfl <| R.u 2 rfl <| R.qg rfl (q.ldS 1 rfl rfl tAgg_30) rfl <| R.qg rfl (q.ldS 0 rfl rfl tAgg_30) rfl <| R.cg rfl (q.call eg_15 rfl rfl (fun w hw => (cv (congrArg Value.bool t6_) (sameRealm_any _ _ _ _ (((doR r1 x1).1)) _ _ _ _ (((doR r1 x1).1)) w ((fun _ => Wd.fls 4 rfl) w hw) ((fun _ => Wd.fls 5 rfl) w hw) ((fun _ => Wd.fls 6 rfl) w hw) ((fun _ => Wd.fls 7 rfl) w hw) ((fun _ => Wd.fls 0 rfl) w hw) ((fun _ => Wd.fls 1 rfl) w hw) ((fun _ => Wd.fls 2 rfl) w hw) ((fun _ => Wd.fls 3 rfl) w hw) )))) rfl <| R.u 3 rfl <| R.qg rfl (q.ldS 9 rfl rfl tAgg_30) rfl <| R.qg rfl (q.ldS 8 rfl rfl tAgg_30) rfl <| R.cg rfl (q.call eg_15 rfl rfl (fun w hw => (cv (congrArg Value.bool t4_) (sameRealm_any _ _ _ _ (r1) _ _ _ _ (r1) w ((fun _ => Wd.fls 28 rfl) w hw) ((fun _ => Wd.fls 29 rfl) w hw) ((fun _ => Wd.fls 30 rfl) w hw) ((fun _ => Wd.fls 31 rfl) w hw) ((fun _ => Wd.fls 24 rfl) w hw) ((fun _ => Wd.fls 25 rfl) w hw) ((fun _ => Wd.fls 26 rfl) w hw) ((fun _ => Wd.fls 27 rfl) w hw) )))) rfl <| R.u 2 rfl <| R.nil ?_
      refine R.condF rfl rfl ?_
      refine R.reg rfl <| R.u 1 rfl <| ?_
      by_cases h3 : (doR r1 x1).2 = 0
      · refine R.q (q.eql rfl rfl (beq_iff_eq.2 (by omega))) rfl <| R.nil ?_
        refine R.condT rfl rfl ?_
        refine R.reg rfl <| R.q (q.ldS 1 rfl rfl tAgg_30) rfl <| ?_
        refine R.s rfl (s.stV (us := §19) (cs' := §19) 9 _ rfl rfl rfl (fun _ _ => rfl) (.inl tAgg_30) (fun w hw => (one_cons (Sl.one ((fun _ => Wd.fls 4 rfl) w hw)) (one_cons (Sl.one ((fun _ => Wd.fls 5 rfl) w hw)) (one_cons (Sl.one ((fun _ => Wd.fls 6 rfl) w hw)) (one_cons (Sl.one ((fun _ => Wd.fls 7 rfl) w hw)) (one_cons rfl (one_cons rfl one_nil))))))) rfl rfl rfl) fun _ => ?_
        refine R.nil ?_
        refine R.reg rfl <| R.q (q.ldS 0 rfl rfl tAgg_30) rfl <| ?_
        refine R.s rfl (s.stV (us := §20) (cs' := §20) 8 _ rfl rfl rfl (fun _ _ => rfl) (.inl tAgg_30) §4 rfl rfl rfl) fun _ => ?_
        refine R.nil ?_
        refine R.reg rfl <| R.u 1 rfl <| R.q (q.add (r := ((i + 1 : Nat) : Int)) rfl rfl (wr (by omega))) rfl <| R.u 1 rfl <| R.nil ?_
        refine R.back (i + 1, z41, z42, z43, z44, ((doR r1 x1).1), z37, z38, z39, z40) rfl (by ((try dsimp only); exact ⟨by omega, hI.do (by assumption), do_sz hz x1⟩)) (by dsimp only; omega) ⟨rfl, rfl, rfl, rfl, trivial⟩ (fun _ => Wd.pik [8, 9] [0, 1, 2, 3, 4, 5, 6, 7, 32, 33, 34, 35, 36, 37, 38, 39, 40, 41] rfl rfl rfl)
      · refine R.q (q.eql rfl rfl (beq_eq_false_iff_ne.2 (by omega))) rfl <| R.nil ?_
        refine R.condF rfl rfl ?_
        refine R.reg rfl <| R.u 1 rfl <| R.q (q.add (r := ((i + 1 : Nat) : Int)) rfl rfl (wr (by omega))) rfl <| R.u 1 rfl <| R.nil ?_
        refine R.back (i + 1, vmW, vmT, vmH, vmN, r1, r1_W, r1_T, r1_H, r1_N) rfl (by ((try dsimp only); exact ⟨by omega, hI, hz.up (by omega)⟩)) (by dsimp only; omega) ⟨rfl, rfl, rfl, rfl, trivial⟩ (fun _ => Wd.pik [8, 9] [24, 25, 26, 27, 28, 29, 30, 31, 32, 33, 34, 35, 36, 37, 38, 39, 40, 41] rfl rfl rfl)
    · refine R.q (q.lss rfl rfl (decide_eq_false (by omega))) rfl <| R.nil ?_
      refine R.condF rfl rfl ?_
      refine R.reg rfl <| R.u 1 rfl <| R.nil ?_
      exact R.rv rfl Tryz.results3 rfl (rB (by (first | rfl | (exfalso; omega))))
  · refine R.cg rfl (q.call eg_5 rfl rfl (fun w hw => (cv (congrArg Value.bool h1) (lightA_any _ (l) (80) w ((fun _ => Wd.fls 1 rfl) w hw) (hw.acts 0 rfl) )))) rfl <| R.u 2 rfl <| R.nil ?_
    refine R.condT rfl rfl ?_
    refine R.reg rfl <| R.u 2 rfl <| R.nil ?_
    exact R.rv rfl Tryz.results3 rfl (rB (by (first | rfl | (exfalso; omega))))

end Go.Proofs.YtpipachmngdegaaGreat
end
