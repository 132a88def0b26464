import Derived.Test.YtpipachmngdegaaGreatRealmSaysProofG35
import Derived.Test.YtpipachmngdegaaGreatRealmSaysProofG38
import Derived.Test.YtpipachmngdegaaGreatRealmSaysProofG39
import Derived.Test.YtpipachmngdegaaGreatRealmSaysProofG42
import Derived.Test.YtpipachmngdegaaGreatRealmSaysProofG44
section
/-
  The walks of chapter 5: what the document does with writs.
-/
namespace Go.Proofs.YtpipachmngdegaaGreat
open Go Go.RowKit
set_option linter.unusedVariables false
set_option linter.unusedSimpArgs false
set_option maxRecDepth 100000
set_option hygiene false
local macro:max "§0" : term => `(((derived ((getR r p).1) r.NextWrit rights badge).1))
local macro:max "§1" : term => `((addW r (⟨r.NextWrit, r.NextThing, 7, 0, 0⟩ : Writ)))
local macro:max "§2" : term => `([.slice none 0 0, .slice none 0 0, .slice none 0 0, .slice none 0 0, .int .i64 0, .int .i64 0])
local macro:max "§3" : term => `([.int .i64 (((getR r p).1).ID), .int .i64 (((getR r p).1).Thing), .int .i64 (((getR r p).1).Rights), .int .i64 (((getR r p).1).Badge), .int .i64 (((getR r p).1).From)])
local macro:max "§4" : term => `((by (first | (rw [mayR_bad (by omega)]; first | done | rfl | omega) | (rw [mayR_kind (by omega) hx1 (beq_iff_eq.2 (by omega)) HA (by omega)]; first | done | rfl) | (rw [mayR_right (by omega) hx1 (beq_iff_eq.2 (by omega)) HA (by omega) (by first | assumption | simpa using ‹(!hasR (getR r p).1.Rights rights) = true›)]; first | done | rfl) | (rw [mayR_ok (by omega) hx1 (beq_iff_eq.2 (by omega)) HA (by omega) (by first | assumption | simpa using ‹(!hasR (getR r p).1.Rights rights) = false›)]; first | done | rfl) | (rw [mayR_none (by omega) (fun x hx => by obtain ⟨j, hj⟩ := List.mem_iff_getElem?.1 hx; exact HA j x (by have := (List.getElem?_eq_some_iff.1 hj).1; omega) hj)]; first | done | rfl))))
local macro:max "§5" : term => `([Res.ls v_rW (r.Writs : List Writ), Res.ls v_rT (r.Things : List Thing), Res.ls v_rH (r.Held : List Held), Res.ls v_rN (r.Notes : List Note)])
local macro:max "§6" : term => `([.int .i64 (§0.ID), .int .i64 (§0.Thing), .int .i64 (§0.Rights), .int .i64 (§0.Badge), .int .i64 (§0.From)])
local macro:max "§7" : term => `((by (first | (rw [mayR_bad (by omega)]; first | done | rfl | omega) | (rw [mayR_kind (by omega) rfl (beq_iff_eq.2 (by omega)) HA (by omega)]; first | done | rfl) | (rw [mayR_right (by omega) rfl (beq_iff_eq.2 (by omega)) HA (by omega) (by first | assumption | simpa using ‹(!hasR (getR r p).1.Rights rights) = true›)]; first | done | rfl) | (rw [mayR_ok (by omega) rfl (beq_iff_eq.2 (by omega)) HA (by omega) (by first | assumption | simpa using ‹(!hasR (getR r p).1.Rights rights) = false›)]; first | done | rfl) | (rw [mayR_none (by omega) (fun x hx => by obtain ⟨j, hj⟩ := List.mem_iff_getElem?.1 hx; exact HA j x (by have := (List.getElem?_eq_some_iff.1 hj).1; omega) hj)]; first | done | rfl))))
local macro:max "§8" : term => `([.int .i64 r.NextWrit, .int .i64 r.NextThing, .int .i64 7, .int .i64 0, .int .i64 0])
local macro:max "§9" : term => `([.int .i64 p.Holder, .int .i64 p.Slot])
local macro:max "§10" : term => `([.int .i64 0, .int .i64 0, .int .i64 0, .int .i64 0, .int .i64 0])
local macro:max "§11" : term => `([v_rW, v_rT, v_rH, v_rN, .int .i64 r.NextWrit, .int .i64 r.NextThing])
local macro:max "§12" : term => `((fun w hw => (one_cons (Sl.one ((fun _ => Wd.row 0 rfl) w hw)) (one_cons (Sl.one ((fun _ => Wd.row 1 rfl) w hw)) (one_cons (Sl.one ((fun _ => Wd.row 2 rfl) w hw)) (one_cons (Sl.one ((fun _ => Wd.row 3 rfl) w hw)) (one_cons rfl (one_cons rfl one_nil))))))))
local macro:max "§13" : term => `((⟨§1.NextThing, kind, ⟨#[]⟩⟩ : Thing))
local macro:max "§14" : term => `([Res.row 39 z1 (r.Writs : List Writ), Res.row 74 z2 (r.Things : List Thing), Res.row 52 z4 (r.Notes : List Note), Res.box b5 [.int .i64 p.Holder, .int .i64 slot] 33, Res.box b4 §3 39, Res.box b3 §2 30, Res.box b2 §9 33, Res.box b1 [z1, z2, z3, z4, .int .i64 r.NextWrit, .int .i64 r.NextThing] 30, Res.held w own])
local macro:max "§15" : term => `([z6, z7, z10, z9, .int .i64 ((addW r §0).NextWrit), .int .i64 ((addW r §0).NextThing)])
local macro:max "§16" : term => `([z1, z2, z5, z4, .int .i64 ((addW r §0).NextWrit), .int .i64 ((addW r §0).NextThing)])
local macro:max "§17" : term => `((by first | assumption | exact hI.good | exact hP.good | exact good_put hI.good (by assumption)))
local macro:max "§18" : term => `([z6, v2, z10, z9, .int .i64 (§1.NextWrit), .int .i64 ((§1.NextThing) + 1)])
local macro:max "§19" : term => `([z1, v1, z5, z4, .int .i64 (§1.NextWrit), .int .i64 ((§1.NextThing) + 1)])
local macro:max "§20" : term => `((q.gtr rfl rfl (decide_eq_false (by omega))))
local macro:max "§21" : term => `((q.gtr rfl rfl (decide_eq_true (by omega))))
local macro:max "§22" : term => `((s.st (us := §2) (cs' := §2) 0 _ rfl rfl rfl rfl (.inl tAgg_30) rfl rfl rfl rfl))
local macro:max "§23" : term => `([.int .i64 t.Holder, .int .i64 t.Slot])
local macro:max "§24" : term => `(((fun _ => Wd.row 0 rfl) w hw))
local macro:max "§25" : term => `([z1, z2, z8, z4, .int .i64 r.NextWrit, .int .i64 r.NextThing])
local macro:max "§26" : term => `((fun _ hw => hw.nilL (α := Thing)))
local macro:max "§27" : term => `((fun x hx => by obtain ⟨j, hj⟩ := List.mem_iff_getElem?.1 hx; exact HA j x (by have := (List.getElem?_eq_some_iff.1 hj).1; omega) hj))
local macro:max "§28" : term => `((⟨[], [], [], [], 0, 0⟩ : Realm))
local macro:max "§29" : term => `((fun _ hw => hw.nilL (α := Writ)))
local macro:max "§30" : term => `((fun _ hw => hw.nilL (α := Held)))
local macro:max "§31" : term => `((fun _ hw => hw.nilL (α := Note)))
local macro:max "§32" : term => `((q.build (cs := §2) tB_30 rfl rfl))
local macro:max "§33" : term => `((by (unfold freeR; first | (rw [if_pos (by omega), if_pos (by assumption)]; first | done | rfl | omega) | (rw [if_pos (by omega), if_neg (by assumption)]; first | done | rfl | omega) | (rw [if_neg (by omega)]; first | done | rfl | omega))))
local macro:max "§34" : term => `((q.fld (off' := 2) rfl tFld_30_2 rfl))
local macro:max "§35" : term => `((fun w hw => (one_cons (Sl.one ((fun _ => Wd.row 1 rfl) w hw)) (one_cons (Sl.one ((fun _ => Wd.row 2 rfl) w hw)) (one_cons (Sl.one §24) (one_cons (Sl.one ((fun _ => Wd.row 3 rfl) w hw)) (one_cons rfl (one_cons rfl one_nil))))))))
local macro:max "§36" : term => `((by (first | (rw [getR_bad (by omega)]; first | done | rfl | omega) | (rw [getR_none (by omega) c1f]; first | done | rfl | omega) | (rw [getR_hit (by omega) c1f (List.getElem?_eq_getElem c1h)]; first | done | rfl | omega))))
local macro:max "§37" : term => `((by first | omega | assumption | (simp; done) | (simp; omega) | (dsimp only [addW]; omega)))
local macro:max "§38" : term => `((by first | omega | (simp; omega) | (simp [addW]; omega) | (dsimp only [addW]; omega)))
local macro:max "§39" : term => `((s.st (us := §2) (cs' := §2) 1 _ rfl rfl rfl rfl (.inl tAgg_30) rfl rfl rfl rfl))
local macro:max "§40" : term => `((q.fld (off' := 1) rfl tFld_30_1 rfl))
local macro:max "§41" : term => `([Res.row 74 (.slice (some ⟨b5, 0, none⟩) 1 1) ([§13] : List Thing), Res.row 39 z1 (§1.Writs : List Writ), Res.row 74 v1 (((§1.Things) ++ ([§13])) : List Thing), Res.row 52 z4 (§1.Notes : List Note), Res.box b4 §8 39, Res.box b3 §2 30, Res.box b2 §9 33, Res.box b1 [z1, v1, z3, z4, .int .i64 (§1.NextWrit), .int .i64 ((§1.NextThing) + 1)] 30, Res.held w own])
local macro:max "§42" : term => `([Res.row 74 (.slice (some ⟨b7, 0, none⟩) 1 1) ([§13] : List Thing), Res.row 39 z6 (§1.Writs : List Writ), Res.row 74 v2 (((§1.Things) ++ ([§13])) : List Thing), Res.row 52 z9 (§1.Notes : List Note), Res.box b6 §8 39, Res.box b3 §2 30, Res.box b2 §9 33, Res.box b1 [z6, v2, z8, z9, .int .i64 (§1.NextWrit), .int .i64 ((§1.NextThing) + 1)] 30, Res.held w own])
local macro:max "§43" : term => `((by first | exact .inl (by assumption) | exact .inr (has4_yes gr (by omega))))
local macro:max "§44" : term => `([Res.row 39 z1 ((addW r §0).Writs : List Writ), Res.row 74 z2 ((addW r §0).Things : List Thing), Res.row 52 z4 ((addW r §0).Notes : List Note), Res.box b6 §6 39, Res.box b5 §3 39, Res.box b4 §2 30, Res.box b3 §23 33, Res.box b2 §9 33, Res.box b1 [z1, z2, z3, z4, .int .i64 ((addW r §0).NextWrit), .int .i64 ((addW r §0).NextThing)] 30, Res.held w own])
local macro:max "§45" : term => `([Res.row 39 z6 ((addW r §0).Writs : List Writ), Res.row 74 z7 ((addW r §0).Things : List Thing), Res.row 52 z9 ((addW r §0).Notes : List Note), Res.box b7 §6 39, Res.box b5 §3 39, Res.box b4 §2 30, Res.box b3 §23 33, Res.box b2 §9 33, Res.box b1 [z6, z7, z8, z9, .int .i64 ((addW r §0).NextWrit), .int .i64 ((addW r §0).NextThing)] 30, Res.held w own])
local macro:max "§46" : term => `([.int .i64 p.Holder, .int .i64 slot])
local macro:max "§47" : term => `((fun w hw => (one_cons (Sl.one §24) one_nil)))
local macro:max "§48" : term => `([.int .i64 ((r.Writs[c1j]).ID), .int .i64 ((r.Writs[c1j]).Thing), .int .i64 ((r.Writs[c1j]).Rights), .int .i64 ((r.Writs[c1j]).Badge), .int .i64 ((r.Writs[c1j]).From)])
local macro:max "§49" : term => `((by first | assumption | simpa using ‹(!hasR (getR r p).1.Rights rights) = false›))
local macro:max "§50" : term => `((by first | assumption | simpa using ‹(!hasR (getR r p).1.Rights rights) = true›))
local macro:max "§51" : term => `((fun _ => Wd.pik [0, 1, 3, 4, 5, 6, 7, 9] [0, 1, 2, 3] rfl rfl rfl))
local macro:max "§52" : term => `((by first | omega | (simp; done) | (simp; omega)))
local macro:max "§53" : term => `((s.alloc (cs := §10) tZero_39 rfl rfl))
local macro:max "§54" : term => `((q.fld (off' := 4) rfl tFld_30_4 rfl))
local macro:max "§55" : term => `((q.fld (off' := 5) rfl tFld_30_5 rfl))
local macro:max "§56" : term => `([z1, z2, z3, z4, .int .i64 r.NextWrit, .int .i64 r.NextThing])
local macro:max "§57" : term => `((⟨p.Holder, slot⟩ : Place))
local macro:max "§58" : term => `((fun g_ : Value × Value × Value × Value => [Res.row 39 g_.1 (((addW r §0)).Writs : List Writ), Res.row 74 g_.2.1 (((addW r §0)).Things : List Thing), Res.row 93 g_.2.2.1 (((addW r §0)).Held : List Held), Res.row 52 g_.2.2.2 (((addW r §0)).Notes : List Note)]))
local macro:max "§59" : term => `((by (unfold readR; (repeat' split) <;> first | rfl | (exfalso; omega) | (simp_all; done))))
local macro:max "§60" : term => `((fun _ => Wd.old s_rT))
local macro:max "§61" : term => `((s.st (us := §10) (cs' := §10) 1 _ rfl rfl rfl rfl (.inl tAgg_39) rfl rfl rfl rfl))
local macro:max "§62" : term => `([.agg #[v_rW, v_rT, v_rH, v_rN, .int .i64 r.NextWrit, .int .i64 r.NextThing], .agg #[.int .i64 p.Holder, .int .i64 p.Slot]])
local macro:max "§63" : term => `((fun _ hw => hw.lendL 0 _ rfl rfl))
local macro:max "§64" : term => `((by assumption))
local macro:max "§65" : term => `((q.neq rfl rfl (bne_eq_false_iff_eq.2 (by omega))))
local macro:max "§66" : term => `((fun g_ : Value × Value × Value × Value => §5))
local macro:max "§67" : term => `((fun g_ : Value × Value × Value × Value => [Res.row 39 g_.1 ((§1).Writs : List Writ), Res.row 74 g_.2.1 ((§1).Things : List Thing), Res.row 93 g_.2.2.1 ((§1).Held : List Held), Res.row 52 g_.2.2.2 ((§1).Notes : List Note)]))
local macro:max "§68" : term => `((fun w hw => (one_cons (Sl.one ((fun _ => Wd.row 2 rfl) w hw)) (one_cons (Sl.one ((fun _ => Wd.row 3 rfl) w hw)) (one_cons (Sl.one §24) (one_cons (Sl.one ((fun _ => Wd.row 4 rfl) w hw)) (one_cons rfl (one_cons rfl one_nil))))))))
local macro:max "§69" : term => `((fun g_ : Value × Value × Value × Value => []))

theorem has4 {r : Int} (h0 : 0 ≤ r) (h7 : r ≤ 7) : hasR r 4 = decide (4 ≤ r) := by
  have h : r = 0 ∨ r = 1 ∨ r = 2 ∨ r = 3 ∨ r = 4 ∨ r = 5 ∨ r = 6 ∨ r = 7 := by omega
  rcases h with rfl | rfl | rfl | rfl | rfl | rfl | rfl | rfl <;> decide
theorem has4_yes {r : Int} (h0 : 0 ≤ r ∧ r ≤ 7) (h : ¬ r < 4) : hasR r 4 = true := by rw [has4 h0.1 h0.2]; exact decide_eq_true (by omega)
theorem has4_no {r : Int} (h0 : 0 ≤ r ∧ r ≤ 7) (h : r < 4) : hasR r 4 = false := by rw [has4 h0.1 h0.2]; exact decide_eq_false (by omega)
theorem ref_hit {l : List Int} {n x : Int} {k : Nat} (hx : l[k]? = some x) (h : x = n) : true = decide (n ∈ l) := by
  subst h; exact (decide_eq_true (List.mem_of_getElem? hx)).symm
theorem ref_none {l : List Int} {n : Int} (h : ∀ (j : Nat) x, j < l.length → l[j]? = some x → ¬ x = n) : false = decide (n ∈ l) := by
  refine (decide_eq_false fun hm => ?_).symm
  obtain ⟨j, hj⟩ := List.mem_iff_getElem?.1 hm
  exact h j _ (List.getElem?_eq_some_iff.1 hj).1 hj rfl
theorem filter_yes {α : Type} {f : α → Bool} {l : List α} {k : Nat} {x : α} (hx : l[k]? = some x) (h : f x = true) : (l.take (k + 1)).filter f = (l.take k).filter f ++ [x] := by
  rw [List.take_add_one, hx]; simp [List.filter_append, h]
theorem filter_no {α : Type} {f : α → Bool} {l : List α} {k : Nat} {x : α} (hx : l[k]? = some x) (h : f x = false) : (l.take (k + 1)).filter f = (l.take k).filter f := by
  rw [List.take_add_one, hx]; simp [List.filter_append, h]
def addW (r : Realm) (w : Writ) : Realm := ⟨r.Writs ++ [w], r.Things, r.Held, r.Notes, r.NextWrit + 1, r.NextThing⟩
theorem filter_to {α : Type} (f : α → Bool) (l : List α) (k : Nat) : ((l.take k).filter f).length ≤ k := Nat.le_trans (List.length_filter_le _ _) (by rw [List.length_take]; omega)
theorem atG_any (v_l : Value) (l : List Held) (p : Place) (w : World) (s_l : Sl w v_l l) (hg : Good l) : Calls Tryz.prog 28 #[v_l, .agg #[.int .i64 p.Holder, .int .i64 p.Slot]] w fun e w' => e = .returned (.int .i64 (atH l p)) ∧ Ext w w' := by
  rw [at_eq (rise_of hg)]; exact atRef_any v_l l p w s_l
theorem freeG_any (v_l : Value) (l : List Held) (h : Int) (w : World) (s_l : Sl w v_l l) (hg : Good l) : Calls Tryz.prog 72 #[v_l, .int .i64 h] w fun e w' => e = .returned (.int .i64 (freeH l h)) ∧ Ext w w' := by
  rw [free_eq (rise_of hg)]; exact freeRef_any v_l l h w s_l
theorem putG_any (v_l : Value) (l : List Held) (p : Place) (id : Int) (w : World) (own : List Nat) (H : Wd w (blks [] ++ own) ([] ++ [Res.held w own]) [Res.ls v_l (l : List Held)] w) (hl : l.length ≤ 100000) (hg : Good l) : Calls Tryz.prog 73 #[v_l, .agg #[.int .i64 p.Holder, .int .i64 p.Slot], .int .i64 id] w fun e w' => ∃ z : Value, e = .returned (z) ∧ Wd w (blks [] ++ own) ([Res.row 93 z (putH l p id : List Held)] ++ [Res.held w own]) [] w' := by
  rw [put_eq (rise_of hg)]; exact putRef_any v_l l p id w own H hl
theorem thingsG_any (v_l : Value) (l : List Writ) (w : World) (s_l : Sl w v_l l) (hT : TreeOk l) : Calls Tryz.prog 80 #[v_l] w fun e w' => ∃ u, e = .returned u ∧ Own w.heap.size 3 w' u (thingsL l) ∧ Ext w w' := by
  unfold thingsL; rw [things_eq hT]; exact thingsRef_any v_l l w s_l
theorem withoutG_any (v_l : Value) (l : List Writ) (id : Int) (w : World) (s_l : Sl w v_l l) (hl : l.length ≤ 1000000) (hT : TreeOk l) : Calls Tryz.prog 42 #[v_l, .int .i64 id] w fun e w' => ∃ u, e = .returned u ∧ Own w.heap.size 39 w' u (without l id) ∧ Ext w w' := by
  rw [← woRef_eq hT]; exact withoutRef_any v_l l id w s_l hl
theorem beneathR_any (v_l : Value) (l : List Writ) (id : Int) (w : World) (s_l : Sl w v_l l) (hT : TreeOk l) (hl : l.length ≤ 1000000) : Calls Tryz.prog 89 #[v_l, .int .i64 id] w fun e w' => ∃ u, e = .returned u ∧ Own w.heap.size 3 w' u (benG id l) ∧ Ext w w' := by
  rw [benG_eq hT]; exact beneathRef_any v_l l id w s_l hT hl

theorem has_any (v_l : Value) (l : List Int) (n : Int) (w : World) (s_l : Sl w v_l l) : Calls Tryz.prog 81 #[v_l, .int .i64 n] w fun e w' => e = .returned (.bool (decide (n ∈ l))) ∧ Ext w w' := by
  have b_l := s_l.lenle
  refine R.enter (n := 18) (vs := [v_l, .int .i64 n]) [] [(0, v_l), (1, .int .i64 n)] Tryz.func81 rfl rfl rfl rfl ?_
  refine R.reg rfl <| R.u 1 rfl <| R.nil ?_
  refine R.reg rfl <| R.u 1 rfl <| R.nil ?_
  refine R.loop (fun k : Nat => [(0, v_l), (1, .int .i64 n), (5, .int .i64 (k : Int))]) (fun k : Nat => []) (fun k : Nat => []) (fun k : Nat => k ≤ l.length ∧ ∀ (j : Nat) x, j < k → l[j]? = some x → ¬ x = n) (fun k : Nat => l.length - k) 0 rfl (by exact ⟨by omega, fun j x hj => absurd hj (Nat.not_lt_zero _)⟩) ⟨rfl, rfl, rfl, trivial⟩ (fun _ => Wd.pick [] [] rfl rfl rfl) ?_
  rintro k ⟨hk, HA⟩
  refine R.reg rfl <| R.u 2 rfl <| R.q (q.len' (fun _ => Wd.old s_l) rfl Tryz.underlying116) rfl <| ?_
  by_cases h1 : k < l.length
  · refine R.q (q.lss rfl rfl (decide_eq_true (by omega))) rfl <| R.nil ?_
    refine R.condT rfl rfl ?_
    refine R.reg rfl <| R.u 2 rfl <| ?_
    obtain ⟨x1, hx1⟩ : ∃ z, l[k]? = some z := ⟨_, List.getElem?_eq_getElem (by omega)⟩
    refine R.q (q.idx (i := k) (fun _ => Wd.old s_l) rfl rfl tSl_116 rfl hx1) rfl <| R.q (q.ldE (fun _ => Wd.old s_l) hx1 rfl tOne_3 rfl) rfl <| R.u 1 rfl <| ?_
    by_cases h2 : x1 = n
    · refine R.q (q.eql rfl rfl (beq_iff_eq.2 (by omega))) rfl <| R.nil ?_
      refine R.condT rfl rfl ?_
      refine R.reg rfl <| R.u 1 rfl <| R.nil ?_
      exact R.rv rfl Tryz.results81 rfl (rB (by (exact ref_hit hx1 §64)))
    · refine R.q (q.eql rfl rfl (beq_eq_false_iff_ne.2 (by omega))) rfl <| R.nil ?_
      refine R.condF rfl rfl ?_
      refine R.reg rfl <| R.u 1 rfl <| R.q (q.add (r := ((k + 1 : Nat) : Int)) rfl rfl (wr (by omega))) rfl <| R.u 1 rfl <| R.nil ?_
      refine R.back (k + 1) rfl (by (exact ⟨by omega, fun j x hj hx => if e : j = k then by subst e; rw [hx1] at hx; injection hx with hx; subst hx; exact §64 else HA j x (by omega) hx⟩)) (by omega) ⟨rfl, rfl, rfl, trivial⟩ (fun _ => Wd.pick [] [] rfl rfl rfl)
  · refine R.q (q.lss rfl rfl (decide_eq_false (by omega))) rfl <| R.nil ?_
    refine R.condF rfl rfl ?_
    refine R.reg rfl <| R.u 1 rfl <| R.nil ?_
    exact R.rv rfl Tryz.results81 rfl (rB (by (exact ref_none (fun j x hj => HA j x (by omega)))))

theorem getD_any (v_rW v_rT v_rH v_rN : Value) (r : Realm) (p : Place) (w : World) (s_rW : Sl w v_rW r.Writs) (s_rT : Sl w v_rT r.Things) (s_rH : Sl w v_rH r.Held) (s_rN : Sl w v_rN r.Notes) (hk : Ok r) (hI : Inv r) : Calls Tryz.prog 9 #[.agg #[v_rW, v_rT, v_rH, v_rN, .int .i64 r.NextWrit, .int .i64 r.NextThing], .agg #[.int .i64 p.Holder, .int .i64 p.Slot]] w fun e w' => e = .returned (.tuple #[Writ.val ((getR r p).1), .int .i64 ((getR r p).2)]) ∧ Ext w w' := by
  have b1 := hk.hl
  have pf := placeFault_01 p
  refine R.enter (n := 29) (vs := §62) [] [(0, .agg #[v_rW, v_rT, v_rH, v_rN, .int .i64 r.NextWrit, .int .i64 r.NextThing]), (1, .agg #[.int .i64 p.Holder, .int .i64 p.Slot])] Tryz.func9 rfl rfl rfl rfl ?_
  refine R.reg rfl <| ?_
  refine R.s rfl (s.box (cs := §11) rfl rfl rfl) fun b1 => ?_
  refine R.s rfl (s.box (cs := §9) rfl rfl rfl) fun b2 => ?_
  refine R.s rfl §53 fun b3 => ?_
  refine R.u 1 rfl <| R.nil ?_
  refine R.reg rfl <| R.q (q.ldS 1 rfl rfl tAgg_33) rfl <| R.c (q.call eg_26 rfl rfl (fun w hw => (placeFaultRef_any (p) w  ))) rfl <| R.u 1 rfl <| R.nil ?_
  refine R.reg rfl <| R.u 1 rfl <| ?_
  by_cases h1 : 0 < placeFault p
  · refine R.q §21 rfl <| R.nil ?_
    refine R.condT rfl rfl ?_
    refine R.reg rfl <| R.q (q.build (cs := §10) tB_39 rfl rfl) rfl <| R.u 1 rfl <| ?_
    refine R.s rfl (s.st (us := §10) (cs' := §10) 0 _ rfl rfl rfl rfl (.inl tAgg_39) rfl rfl rfl rfl) fun _ => ?_
    refine R.u 1 rfl <| R.nil ?_
    exact R.rr2 rfl Tryz.results9 (RV.cell 0 rfl rfl tAgg_39) (RV.tmp rfl) (congrArg Writ.val (show (⟨0, 0, 0, 0, 0⟩ : Writ) = (getR r p).1 from by (first | (rw [getR_bad (by omega)]; first | done | rfl | omega) | (rw [getR_none (by omega) c1f]; first | done | rfl | omega) | (rw [getR_hit (by omega) c1f (List.getElem?_eq_getElem c1h)]; first | done | rfl | omega)))) (rI §36)
  · refine R.q §20 rfl <| R.nil ?_
    refine R.condF rfl rfl ?_
    rcases findW_cases r.Writs (atH r.Held p) with ⟨c1f, c1n⟩ | ⟨c1j, c1h, c1f, c1e, c1m⟩
    · refine R.regQ rfl mixed (by kernel_rfl) <| Q.q (q.fld (off' := 0) rfl tFld_30_0 rfl) rfl <| Q.q (q.ld 2 rfl rfl tOne_25 rfl) rfl <| Q.q §34 rfl <| Q.q (q.ld 2 rfl rfl tOne_27 rfl) rfl <| Q.q (q.ldS 1 rfl rfl tAgg_33) rfl <| Q.c (q.call eg_28 rfl rfl (fun w hw => (atG_any _ (r.Held) (p) w ((fun _ => Wd.old s_rH) w hw) §17))) rfl <| Q.c (q.call eg_27 rfl rfl (fun w hw => (cv (congrArg (Value.int .i64) c1f) (findRef_any _ (r.Writs) (atH r.Held p) w ((fun _ => Wd.old s_rW) w hw) )))) rfl <| Q.u 1 rfl <| Q.nil ?_
      refine R.reg rfl <| R.u 1 rfl <| R.q (q.lss (b := true) rfl rfl (by decide)) rfl <| R.nil ?_
      refine R.condT rfl rfl ?_
      refine R.reg rfl <| R.q (q.build (cs := §10) tB_39 rfl rfl) rfl <| ?_
      refine R.s rfl (s.st (us := §10) (cs' := §10) 0 _ rfl rfl rfl rfl (.inl tAgg_39) rfl rfl rfl rfl) fun _ => ?_
      refine R.u 1 rfl <| R.nil ?_
      exact R.rr2 rfl Tryz.results9 (RV.cell 0 rfl rfl tAgg_39) (RV.tmp rfl) (congrArg Writ.val (show (⟨0, 0, 0, 0, 0⟩ : Writ) = (getR r p).1 from by (first | (rw [getR_bad (by omega)]; first | done | rfl | omega) | (rw [getR_none (by omega) c1f]; first | done | rfl | omega) | (rw [getR_hit (by omega) c1f (List.getElem?_eq_getElem c1h)]; first | done | rfl | omega)))) (rI §36)
    · refine R.regQ rfl mixed (by kernel_rfl) <| Q.q (q.fld (off' := 0) rfl tFld_30_0 rfl) rfl <| Q.q (q.ld 2 rfl rfl tOne_25 rfl) rfl <| Q.q §34 rfl <| Q.q (q.ld 2 rfl rfl tOne_27 rfl) rfl <| Q.q (q.ldS 1 rfl rfl tAgg_33) rfl <| Q.c (q.call eg_28 rfl rfl (fun w hw => (atG_any _ (r.Held) (p) w ((fun _ => Wd.old s_rH) w hw) §17))) rfl <| Q.c (q.call eg_27 rfl rfl (fun w hw => (cv (congrArg (Value.int .i64) c1f) (findRef_any _ (r.Writs) (atH r.Held p) w ((fun _ => Wd.old s_rW) w hw) )))) rfl <| Q.u 1 rfl <| Q.nil ?_
      refine R.reg rfl <| R.u 1 rfl <| R.q (q.lss rfl rfl (decide_eq_false (by omega))) rfl <| R.nil ?_
      refine R.condF rfl rfl ?_
      refine R.reg rfl <| R.q (q.fld (off' := 0) rfl tFld_30_0 rfl) rfl <| R.q (q.ld 2 rfl rfl tOne_25 rfl) rfl <| R.u 1 rfl <| R.q (q.idx (i := c1j) (fun _ => Wd.old s_rW) rfl rfl tSl_25 rfl (List.getElem?_eq_getElem c1h)) rfl <| R.q (q.ldES (ds := §48) (fun _ => Wd.old s_rW) (List.getElem?_eq_getElem c1h) rfl tAgg_39 rfl) rfl <| ?_
      refine R.s rfl (s.st (us := §48) (cs' := §48) 0 _ rfl rfl rfl rfl (.inl tAgg_39) rfl rfl rfl rfl) fun _ => ?_
      refine R.u 1 rfl <| R.nil ?_
      exact R.rr2 rfl Tryz.results9 (RV.cell 0 rfl rfl tAgg_39) (RV.tmp rfl) (congrArg Writ.val (show (r.Writs[c1j]) = (getR r p).1 from by (first | (rw [getR_bad (by omega)]; first | done | rfl | omega) | (rw [getR_none (by omega) c1f]; first | done | rfl | omega) | (rw [getR_hit (by omega) c1f (List.getElem?_eq_getElem c1h)]; first | done | rfl | omega)))) (rI §36)

theorem freeD_any (v_rW v_rT v_rH v_rN : Value) (r : Realm) (p : Place) (w : World) (s_rW : Sl w v_rW r.Writs) (s_rT : Sl w v_rT r.Things) (s_rH : Sl w v_rH r.Held) (s_rN : Sl w v_rN r.Notes) (hk : Ok r) (hI : Inv r) : Calls Tryz.prog 86 #[.agg #[v_rW, v_rT, v_rH, v_rN, .int .i64 r.NextWrit, .int .i64 r.NextThing], .agg #[.int .i64 p.Holder, .int .i64 p.Slot]] w fun e w' => e = .returned (.int .i64 (freeR r p)) ∧ Ext w w' := by
  have b1 := hk.hl
  have pf := placeFault_01 p
  refine R.enter (n := 16) (vs := §62) [] [(0, .agg #[v_rW, v_rT, v_rH, v_rN, .int .i64 r.NextWrit, .int .i64 r.NextThing]), (1, .agg #[.int .i64 p.Holder, .int .i64 p.Slot])] Tryz.func86 rfl rfl rfl rfl ?_
  refine R.reg rfl <| ?_
  refine R.s rfl (s.box (cs := §11) rfl rfl rfl) fun b1 => ?_
  refine R.s rfl (s.box (cs := §9) rfl rfl rfl) fun b2 => ?_
  refine R.u 1 rfl <| R.nil ?_
  refine R.reg rfl <| R.q (q.ldS 0 rfl rfl tAgg_33) rfl <| R.c (q.call eg_26 rfl rfl (fun w hw => (placeFaultRef_any (p) w  ))) rfl <| R.u 1 rfl <| R.nil ?_
  refine R.reg rfl <| R.u 1 rfl <| ?_
  by_cases h1 : 0 < placeFault p
  · refine R.q §21 rfl <| R.nil ?_
    refine R.condT rfl rfl ?_
    refine R.reg rfl <| R.u 2 rfl <| R.nil ?_
    exact R.rv rfl Tryz.results86 rfl (rI §33)
  · refine R.q §20 rfl <| R.nil ?_
    refine R.condF rfl rfl ?_
    refine R.reg rfl <| R.q §34 rfl <| R.q (q.ld 1 rfl rfl tOne_27 rfl) rfl <| R.q (q.ldS 0 rfl rfl tAgg_33) rfl <| R.c (q.call eg_28 rfl rfl (fun w hw => (atG_any _ (r.Held) (p) w ((fun _ => Wd.old s_rH) w hw) §17))) rfl <| ?_
    by_cases h2 : atH r.Held p = 0
    · refine R.q §65 rfl <| R.nil ?_
      refine R.condF rfl rfl ?_
      refine R.reg rfl <| R.u 1 rfl <| R.nil ?_
      exact R.rv rfl Tryz.results86 rfl (rI §33)
    · refine R.q (q.neq rfl rfl (bne_iff_ne.2 (by omega))) rfl <| R.nil ?_
      refine R.condT rfl rfl ?_
      refine R.reg rfl <| R.u 1 rfl <| R.nil ?_
      exact R.rv rfl Tryz.results86 rfl (rI §33)

theorem mayD_any (v_rW v_rT v_rH v_rN : Value) (r : Realm) (p : Place) (kind : Int) (rights : Int) (w : World) (s_rW : Sl w v_rW r.Writs) (s_rT : Sl w v_rT r.Things) (s_rH : Sl w v_rH r.Held) (s_rN : Sl w v_rN r.Notes) (hk : Ok r) (hI : Inv r) (hr : 0 ≤ rights ∧ rights ≤ 7) : Calls Tryz.prog 30 #[.agg #[v_rW, v_rT, v_rH, v_rN, .int .i64 r.NextWrit, .int .i64 r.NextThing], .agg #[.int .i64 p.Holder, .int .i64 p.Slot], .int .i64 kind, .int .i64 rights] w fun e w' => e = .returned (.tuple #[Writ.val ((mayR r p kind rights).1), .int .i64 ((mayR r p kind rights).2.1), .int .i64 ((mayR r p kind rights).2.2)]) ∧ Ext w w' := by
  have bw := hk.wl; have bt := hk.tl; have bh := hk.hl; have bn := hk.nl; have bw0 := hk.w0; have bw1 := hk.w1; have bt0 := hk.t0; have bt1 := hk.t1
  have gn := getR_nonneg r p
  refine R.enter (n := 60) (vs := [.agg #[v_rW, v_rT, v_rH, v_rN, .int .i64 r.NextWrit, .int .i64 r.NextThing], .agg #[.int .i64 p.Holder, .int .i64 p.Slot], .int .i64 kind, .int .i64 rights]) [] [(0, .agg #[v_rW, v_rT, v_rH, v_rN, .int .i64 r.NextWrit, .int .i64 r.NextThing]), (1, .agg #[.int .i64 p.Holder, .int .i64 p.Slot]), (2, .int .i64 kind), (3, .int .i64 rights)] Tryz.func30 rfl rfl rfl rfl ?_
  refine R.reg rfl <| ?_
  refine R.s rfl (s.box (cs := §11) rfl rfl rfl) fun b1 => ?_
  refine R.s rfl (s.box (cs := §9) rfl rfl rfl) fun b2 => ?_
  refine R.s rfl §53 fun b3 => ?_
  refine R.u 2 rfl <| R.nil ?_
  refine R.reg rfl <| R.q (q.ldS 2 rfl rfl tAgg_30) rfl <| R.q (q.ldS 1 rfl rfl tAgg_33) rfl <| R.c (q.call eg_9 rfl rfl (fun w hw => (getD_any _ _ _ _ (r) (p) w ((fun _ => Wd.old s_rW) w hw) (§60 w hw) ((fun _ => Wd.old s_rH) w hw) ((fun _ => Wd.old s_rN) w hw) §64 §64))) rfl <| R.u 3 rfl <| ?_
  refine R.s rfl §53 fun b4 => ?_
  refine R.s rfl (s.st (us := §3) (cs' := §3) 0 _ rfl rfl rfl rfl (.inl tAgg_39) rfl rfl rfl rfl) fun _ => ?_
  refine R.u 1 rfl <| R.nil ?_
  refine R.reg rfl <| R.u 1 rfl <| ?_
  by_cases h1 : 0 < (getR r p).2
  · refine R.q §21 rfl <| R.nil ?_
    refine R.condT rfl rfl ?_
    refine R.reg rfl <| R.q (q.build (cs := §10) tB_39 rfl rfl) rfl <| R.u 1 rfl <| ?_
    refine R.s rfl §61 fun _ => ?_
    refine R.u 2 rfl <| R.nil ?_
    exact R.rr3 rfl Tryz.results30 (RV.cell 1 rfl rfl tAgg_39) (RV.tmp rfl) (RV.tmp rfl) (congrArg Writ.val (show (⟨0, 0, 0, 0, 0⟩ : Writ) = (mayR r p kind rights).1 from by (first | (rw [mayR_bad (by omega)]; first | done | rfl | omega) | (rw [mayR_kind (by omega) rfl (beq_iff_eq.2 (by omega)) HA (by omega)]; first | done | rfl) | (rw [mayR_right (by omega) rfl (beq_iff_eq.2 (by omega)) HA (by omega) §50]; first | done | rfl) | (rw [mayR_ok (by omega) rfl (beq_iff_eq.2 (by omega)) HA (by omega) §49]; first | done | rfl) | (rw [mayR_none (by omega) §27]; first | done | rfl)))) (rI §7) (rI §7)
  · have gh1 := hk.get (r := r) (p := p) (by omega)
    refine R.q §20 rfl <| R.nil ?_
    refine R.condF rfl rfl ?_
    refine R.reg rfl <| R.u 1 rfl <| R.nil ?_
    refine R.loop (fun k : Nat => [(2, .int .i64 kind), (3, .int .i64 rights), (4, .pointer (some ⟨b1, 0, none⟩)), (8, .pointer (some ⟨b3, 0, none⟩)), (11, .pointer (some ⟨b4, 0, none⟩)), (13, .int .i64 (k : Int))]) (fun k : Nat => [Res.box b4 §3 39, Res.box b3 §10 39, Res.box b1 §11 30]) (fun k : Nat => []) (fun k : Nat => k ≤ r.Things.length ∧ ∀ (j : Nat) y, j < k → r.Things[j]? = some y → (y.ID == (getR r p).1.Thing) = false) (fun k : Nat => r.Things.length - k) 0 rfl (by exact ⟨by omega, fun j x hj => absurd hj (Nat.not_lt_zero _)⟩) ⟨rfl, rfl, rfl, rfl, rfl, rfl, trivial⟩ (fun _ => Wd.pick [0, 1, 3] [] rfl rfl rfl) ?_
    rintro k ⟨hk1, HA⟩
    refine R.reg rfl <| R.u 1 rfl <| R.q §40 rfl <| R.q (q.ld 2 rfl rfl tOne_26 rfl) rfl <| R.q (q.len' §60 rfl Tryz.underlying26) rfl <| ?_
    by_cases h2 : k < r.Things.length
    · refine R.q (q.lss rfl rfl (decide_eq_true (by omega))) rfl <| R.nil ?_
      refine R.condT rfl rfl ?_
      obtain ⟨x1, hx1⟩ : ∃ z, r.Things[k]? = some z := ⟨_, List.getElem?_eq_getElem (by omega)⟩
      by_cases h3 : x1.ID = ((getR r p).1).Thing
      · refine R.regQ rfl mixed (by kernel_rfl) <| Q.q §40 rfl <| Q.q (q.ld 2 rfl rfl tOne_26 rfl) rfl <| Q.u 1 rfl <| Q.q (q.idx (i := k) §60 rfl rfl tSl_26 rfl hx1) rfl <| Q.q (q.fldE (j' := 0) §60 hx1 rfl tFld_74_0 rfl) rfl <| Q.q (q.ldE §60 hx1 rfl tOne_3 rfl) rfl <| Q.q (q.fld (off' := 1) rfl tFld_39_1 rfl) rfl <| Q.q (q.ld 0 rfl rfl tOne_3 rfl) rfl <| Q.q §65 rfl <| Q.nil ?_
        refine R.condF rfl rfl ?_
        refine R.reg rfl <| R.q §40 rfl <| R.q (q.ld 2 rfl rfl tOne_26 rfl) rfl <| R.u 1 rfl <| R.q (q.idx (i := k) §60 rfl rfl tSl_26 rfl hx1) rfl <| R.q (q.fldE (j' := 1) §60 hx1 rfl tFld_74_1 rfl) rfl <| R.q (q.ldE §60 hx1 rfl tOne_3 rfl) rfl <| R.u 1 rfl <| ?_
        by_cases h4 : x1.Kind = kind
        · refine R.q §65 rfl <| R.nil ?_
          refine R.condF rfl rfl ?_
          refine R.reg rfl <| R.q (q.fld (off' := 2) rfl tFld_39_2 rfl) rfl <| R.q (q.ld 0 rfl rfl tOne_3 rfl) rfl <| R.u 1 rfl <| ?_
          rcases Bool.eq_false_or_eq_true (hasR (((getR r p).1).Rights) rights) with h5 | h5
          · refine R.c (q.call eg_68 rfl rfl (fun w hw => (cv (congrArg Value.bool h5) (hasRef_any (((getR r p).1).Rights) (rights) w  (by omega) (by omega))))) rfl <| R.u 1 rfl <| R.nil ?_
            refine R.reg rfl <| R.u 2 rfl <| R.nil ?_
            refine R.condF rfl rfl ?_
            refine R.reg rfl <| R.q (q.ldS 0 rfl rfl tAgg_39) rfl <| R.u 1 rfl <| ?_
            refine R.s rfl (s.st (us := §3) (cs' := §3) 1 _ rfl rfl rfl rfl (.inl tAgg_39) rfl rfl rfl rfl) fun _ => ?_
            refine R.u 2 rfl <| R.nil ?_
            exact R.rr3 rfl Tryz.results30 (RV.cell 1 rfl rfl tAgg_39) (RV.tmp rfl) (RV.tmp rfl) (congrArg Writ.val (show ((getR r p).1) = (mayR r p kind rights).1 from by (first | (rw [mayR_bad (by omega)]; first | done | rfl | omega) | (rw [mayR_kind (by omega) hx1 (beq_iff_eq.2 (by omega)) HA (by omega)]; first | done | rfl) | (rw [mayR_right (by omega) hx1 (beq_iff_eq.2 (by omega)) HA (by omega) §50]; first | done | rfl) | (rw [mayR_ok (by omega) hx1 (beq_iff_eq.2 (by omega)) HA (by omega) §49]; first | done | rfl) | (rw [mayR_none (by omega) §27]; first | done | rfl)))) (rI §4) (rI §4)
          · refine R.c (q.call eg_68 rfl rfl (fun w hw => (cv (congrArg Value.bool h5) (hasRef_any (((getR r p).1).Rights) (rights) w  (by omega) (by omega))))) rfl <| R.u 1 rfl <| R.nil ?_
            refine R.reg rfl <| R.u 2 rfl <| R.nil ?_
            refine R.condT rfl rfl ?_
            refine R.reg rfl <| R.q (q.build (cs := §10) tB_39 rfl rfl) rfl <| ?_
            refine R.s rfl §61 fun _ => ?_
            refine R.u 2 rfl <| R.nil ?_
            exact R.rr3 rfl Tryz.results30 (RV.cell 1 rfl rfl tAgg_39) (RV.tmp rfl) (RV.tmp rfl) (congrArg Writ.val (show (⟨0, 0, 0, 0, 0⟩ : Writ) = (mayR r p kind rights).1 from by (first | (rw [mayR_bad (by omega)]; first | done | rfl | omega) | (rw [mayR_kind (by omega) hx1 (beq_iff_eq.2 (by omega)) HA (by omega)]; first | done | rfl) | (rw [mayR_right (by omega) hx1 (beq_iff_eq.2 (by omega)) HA (by omega) §50]; first | done | rfl) | (rw [mayR_ok (by omega) hx1 (beq_iff_eq.2 (by omega)) HA (by omega) §49]; first | done | rfl) | (rw [mayR_none (by omega) §27]; first | done | rfl)))) (rI §4) (rI §4)
        · refine R.q (q.neq rfl rfl (bne_iff_ne.2 (by omega))) rfl <| R.nil ?_
          refine R.condT rfl rfl ?_
          refine R.reg rfl <| R.q (q.build (cs := §10) tB_39 rfl rfl) rfl <| ?_
          refine R.s rfl §61 fun _ => ?_
          refine R.u 2 rfl <| R.nil ?_
          exact R.rr3 rfl Tryz.results30 (RV.cell 1 rfl rfl tAgg_39) (RV.tmp rfl) (RV.tmp rfl) (congrArg Writ.val (show (⟨0, 0, 0, 0, 0⟩ : Writ) = (mayR r p kind rights).1 from by (first | (rw [mayR_bad (by omega)]; first | done | rfl | omega) | (rw [mayR_kind (by omega) hx1 (beq_iff_eq.2 (by omega)) HA (by omega)]; first | done | rfl) | (rw [mayR_right (by omega) hx1 (beq_iff_eq.2 (by omega)) HA (by omega) §50]; first | done | rfl) | (rw [mayR_ok (by omega) hx1 (beq_iff_eq.2 (by omega)) HA (by omega) §49]; first | done | rfl) | (rw [mayR_none (by omega) §27]; first | done | rfl)))) (rI §4) (rI §4)
      · refine R.regQ rfl mixed (by kernel_rfl) <| Q.q §40 rfl <| Q.q (q.ld 2 rfl rfl tOne_26 rfl) rfl <| Q.u 1 rfl <| Q.q (q.idx (i := k) §60 rfl rfl tSl_26 rfl hx1) rfl <| Q.q (q.fldE (j' := 0) §60 hx1 rfl tFld_74_0 rfl) rfl <| Q.q (q.ldE §60 hx1 rfl tOne_3 rfl) rfl <| Q.q (q.fld (off' := 1) rfl tFld_39_1 rfl) rfl <| Q.q (q.ld 0 rfl rfl tOne_3 rfl) rfl <| Q.q (q.neq rfl rfl (bne_iff_ne.2 (by omega))) rfl <| Q.nil ?_
        refine R.condT rfl rfl ?_
        refine R.reg rfl <| R.u 1 rfl <| R.q (q.add (r := ((k + 1 : Nat) : Int)) rfl rfl (wr (by omega))) rfl <| R.u 1 rfl <| R.nil ?_
        refine R.back (k + 1) rfl (by (exact ⟨by omega, none_step (p := fun y => y.ID == (getR r p).1.Thing) HA hx1 (beq_eq_false_iff_ne.2 (by omega))⟩)) (by omega) ⟨rfl, rfl, rfl, rfl, rfl, rfl, trivial⟩ (fun _ => Wd.pick [0, 1, 2] [] rfl rfl rfl)
    · refine R.q (q.lss rfl rfl (decide_eq_false (by omega))) rfl <| R.nil ?_
      refine R.condF rfl rfl ?_
      refine R.reg rfl <| R.q (q.build (cs := §10) tB_39 rfl rfl) rfl <| ?_
      refine R.s rfl §61 fun _ => ?_
      refine R.u 2 rfl <| R.nil ?_
      exact R.rr3 rfl Tryz.results30 (RV.cell 1 rfl rfl tAgg_39) (RV.tmp rfl) (RV.tmp rfl) (congrArg Writ.val (show (⟨0, 0, 0, 0, 0⟩ : Writ) = (mayR r p kind rights).1 from by (first | (rw [mayR_bad (by omega)]; first | done | rfl | omega) | (rw [mayR_kind (by omega) rfl (beq_iff_eq.2 (by omega)) HA (by omega)]; first | done | rfl) | (rw [mayR_right (by omega) rfl (beq_iff_eq.2 (by omega)) HA (by omega) §50]; first | done | rfl) | (rw [mayR_ok (by omega) rfl (beq_iff_eq.2 (by omega)) HA (by omega) §49]; first | done | rfl) | (rw [mayR_none (by omega) §27]; first | done | rfl)))) (rI §7) (rI §7)

theorem readD_any (v_rW v_rT v_rH v_rN : Value) (r : Realm) (p : Place) (w : World) (s_rW : Sl w v_rW r.Writs) (s_rT : Sl w v_rT r.Things) (s_rH : Sl w v_rH r.Held) (s_rN : Sl w v_rN r.Notes) (hk : Ok r) (hI : Inv r) : Calls Tryz.prog 11 #[.agg #[v_rW, v_rT, v_rH, v_rN, .int .i64 r.NextWrit, .int .i64 r.NextThing], .agg #[.int .i64 p.Holder, .int .i64 p.Slot]] w fun e w' => e = .returned (.tuple #[.string ((readR r p).1), .int .i64 ((readR r p).2)]) ∧ Ext w w' := by
  have bw := hk.wl; have bt := hk.tl; have bh := hk.hl; have bn := hk.nl; have bw0 := hk.w0; have bw1 := hk.w1; have bt0 := hk.t0; have bt1 := hk.t1
  have mn0 := mayR_nonneg r p 1 1
  refine R.enter (n := 25) (vs := §62) [] [(0, .agg #[v_rW, v_rT, v_rH, v_rN, .int .i64 r.NextWrit, .int .i64 r.NextThing]), (1, .agg #[.int .i64 p.Holder, .int .i64 p.Slot])] Tryz.func11 rfl rfl rfl rfl ?_
  refine R.reg rfl <| ?_
  refine R.s rfl (s.box (cs := §11) rfl rfl rfl) fun b1 => ?_
  refine R.s rfl (s.box (cs := §9) rfl rfl rfl) fun b2 => ?_
  refine R.u 2 rfl <| R.nil ?_
  refine R.reg rfl <| R.q (q.ldS 1 rfl rfl tAgg_30) rfl <| R.q (q.ldS 0 rfl rfl tAgg_33) rfl <| R.c (q.call eg_30 rfl rfl (fun w hw => (mayD_any _ _ _ _ (r) (p) (1) (1) w ((fun _ => Wd.old s_rW) w hw) (§60 w hw) ((fun _ => Wd.old s_rH) w hw) ((fun _ => Wd.old s_rN) w hw) §64 §64 (by omega)))) rfl <| R.u 4 rfl <| ?_
  refine R.s rfl §53 fun b3 => ?_
  refine R.s rfl (s.st (us := [.int .i64 (((mayR r p 1 1).1).ID), .int .i64 (((mayR r p 1 1).1).Thing), .int .i64 (((mayR r p 1 1).1).Rights), .int .i64 (((mayR r p 1 1).1).Badge), .int .i64 (((mayR r p 1 1).1).From)]) (cs' := [.int .i64 (((mayR r p 1 1).1).ID), .int .i64 (((mayR r p 1 1).1).Thing), .int .i64 (((mayR r p 1 1).1).Rights), .int .i64 (((mayR r p 1 1).1).Badge), .int .i64 (((mayR r p 1 1).1).From)]) 0 _ rfl rfl rfl rfl (.inl tAgg_39) rfl rfl rfl rfl) fun _ => ?_
  refine R.u 2 rfl <| R.nil ?_
  refine R.reg rfl <| R.u 1 rfl <| ?_
  by_cases h1 : 0 < (mayR r p 1 1).2.2
  · refine R.q §21 rfl <| R.nil ?_
    refine R.condT rfl rfl ?_
    refine R.reg rfl <| R.u 3 rfl <| R.nil ?_
    exact R.rv2 rfl Tryz.results11 rfl rfl (rS §59) (rI §59)
  · have mn := mayR_nonneg r p 1 1; have mq : (mayR r p 1 1).2.2 = 0 := by omega
    obtain ⟨m1, m2, m3, i, ix, ik, ih, ii, id, ib⟩ := mayR_zero mq; have iB := (List.getElem?_eq_some_iff.1 ih).1
    refine R.q §20 rfl <| R.nil ?_
    refine R.condF rfl rfl ?_
    refine R.reg rfl <| R.q §40 rfl <| R.q (q.ld 2 rfl rfl tOne_26 rfl) rfl <| R.u 1 rfl <| ?_
    obtain ⟨x1, hx1⟩ : ∃ z, r.Things[((mayR r p 1 1).2.1).toNat]? = some z := ⟨_, List.getElem?_eq_getElem (by omega)⟩
    refine R.q (q.idx (i := ((mayR r p 1 1).2.1).toNat) §60 rfl rfl tSl_26 (by omega) hx1) rfl <| R.q (q.fldE (j' := 2) §60 hx1 rfl tFld_74_2 rfl) rfl <| R.q (q.ldE §60 hx1 rfl tOne_9 rfl) rfl <| R.u 2 rfl <| R.nil ?_
    exact R.rv2 rfl Tryz.results11 rfl rfl (rS §59) (rI §59)

theorem copyO_any (v_rW v_rT v_rH v_rN : Value) (r : Realm) (w : World) (own : List Nat) (H : Wd w (blks [] ++ own) ([] ++ [Res.held w own]) §5 w) (hk : Ok r) : Calls Tryz.prog 71 #[.agg #[v_rW, v_rT, v_rH, v_rN, .int .i64 r.NextWrit, .int .i64 r.NextThing]] w fun e w' => ∃ z : Value × Value × Value × Value, e = .returned (.agg #[z.1, z.2.1, z.2.2.1, z.2.2.2, .int .i64 ((r).NextWrit), .int .i64 ((r).NextThing)]) ∧ Wd w (blks [] ++ own) ([Res.row 39 z.1 ((r).Writs : List Writ), Res.row 74 z.2.1 ((r).Things : List Thing), Res.row 93 z.2.2.1 ((r).Held : List Held), Res.row 52 z.2.2.2 ((r).Notes : List Note)] ++ [Res.held w own]) [] w' := by
  have m_r_Writs := H.lenF 0 rfl
  have m_r_Things := H.lenF 1 rfl
  have m_r_Held := H.lenF 2 rfl
  have m_r_Notes := H.lenF 3 rfl
  have bw := hk.wl; have bt := hk.tl; have bh := hk.hl; have bn := hk.nl; have bw0 := hk.w0; have bw1 := hk.w1; have bt0 := hk.t0; have bt1 := hk.t1
  refine R.enterN (n := 20) (vs := [.agg #[v_rW, v_rT, v_rH, v_rN, .int .i64 r.NextWrit, .int .i64 r.NextThing]]) (B := [Res.held w own]) [(0, .agg #[v_rW, v_rT, v_rH, v_rN, .int .i64 r.NextWrit, .int .i64 r.NextThing])] Tryz.func71 rfl rfl rfl rfl H ?_
  refine R.reg rfl <| ?_
  refine R.s rfl (s.box (cs := §11) rfl rfl rfl) fun b1 => ?_
  refine R.s rfl (s.alloc (cs := §2) tZero_30 rfl rfl) fun b2 => ?_
  refine R.nil ?_
  refine R.reg rfl <| R.q (q.fld (off' := 0) rfl tFld_30_0 rfl) rfl <| R.q (q.ld 1 rfl rfl tOne_25 rfl) rfl <| ?_
  refine R.s rfl (s.app0 (l2 := r.Writs) rfl rfl (fun _ => Wd.fls 0 rfl) tApp_25 §52 §52 rfl) fun v1 => ?_
  refine R.q (q.fld (off' := 0) rfl tFld_30_0 rfl) rfl <| ?_
  refine R.s rfl (s.stV (us := [v1]) (cs' := [v1, v_rT, v_rH, v_rN, .int .i64 r.NextWrit, .int .i64 r.NextThing]) 2 _ rfl rfl rfl (fun w hw => Sl.cells1 §24) (.inr ⟨tOne_25, rfl⟩) §47 rfl rfl rfl) fun _ => ?_
  refine R.nil ?_
  refine R.reg rfl <| R.q §40 rfl <| R.q (q.ld 2 rfl rfl tOne_26 rfl) rfl <| ?_
  refine R.s rfl (s.app0 (l2 := r.Things) rfl rfl (fun _ => Wd.fls 1 rfl) tApp_26 §52 §52 rfl) fun v2 => ?_
  refine R.q §40 rfl <| ?_
  refine R.s rfl (s.stV (us := [v2]) (cs' := [v1, v2, v_rH, v_rN, .int .i64 r.NextWrit, .int .i64 r.NextThing]) 3 _ rfl rfl rfl (fun w hw => Sl.cells1 §24) (.inr ⟨tOne_26, rfl⟩) §47 rfl rfl rfl) fun _ => ?_
  refine R.nil ?_
  refine R.reg rfl <| R.q §34 rfl <| R.q (q.ld 3 rfl rfl tOne_27 rfl) rfl <| ?_
  refine R.s rfl (s.app0 (l2 := r.Held) rfl rfl (fun _ => Wd.fls 2 rfl) tApp_27 §52 §52 rfl) fun v3 => ?_
  refine R.q §34 rfl <| ?_
  refine R.s rfl (s.stV (us := [v3]) (cs' := [v1, v2, v3, v_rN, .int .i64 r.NextWrit, .int .i64 r.NextThing]) 4 _ rfl rfl rfl (fun w hw => Sl.cells1 §24) (.inr ⟨tOne_27, rfl⟩) §47 rfl rfl rfl) fun _ => ?_
  refine R.nil ?_
  refine R.reg rfl <| R.q (q.fld (off' := 3) rfl tFld_30_3 rfl) rfl <| R.q (q.ld 4 rfl rfl tOne_28 rfl) rfl <| ?_
  refine R.s rfl (s.app0 (l2 := r.Notes) rfl rfl (fun _ => Wd.fls 3 rfl) tApp_28 §52 §52 rfl) fun v4 => ?_
  refine R.q (q.fld (off' := 3) rfl tFld_30_3 rfl) rfl <| ?_
  refine R.s rfl (s.stV (us := [v4]) (cs' := [v1, v2, v3, v4, .int .i64 r.NextWrit, .int .i64 r.NextThing]) 5 _ rfl rfl rfl (fun w hw => Sl.cells1 §24) (.inr ⟨tOne_28, rfl⟩) §47 rfl rfl rfl) fun _ => ?_
  refine R.nil ?_
  refine R.reg rfl <| R.q (q.ldS 5 rfl rfl tAgg_30) rfl <| ?_
  refine R.s rfl (s.stV (us := [v1, v2, v3, v4, .int .i64 r.NextWrit, .int .i64 r.NextThing]) (cs' := [v1, v2, v3, v4, .int .i64 r.NextWrit, .int .i64 r.NextThing]) 4 _ rfl rfl rfl (fun _ _ => rfl) (.inl tAgg_30) (fun w hw => (one_cons (Sl.one ((fun _ => Wd.row 3 rfl) w hw)) (one_cons (Sl.one ((fun _ => Wd.row 2 rfl) w hw)) (one_cons (Sl.one ((fun _ => Wd.row 1 rfl) w hw)) (one_cons (Sl.one §24) (one_cons rfl (one_cons rfl one_nil))))))) rfl rfl rfl) fun _ => ?_
  refine R.nil ?_
  exact R.w1 (v1, v2, v3, v4) [3, 2, 1, 0, 6] [] rfl Tryz.results71 (RV.cell 4 rfl rfl tAgg_30) rfl rfl rfl rfl

theorem addD_any (v_rW v_rT v_rH v_rN : Value) (r : Realm) (w0 : Writ) (w : World) (own : List Nat) (H : Wd w (blks [] ++ own) ([] ++ [Res.held w own]) §5 w) (hk : Ok r) : Calls Tryz.prog 87 #[.agg #[v_rW, v_rT, v_rH, v_rN, .int .i64 r.NextWrit, .int .i64 r.NextThing], .agg #[.int .i64 w0.ID, .int .i64 w0.Thing, .int .i64 w0.Rights, .int .i64 w0.Badge, .int .i64 w0.From]] w fun e w' => ∃ z : Value × Value × Value × Value, e = .returned (.agg #[z.1, z.2.1, z.2.2.1, z.2.2.2, .int .i64 (((addW r w0)).NextWrit), .int .i64 (((addW r w0)).NextThing)]) ∧ Wd w (blks [] ++ own) ([Res.row 39 z.1 (((addW r w0)).Writs : List Writ), Res.row 74 z.2.1 (((addW r w0)).Things : List Thing), Res.row 93 z.2.2.1 (((addW r w0)).Held : List Held), Res.row 52 z.2.2.2 (((addW r w0)).Notes : List Note)] ++ [Res.held w own]) [] w' := by
  have m_r_Writs := H.lenF 0 rfl
  have m_r_Things := H.lenF 1 rfl
  have m_r_Held := H.lenF 2 rfl
  have m_r_Notes := H.lenF 3 rfl
  have bw := hk.wl; have bt := hk.tl; have bh := hk.hl; have bn := hk.nl; have bw0 := hk.w0; have bw1 := hk.w1; have bt0 := hk.t0; have bt1 := hk.t1
  refine R.enterN (n := 18) (vs := [.agg #[v_rW, v_rT, v_rH, v_rN, .int .i64 r.NextWrit, .int .i64 r.NextThing], .agg #[.int .i64 w0.ID, .int .i64 w0.Thing, .int .i64 w0.Rights, .int .i64 w0.Badge, .int .i64 w0.From]]) (B := [Res.held w own]) [(0, .agg #[v_rW, v_rT, v_rH, v_rN, .int .i64 r.NextWrit, .int .i64 r.NextThing]), (1, .agg #[.int .i64 w0.ID, .int .i64 w0.Thing, .int .i64 w0.Rights, .int .i64 w0.Badge, .int .i64 w0.From])] Tryz.func87 rfl rfl rfl rfl H ?_
  refine R.reg rfl <| ?_
  refine R.s rfl (s.box (cs := §11) rfl rfl rfl) fun b1 => ?_
  refine R.s rfl (s.box (cs := [.int .i64 w0.ID, .int .i64 w0.Thing, .int .i64 w0.Rights, .int .i64 w0.Badge, .int .i64 w0.From]) rfl rfl rfl) fun b2 => ?_
  refine R.s rfl (s.alloc (cs := §2) tZero_30 rfl rfl) fun b3 => ?_
  refine R.nil ?_
  refine R.reg rfl <| R.q (q.ldS 2 rfl rfl tAgg_30) rfl <| ?_
  refine R.s (B' := (fun g_ : Value × Value × Value × Value => [Res.row 39 g_.1 ((r).Writs : List Writ), Res.row 74 g_.2.1 ((r).Things : List Thing), Res.row 93 g_.2.2.1 ((r).Held : List Held), Res.row 52 g_.2.2.2 ((r).Notes : List Note), Res.box b3 §2 30, Res.box b2 [.int .i64 w0.ID, .int .i64 w0.Thing, .int .i64 w0.Rights, .int .i64 w0.Badge, .int .i64 w0.From] 39, Res.box b1 §11 30, Res.held w own])) (F' := §66) rfl (s.callV (B0 := []) (Br := [Res.box b3 §2 30, Res.box b2 [.int .i64 w0.ID, .int .i64 w0.Thing, .int .i64 w0.Rights, .int .i64 w0.Badge, .int .i64 w0.From] 39, Res.box b1 §11 30, Res.held w own]) (F0 := §5) [0, 1, 2, 3] [0, 1, 2, 3] (fun g_ : Value × Value × Value × Value => .agg #[g_.1, g_.2.1, g_.2.2.1, g_.2.2.2, .int .i64 ((r).NextWrit), .int .i64 ((r).NextThing)]) (fun g_ : Value × Value × Value × Value => [Res.row 39 g_.1 ((r).Writs : List Writ), Res.row 74 g_.2.1 ((r).Things : List Thing), Res.row 93 g_.2.2.1 ((r).Held : List Held), Res.row 52 g_.2.2.2 ((r).Notes : List Note)]) §69 rfl rfl rfl eg_71 rfl rfl (fun w own hw H => copyO_any v_rW v_rT v_rH v_rN (r) w own H §64) rfl) ?_
  rintro ⟨z1, z2, z3, z4⟩
  dsimp only
  refine R.s rfl (s.stV (us := §56) (cs' := §56) 6 _ rfl rfl rfl (fun _ _ => rfl) (.inl tAgg_30) §12 rfl rfl rfl) fun _ => ?_
  refine R.nil ?_
  refine R.reg rfl <| R.q (q.fld (off' := 0) rfl tFld_30_0 rfl) rfl <| R.q (q.ld 6 rfl rfl tOne_25 rfl) rfl <| R.q (q.ldS 5 rfl rfl tAgg_39) rfl <| ?_
  refine R.s rfl (s.bs (l := ([w0] : List Writ)) tSl_25 tZero_39 rfl rfl rfl rfl rfl rfl rfl) fun b4 => ?_
  refine R.s rfl (s.app (l2 := [w0]) 1 _ rfl rfl rfl (fun _ => Wd.row 0 rfl) tApp_25 §38 §38 (fun _ => rfl) rfl) fun v1 => ?_
  refine R.q (q.fld (off' := 0) rfl tFld_30_0 rfl) rfl <| ?_
  refine R.s rfl (s.stV (us := [v1]) (cs' := [v1, z2, z3, z4, .int .i64 r.NextWrit, .int .i64 r.NextThing]) 7 _ rfl rfl rfl (fun w hw => Sl.cells1 ((fun _ => Wd.row 1 rfl) w hw)) (.inr ⟨tOne_25, rfl⟩) (fun w hw => (one_cons (Sl.one ((fun _ => Wd.row 1 rfl) w hw)) one_nil)) rfl rfl rfl) fun _ => ?_
  refine R.nil ?_
  refine R.reg rfl <| R.q §54 rfl <| R.q (q.ld 7 rfl rfl tOne_3 rfl) rfl <| R.q (q.add (r := r.NextWrit + 1) rfl rfl (wr (by omega))) rfl <| R.q §54 rfl <| ?_
  refine R.s rfl (s.st (us := [.int .i64 (r.NextWrit + 1)]) (cs' := [v1, z2, z3, z4, .int .i64 (r.NextWrit + 1), .int .i64 r.NextThing]) 7 _ rfl rfl rfl rfl (.inr ⟨tOne_3, rfl⟩) rfl rfl rfl rfl) fun _ => ?_
  refine R.nil ?_
  refine R.reg rfl <| R.q (q.ldS 7 rfl rfl tAgg_30) rfl <| ?_
  refine R.s rfl (s.stV (us := [v1, z2, z3, z4, .int .i64 (r.NextWrit + 1), .int .i64 r.NextThing]) (cs' := [v1, z2, z3, z4, .int .i64 (r.NextWrit + 1), .int .i64 r.NextThing]) 5 _ rfl rfl rfl (fun _ _ => rfl) (.inl tAgg_30) (fun w hw => (one_cons (Sl.one ((fun _ => Wd.row 1 rfl) w hw)) (one_cons (Sl.one ((fun _ => Wd.row 2 rfl) w hw)) (one_cons (Sl.one ((fun _ => Wd.row 3 rfl) w hw)) (one_cons (Sl.one ((fun _ => Wd.row 4 rfl) w hw)) (one_cons rfl (one_cons rfl one_nil))))))) rfl rfl rfl) fun _ => ?_
  refine R.nil ?_
  have hz : addW r w0 = (⟨(r.Writs ++ ([w0])), r.Things, r.Held, r.Notes, (r.NextWrit + 1), r.NextThing⟩ : Realm) := by (rfl)
  rw [hz]
  exact R.w1 (v1, z2, z3, z4) [1, 2, 3, 4, 8] [] rfl Tryz.results87 (RV.cell 5 rfl rfl tAgg_30) rfl rfl rfl rfl

theorem newD_any  (w : World) (own : List Nat) (H : Wd w (blks [] ++ own) ([] ++ [Res.held w own]) [] w)  : Calls Tryz.prog 7 #[] w fun e w' => ∃ z : Value × Value × Value × Value, e = .returned (.agg #[z.1, z.2.1, z.2.2.1, z.2.2.2, .int .i64 (((⟨[], [], [], [], 1, 1⟩ : Realm)).NextWrit), .int .i64 (((⟨[], [], [], [], 1, 1⟩ : Realm)).NextThing)]) ∧ Wd w (blks [] ++ own) ([] ++ [Res.held w own]) [Res.ls z.1 (((⟨[], [], [], [], 1, 1⟩ : Realm)).Writs : List Writ), Res.ls z.2.1 (((⟨[], [], [], [], 1, 1⟩ : Realm)).Things : List Thing), Res.ls z.2.2.1 (((⟨[], [], [], [], 1, 1⟩ : Realm)).Held : List Held), Res.ls z.2.2.2 (((⟨[], [], [], [], 1, 1⟩ : Realm)).Notes : List Note)] w' := by
  refine R.enterN (n := 2) (vs := []) (B := [Res.held w own]) [] Tryz.func7 rfl rfl rfl rfl H ?_
  refine R.reg rfl <| ?_
  refine R.s rfl (s.alloc (cs := §2) tZero_30 rfl rfl) fun b1 => ?_
  refine R.nil ?_
  refine R.reg rfl <| R.q (q.build (cs := [.slice none 0 0, .slice none 0 0, .slice none 0 0, .slice none 0 0, .int .i64 1, .int .i64 1]) tB_30 rfl rfl) rfl <| ?_
  refine R.s rfl (s.st (us := [.slice none 0 0, .slice none 0 0, .slice none 0 0, .slice none 0 0, .int .i64 1, .int .i64 1]) (cs' := [.slice none 0 0, .slice none 0 0, .slice none 0 0, .slice none 0 0, .int .i64 1, .int .i64 1]) 0 _ rfl rfl rfl rfl (.inl tAgg_30) rfl rfl rfl rfl) fun _ => ?_
  refine R.nil ?_
  refine R.mp §29 ?_
  refine R.mp §26 ?_
  refine R.mp §30 ?_
  refine R.mp §31 ?_
  exact R.w1 ((.slice none 0 0), (.slice none 0 0), (.slice none 0 0), (.slice none 0 0)) [1] [3, 2, 1, 0] rfl Tryz.results7 (RV.cell 0 rfl rfl tAgg_30) rfl rfl rfl rfl

theorem makeD_any (v_rW v_rT v_rH v_rN : Value) (r : Realm) (p : Place) (kind : Int) (w : World) (own : List Nat) (H : Wd w (blks [] ++ own) ([] ++ [Res.held w own]) §5 w) (hk : Ok r) (hI : Inv r) : Calls Tryz.prog 53 #[.agg #[v_rW, v_rT, v_rH, v_rN, .int .i64 r.NextWrit, .int .i64 r.NextThing], .agg #[.int .i64 p.Holder, .int .i64 p.Slot], .int .i64 kind] w fun e w' => ∃ z : Value × Value × Value × Value, e = .returned (.tuple #[.agg #[z.1, z.2.1, z.2.2.1, z.2.2.2, .int .i64 ((((makeR r p kind)).1).NextWrit), .int .i64 ((((makeR r p kind)).1).NextThing)], .int .i64 (((makeR r p kind)).2)]) ∧ Wd w (blks [] ++ own) ([] ++ [Res.held w own]) [Res.ls z.1 ((((makeR r p kind)).1).Writs : List Writ), Res.ls z.2.1 ((((makeR r p kind)).1).Things : List Thing), Res.ls z.2.2.1 ((((makeR r p kind)).1).Held : List Held), Res.ls z.2.2.2 ((((makeR r p kind)).1).Notes : List Note)] w' := by
  have m_r_Writs := H.lenF 0 rfl
  have m_r_Things := H.lenF 1 rfl
  have m_r_Held := H.lenF 2 rfl
  have m_r_Notes := H.lenF 3 rfl
  have bw := hk.wl; have bt := hk.tl; have bh := hk.hl; have bn := hk.nl; have bw0 := hk.w0; have bw1 := hk.w1; have bt0 := hk.t0; have bt1 := hk.t1
  refine R.enterN (n := 68) (vs := [.agg #[v_rW, v_rT, v_rH, v_rN, .int .i64 r.NextWrit, .int .i64 r.NextThing], .agg #[.int .i64 p.Holder, .int .i64 p.Slot], .int .i64 kind]) (B := [Res.held w own]) [(0, .agg #[v_rW, v_rT, v_rH, v_rN, .int .i64 r.NextWrit, .int .i64 r.NextThing]), (1, .agg #[.int .i64 p.Holder, .int .i64 p.Slot]), (2, .int .i64 kind)] Tryz.func53 rfl rfl rfl rfl H ?_
  refine R.reg rfl <| ?_
  refine R.s rfl (s.box (cs := §11) rfl rfl rfl) fun b1 => ?_
  refine R.s rfl (s.box (cs := §9) rfl rfl rfl) fun b2 => ?_
  refine R.s rfl (s.alloc (cs := §2) tZero_30 rfl rfl) fun b3 => ?_
  refine R.u 1 rfl <| R.nil ?_
  refine R.reg rfl <| R.u 1 rfl <| ?_
  by_cases h1 : kind = 1
  · refine R.q §65 rfl <| R.u 4 rfl <| R.nil ?_
    refine R.condF rfl rfl ?_
    refine R.reg rfl <| R.q (q.ldS 2 rfl rfl tAgg_30) rfl <| R.q (q.ldS 1 rfl rfl tAgg_33) rfl <| R.c (q.call eg_86 rfl rfl (fun w hw => (freeD_any _ _ _ _ (r) (p) w ((fun _ => Wd.fls 0 rfl) w hw) ((fun _ => Wd.fls 1 rfl) w hw) ((fun _ => Wd.fls 2 rfl) w hw) ((fun _ => Wd.fls 3 rfl) w hw) §64 §64))) rfl <| R.u 1 rfl <| R.nil ?_
    refine R.reg rfl <| R.u 1 rfl <| ?_
    by_cases h2 : 0 < freeR r p
    · refine R.q §21 rfl <| R.nil ?_
      refine R.condT rfl rfl ?_
      refine R.reg rfl <| R.q §32 rfl <| R.u 1 rfl <| ?_
      refine R.s rfl §22 fun _ => ?_
      refine R.u 1 rfl <| R.nil ?_
      refine R.mp §29 ?_
      refine R.mp §26 ?_
      refine R.mp §30 ?_
      refine R.mp §31 ?_
      have hz : makeR r p kind = (§28, freeR r p) := by (unfold makeR; (repeat' split) <;> first | rfl | (exfalso; omega) | (simp_all; done))
      rw [hz]
      exact R.w2 ((.slice none 0 0), (.slice none 0 0), (.slice none 0 0), (.slice none 0 0)) [3] [3, 2, 1, 0] rfl Tryz.results53 (RV.cell 0 rfl rfl tAgg_30) (RV.tmp rfl) rfl rfl rfl (tup2 rfl rfl)
    · have fq : freeR r p = 0 := by have := freeR_nonneg r p; omega
      have fz := placeFault_zero (free_zero fq).1
      refine R.q §20 rfl <| R.nil ?_
      refine R.condF rfl rfl ?_
      refine R.reg rfl <| R.q §40 rfl <| R.q (q.ld 2 rfl rfl tOne_26 rfl) rfl <| R.q (q.len' (fun _ => Wd.fls 1 rfl) rfl Tryz.underlying26) rfl <| ?_
      by_cases h3 : r.Things.length = 10
      · refine R.q (q.eql rfl rfl (beq_iff_eq.2 (by omega))) rfl <| R.u 10 rfl <| R.nil ?_
        refine R.condT rfl rfl ?_
        refine R.reg rfl <| R.q §32 rfl <| ?_
        refine R.s rfl §22 fun _ => ?_
        refine R.u 1 rfl <| R.nil ?_
        refine R.mp §29 ?_
        refine R.mp §26 ?_
        refine R.mp §30 ?_
        refine R.mp §31 ?_
        have hz : makeR r p kind = (§28, 9) := by (unfold makeR; (repeat' split) <;> first | rfl | (exfalso; omega) | (simp_all; done))
        rw [hz]
        exact R.w2 ((.slice none 0 0), (.slice none 0 0), (.slice none 0 0), (.slice none 0 0)) [3] [3, 2, 1, 0] rfl Tryz.results53 (RV.cell 0 rfl rfl tAgg_30) (RV.tmp rfl) rfl rfl rfl (tup2 rfl rfl)
      · refine R.q (q.eql rfl rfl (beq_eq_false_iff_ne.2 (by omega))) rfl <| R.u 1 rfl <| R.qg rfl §55 rfl <| R.qg rfl (q.ld 2 rfl rfl tOne_3 rfl) rfl <| ?_
        by_cases h4 : 999 < r.NextThing
        · refine R.qg rfl §21 rfl <| R.u 6 rfl <| R.nil ?_
          refine R.condT rfl rfl ?_
          refine R.reg rfl <| R.q §32 rfl <| ?_
          refine R.s rfl §22 fun _ => ?_
          refine R.u 1 rfl <| R.nil ?_
          refine R.mp §29 ?_
          refine R.mp §26 ?_
          refine R.mp §30 ?_
          refine R.mp §31 ?_
          have hz : makeR r p kind = (§28, 9) := by (unfold makeR; (repeat' split) <;> first | rfl | (exfalso; omega) | (simp_all; done))
          rw [hz]
          exact R.w2 ((.slice none 0 0), (.slice none 0 0), (.slice none 0 0), (.slice none 0 0)) [3] [3, 2, 1, 0] rfl Tryz.results53 (RV.cell 0 rfl rfl tAgg_30) (RV.tmp rfl) rfl rfl rfl (tup2 rfl rfl)
        · refine R.qg rfl §20 rfl <| R.u 2 rfl <| R.qg rfl §54 rfl <| R.qg rfl (q.ld 2 rfl rfl tOne_3 rfl) rfl <| ?_
          by_cases h5 : 999 < r.NextWrit
          · refine R.qg rfl §21 rfl <| R.u 1 rfl <| R.nil ?_
            refine R.condT rfl rfl ?_
            refine R.reg rfl <| R.q §32 rfl <| ?_
            refine R.s rfl §22 fun _ => ?_
            refine R.u 1 rfl <| R.nil ?_
            refine R.mp §29 ?_
            refine R.mp §26 ?_
            refine R.mp §30 ?_
            refine R.mp §31 ?_
            have hz : makeR r p kind = (§28, 9) := by (unfold makeR; (repeat' split) <;> first | rfl | (exfalso; omega) | (simp_all; done))
            rw [hz]
            exact R.w2 ((.slice none 0 0), (.slice none 0 0), (.slice none 0 0), (.slice none 0 0)) [3] [3, 2, 1, 0] rfl Tryz.results53 (RV.cell 0 rfl rfl tAgg_30) (RV.tmp rfl) rfl rfl rfl (tup2 rfl rfl)
          · refine R.qg rfl §20 rfl <| R.u 1 rfl <| R.nil ?_
            refine R.condF rfl rfl ?_
            refine R.reg rfl <| R.q §54 rfl <| R.q (q.ld 2 rfl rfl tOne_3 rfl) rfl <| R.q §55 rfl <| R.q (q.ld 2 rfl rfl tOne_3 rfl) rfl <| R.q (q.build (cs := §8) tB_39 rfl rfl) rfl <| ?_
            refine R.s rfl §53 fun b4 => ?_
            refine R.s rfl (s.st (us := §8) (cs' := §8) 0 _ rfl rfl rfl rfl (.inl tAgg_39) rfl rfl rfl rfl) fun _ => ?_
            refine R.nil ?_
            refine R.reg rfl <| R.q (q.ldS 3 rfl rfl tAgg_30) rfl <| R.q (q.ldS 0 rfl rfl tAgg_39) rfl <| ?_
            refine R.s (B' := (fun g_ : Value × Value × Value × Value => [Res.row 39 g_.1 ((§1).Writs : List Writ), Res.row 74 g_.2.1 ((§1).Things : List Thing), Res.row 93 g_.2.2.1 ((§1).Held : List Held), Res.row 52 g_.2.2.2 ((§1).Notes : List Note), Res.box b4 §8 39, Res.box b3 §2 30, Res.box b2 §9 33, Res.box b1 §11 30, Res.held w own])) (F' := §66) rfl (s.callV (B0 := []) (Br := [Res.box b4 §8 39, Res.box b3 §2 30, Res.box b2 §9 33, Res.box b1 §11 30, Res.held w own]) (F0 := §5) [0, 1, 2, 3, 4] [0, 1, 2, 3] (fun g_ : Value × Value × Value × Value => .agg #[g_.1, g_.2.1, g_.2.2.1, g_.2.2.2, .int .i64 ((§1).NextWrit), .int .i64 ((§1).NextThing)]) §67 §69 rfl rfl rfl eg_87 rfl rfl (fun w own hw H => addD_any v_rW v_rT v_rH v_rN (r) ((⟨r.NextWrit, r.NextThing, 7, 0, 0⟩ : Writ)) w own H §64) rfl) ?_
            rintro ⟨z1, z2, z3, z4⟩
            dsimp only
            refine R.s rfl (s.stV (us := [z1, z2, z3, z4, .int .i64 (§1.NextWrit), .int .i64 (§1.NextThing)]) (cs' := [z1, z2, z3, z4, .int .i64 (§1.NextWrit), .int .i64 (§1.NextThing)]) 7 _ rfl rfl rfl (fun _ _ => rfl) (.inl tAgg_30) §12 rfl rfl rfl) fun _ => ?_
            refine R.nil ?_
            refine R.reg rfl <| R.q §40 rfl <| R.q (q.ld 7 rfl rfl tOne_26 rfl) rfl <| R.q §55 rfl <| R.q (q.ld 7 rfl rfl tOne_3 rfl) rfl <| R.u 1 rfl <| R.q (q.build (cs := [.int .i64 (§1.NextThing), .int .i64 kind, .string (⟨#[]⟩)]) tB_74 rfl rfl) rfl <| ?_
            refine R.s rfl (s.bs (l := ([§13] : List Thing)) tSl_26 tZero_74 rfl rfl rfl rfl rfl rfl rfl) fun b5 => ?_
            refine R.s rfl (s.app (l2 := [§13]) 2 _ rfl rfl rfl (fun _ => Wd.row 0 rfl) tApp_26 §38 §38 (fun _ => rfl) rfl) fun v1 => ?_
            refine R.q §40 rfl <| ?_
            refine R.s rfl (s.stV (us := [v1]) (cs' := [z1, v1, z3, z4, .int .i64 (§1.NextWrit), .int .i64 (§1.NextThing)]) 8 _ rfl rfl rfl (fun w hw => Sl.cells1 ((fun _ => Wd.row 2 rfl) w hw)) (.inr ⟨tOne_26, rfl⟩) (fun w hw => (one_cons (Sl.one ((fun _ => Wd.row 2 rfl) w hw)) one_nil)) rfl rfl rfl) fun _ => ?_
            refine R.nil ?_
            have a1_ : §1.NextThing = r.NextThing := rfl
            refine R.reg rfl <| R.q §55 rfl <| R.q (q.ld 8 rfl rfl tOne_3 rfl) rfl <| R.q (q.add (r := (§1.NextThing) + 1) rfl rfl (wr (by omega))) rfl <| R.q §55 rfl <| ?_
            refine R.s rfl (s.st (us := [.int .i64 ((§1.NextThing) + 1)]) (cs' := [z1, v1, z3, z4, .int .i64 (§1.NextWrit), .int .i64 ((§1.NextThing) + 1)]) 8 _ rfl rfl rfl rfl (.inr ⟨tOne_3, rfl⟩) rfl rfl rfl rfl) fun _ => ?_
            refine R.nil ?_
            refine R.reg rfl <| R.q §34 rfl <| R.q (q.ld 8 rfl rfl tOne_27 rfl) rfl <| R.q (q.ldS 7 rfl rfl tAgg_33) rfl <| R.q (q.fld (off' := 0) rfl tFld_39_0 rfl) rfl <| R.q (q.ld 5 rfl rfl tOne_3 rfl) rfl <| ?_
            refine R.s (B' := (fun bz0_ : Value => [Res.row 93 bz0_ ((putH (§1.Held) p r.NextWrit) : List Held), Res.row 74 (.slice (some ⟨b5, 0, none⟩) 1 1) ([§13] : List Thing), Res.row 39 z1 (§1.Writs : List Writ), Res.row 74 v1 (((§1.Things) ++ ([§13])) : List Thing), Res.row 52 z4 (§1.Notes : List Note), Res.box b4 §8 39, Res.box b3 §2 30, Res.box b2 §9 33, Res.box b1 [z1, v1, z3, z4, .int .i64 (§1.NextWrit), .int .i64 ((§1.NextThing) + 1)] 30, Res.held w own])) (F' := (fun bz0_ : Value => [Res.ls z3 (§1.Held : List Held), Res.ls v_rW (r.Writs : List Writ), Res.ls v_rT (r.Things : List Thing), Res.ls v_rH (r.Held : List Held), Res.ls v_rN (r.Notes : List Note)])) rfl (s.pre (B2 := §41) (F2 := [Res.ls z3 (§1.Held : List Held), Res.ls v_rW (r.Writs : List Writ), Res.ls v_rT (r.Things : List Thing), Res.ls v_rH (r.Held : List Held), Res.ls v_rN (r.Notes : List Note)]) (fun _ hw => hw.lendL 3 _ rfl rfl) (s.callV (B0 := []) (Br := §41) (F0 := [Res.ls z3 (§1.Held : List Held)]) [0, 1, 2, 3, 4, 5, 6, 7, 8] [0] (fun bz0_ : Value => bz0_) (fun bz0_ : Value => [Res.row 93 bz0_ ((putH (§1.Held) p r.NextWrit) : List Held)]) (fun bz0_ : Value => []) rfl rfl rfl eg_73 rfl rfl (fun w own hw H => putG_any z3 (§1.Held) (p) (r.NextWrit) w own H §37 §17) rfl)) fun z5 => ?_
            refine R.q §34 rfl <| ?_
            refine R.s rfl (s.stV (us := [z5]) (cs' := §19) 8 _ rfl rfl rfl (fun w hw => Sl.cells1 §24) (.inr ⟨tOne_27, rfl⟩) §47 rfl rfl rfl) fun _ => ?_
            refine R.nil ?_
            refine R.reg rfl <| R.q (q.ldS 8 rfl rfl tAgg_30) rfl <| ?_
            refine R.s rfl (s.stV (us := §19) (cs' := §19) 6 _ rfl rfl rfl (fun _ _ => rfl) (.inl tAgg_30) §68 rfl rfl rfl) fun _ => ?_
            refine R.u 1 rfl <| R.nil ?_
            refine R.mp (B' := [Res.row 93 z5 (putH (§1.Held) p r.NextWrit : List Held), Res.row 74 (.slice (some ⟨b5, 0, none⟩) 1 1) ([§13] : List Thing), Res.row 74 v1 (((§1.Things) ++ ([§13])) : List Thing), Res.row 52 z4 (§1.Notes : List Note), Res.box b4 §8 39, Res.box b3 §19 30, Res.box b2 §9 33, Res.box b1 §19 30, Res.held w own]) (fun _ hw => hw.lendL 2 _ rfl rfl) ?_
            refine R.mp (B' := [Res.row 93 z5 (putH (§1.Held) p r.NextWrit : List Held), Res.row 74 (.slice (some ⟨b5, 0, none⟩) 1 1) ([§13] : List Thing), Res.row 52 z4 (§1.Notes : List Note), Res.box b4 §8 39, Res.box b3 §19 30, Res.box b2 §9 33, Res.box b1 §19 30, Res.held w own]) (fun _ hw => hw.lendL 2 _ rfl rfl) ?_
            refine R.mp (B' := [Res.row 74 (.slice (some ⟨b5, 0, none⟩) 1 1) ([§13] : List Thing), Res.row 52 z4 (§1.Notes : List Note), Res.box b4 §8 39, Res.box b3 §19 30, Res.box b2 §9 33, Res.box b1 §19 30, Res.held w own]) §63 ?_
            refine R.mp (B' := [Res.row 74 (.slice (some ⟨b5, 0, none⟩) 1 1) ([§13] : List Thing), Res.box b4 §8 39, Res.box b3 §19 30, Res.box b2 §9 33, Res.box b1 §19 30, Res.held w own]) (fun _ hw => hw.lendL 1 _ rfl rfl) ?_
            have hz : makeR r p kind = ((⟨§1.Writs, ((§1.Things) ++ ([§13])), putH (§1.Held) p r.NextWrit, §1.Notes, §1.NextWrit, ((§1.NextThing) + 1)⟩ : Realm), 0) := by (unfold makeR addR; rw [if_pos (by omega), if_pos fq, if_neg (by omega)]; dsimp only; rw [if_pos (by omega)]; (try rfl))
            rw [hz]
            exact R.w2 (z1, v1, z5, z4) [5] [3, 2, 1, 0] rfl Tryz.results53 (RV.cell 2 rfl rfl tAgg_30) (RV.tmp rfl) rfl rfl rfl (tup2 rfl rfl)
  · refine R.q (q.neq rfl rfl (bne_iff_ne.2 (by omega))) rfl <| R.u 2 rfl <| ?_
    by_cases h6 : kind = 2
    · refine R.qg rfl §65 rfl <| R.u 1 rfl <| R.nil ?_
      refine R.condF rfl rfl ?_
      refine R.reg rfl <| R.q (q.ldS 2 rfl rfl tAgg_30) rfl <| R.q (q.ldS 1 rfl rfl tAgg_33) rfl <| R.c (q.call eg_86 rfl rfl (fun w hw => (freeD_any _ _ _ _ (r) (p) w ((fun _ => Wd.fls 0 rfl) w hw) ((fun _ => Wd.fls 1 rfl) w hw) ((fun _ => Wd.fls 2 rfl) w hw) ((fun _ => Wd.fls 3 rfl) w hw) §64 §64))) rfl <| R.u 1 rfl <| R.nil ?_
      refine R.reg rfl <| R.u 1 rfl <| ?_
      by_cases h7 : 0 < freeR r p
      · refine R.q §21 rfl <| R.nil ?_
        refine R.condT rfl rfl ?_
        refine R.reg rfl <| R.q §32 rfl <| R.u 1 rfl <| ?_
        refine R.s rfl §22 fun _ => ?_
        refine R.u 1 rfl <| R.nil ?_
        refine R.mp §29 ?_
        refine R.mp §26 ?_
        refine R.mp §30 ?_
        refine R.mp §31 ?_
        have hz : makeR r p kind = (§28, freeR r p) := by (unfold makeR; (repeat' split) <;> first | rfl | (exfalso; omega) | (simp_all; done))
        rw [hz]
        exact R.w2 ((.slice none 0 0), (.slice none 0 0), (.slice none 0 0), (.slice none 0 0)) [3] [3, 2, 1, 0] rfl Tryz.results53 (RV.cell 0 rfl rfl tAgg_30) (RV.tmp rfl) rfl rfl rfl (tup2 rfl rfl)
      · have fq : freeR r p = 0 := by have := freeR_nonneg r p; omega
        have fz := placeFault_zero (free_zero fq).1
        refine R.q §20 rfl <| R.nil ?_
        refine R.condF rfl rfl ?_
        refine R.reg rfl <| R.q §40 rfl <| R.q (q.ld 2 rfl rfl tOne_26 rfl) rfl <| R.q (q.len' (fun _ => Wd.fls 1 rfl) rfl Tryz.underlying26) rfl <| ?_
        by_cases h8 : r.Things.length = 10
        · refine R.q (q.eql rfl rfl (beq_iff_eq.2 (by omega))) rfl <| R.u 10 rfl <| R.nil ?_
          refine R.condT rfl rfl ?_
          refine R.reg rfl <| R.q §32 rfl <| ?_
          refine R.s rfl §22 fun _ => ?_
          refine R.u 1 rfl <| R.nil ?_
          refine R.mp §29 ?_
          refine R.mp §26 ?_
          refine R.mp §30 ?_
          refine R.mp §31 ?_
          have hz : makeR r p kind = (§28, 9) := by (unfold makeR; (repeat' split) <;> first | rfl | (exfalso; omega) | (simp_all; done))
          rw [hz]
          exact R.w2 ((.slice none 0 0), (.slice none 0 0), (.slice none 0 0), (.slice none 0 0)) [3] [3, 2, 1, 0] rfl Tryz.results53 (RV.cell 0 rfl rfl tAgg_30) (RV.tmp rfl) rfl rfl rfl (tup2 rfl rfl)
        · refine R.q (q.eql rfl rfl (beq_eq_false_iff_ne.2 (by omega))) rfl <| R.u 1 rfl <| R.qg rfl §55 rfl <| R.qg rfl (q.ld 2 rfl rfl tOne_3 rfl) rfl <| ?_
          by_cases h9 : 999 < r.NextThing
          · refine R.qg rfl §21 rfl <| R.u 6 rfl <| R.nil ?_
            refine R.condT rfl rfl ?_
            refine R.reg rfl <| R.q §32 rfl <| ?_
            refine R.s rfl §22 fun _ => ?_
            refine R.u 1 rfl <| R.nil ?_
            refine R.mp §29 ?_
            refine R.mp §26 ?_
            refine R.mp §30 ?_
            refine R.mp §31 ?_
            have hz : makeR r p kind = (§28, 9) := by (unfold makeR; (repeat' split) <;> first | rfl | (exfalso; omega) | (simp_all; done))
            rw [hz]
            exact R.w2 ((.slice none 0 0), (.slice none 0 0), (.slice none 0 0), (.slice none 0 0)) [3] [3, 2, 1, 0] rfl Tryz.results53 (RV.cell 0 rfl rfl tAgg_30) (RV.tmp rfl) rfl rfl rfl (tup2 rfl rfl)
          · refine R.qg rfl §20 rfl <| R.u 2 rfl <| R.qg rfl §54 rfl <| R.qg rfl (q.ld 2 rfl rfl tOne_3 rfl) rfl <| ?_
            by_cases h10 : 999 < r.NextWrit
            · refine R.qg rfl §21 rfl <| R.u 1 rfl <| R.nil ?_
              refine R.condT rfl rfl ?_
              refine R.reg rfl <| R.q §32 rfl <| ?_
              refine R.s rfl §22 fun _ => ?_
              refine R.u 1 rfl <| R.nil ?_
              refine R.mp §29 ?_
              refine R.mp §26 ?_
              refine R.mp §30 ?_
              refine R.mp §31 ?_
              have hz : makeR r p kind = (§28, 9) := by (unfold makeR; (repeat' split) <;> first | rfl | (exfalso; omega) | (simp_all; done))
              rw [hz]
              exact R.w2 ((.slice none 0 0), (.slice none 0 0), (.slice none 0 0), (.slice none 0 0)) [3] [3, 2, 1, 0] rfl Tryz.results53 (RV.cell 0 rfl rfl tAgg_30) (RV.tmp rfl) rfl rfl rfl (tup2 rfl rfl)
            · refine R.qg rfl §20 rfl <| R.u 1 rfl <| R.nil ?_
              refine R.condF rfl rfl ?_
              refine R.reg rfl <| R.q §54 rfl <| R.q (q.ld 2 rfl rfl tOne_3 rfl) rfl <| R.q §55 rfl <| R.q (q.ld 2 rfl rfl tOne_3 rfl) rfl <| R.q (q.build (cs := §8) tB_39 rfl rfl) rfl <| ?_
              refine R.s rfl §53 fun b6 => ?_
              refine R.s rfl (s.st (us := §8) (cs' := §8) 0 _ rfl rfl rfl rfl (.inl tAgg_39) rfl rfl rfl rfl) fun _ => ?_
              refine R.nil ?_
              refine R.reg rfl <| R.q (q.ldS 3 rfl rfl tAgg_30) rfl <| R.q (q.ldS 0 rfl rfl tAgg_39) rfl <| ?_
              refine R.s (B' := (fun g_ : Value × Value × Value × Value => [Res.row 39 g_.1 ((§1).Writs : List Writ), Res.row 74 g_.2.1 ((§1).Things : List Thing), Res.row 93 g_.2.2.1 ((§1).Held : List Held), Res.row 52 g_.2.2.2 ((§1).Notes : List Note), Res.box b6 §8 39, Res.box b3 §2 30, Res.box b2 §9 33, Res.box b1 §11 30, Res.held w own])) (F' := §66) rfl (s.callV (B0 := []) (Br := [Res.box b6 §8 39, Res.box b3 §2 30, Res.box b2 §9 33, Res.box b1 §11 30, Res.held w own]) (F0 := §5) [0, 1, 2, 3, 4] [0, 1, 2, 3] (fun g_ : Value × Value × Value × Value => .agg #[g_.1, g_.2.1, g_.2.2.1, g_.2.2.2, .int .i64 ((§1).NextWrit), .int .i64 ((§1).NextThing)]) §67 §69 rfl rfl rfl eg_87 rfl rfl (fun w own hw H => addD_any v_rW v_rT v_rH v_rN (r) ((⟨r.NextWrit, r.NextThing, 7, 0, 0⟩ : Writ)) w own H §64) rfl) ?_
              rintro ⟨z6, z7, z8, z9⟩
              dsimp only
              refine R.s rfl (s.stV (us := [z6, z7, z8, z9, .int .i64 (§1.NextWrit), .int .i64 (§1.NextThing)]) (cs' := [z6, z7, z8, z9, .int .i64 (§1.NextWrit), .int .i64 (§1.NextThing)]) 7 _ rfl rfl rfl (fun _ _ => rfl) (.inl tAgg_30) §12 rfl rfl rfl) fun _ => ?_
              refine R.nil ?_
              refine R.reg rfl <| R.q §40 rfl <| R.q (q.ld 7 rfl rfl tOne_26 rfl) rfl <| R.q §55 rfl <| R.q (q.ld 7 rfl rfl tOne_3 rfl) rfl <| R.u 1 rfl <| R.q (q.build (cs := [.int .i64 (§1.NextThing), .int .i64 kind, .string (⟨#[]⟩)]) tB_74 rfl rfl) rfl <| ?_
              refine R.s rfl (s.bs (l := ([§13] : List Thing)) tSl_26 tZero_74 rfl rfl rfl rfl rfl rfl rfl) fun b7 => ?_
              refine R.s rfl (s.app (l2 := [§13]) 2 _ rfl rfl rfl (fun _ => Wd.row 0 rfl) tApp_26 §38 §38 (fun _ => rfl) rfl) fun v2 => ?_
              refine R.q §40 rfl <| ?_
              refine R.s rfl (s.stV (us := [v2]) (cs' := [z6, v2, z8, z9, .int .i64 (§1.NextWrit), .int .i64 (§1.NextThing)]) 8 _ rfl rfl rfl (fun w hw => Sl.cells1 ((fun _ => Wd.row 2 rfl) w hw)) (.inr ⟨tOne_26, rfl⟩) (fun w hw => (one_cons (Sl.one ((fun _ => Wd.row 2 rfl) w hw)) one_nil)) rfl rfl rfl) fun _ => ?_
              refine R.nil ?_
              have a1_ : §1.NextThing = r.NextThing := rfl
              refine R.reg rfl <| R.q §55 rfl <| R.q (q.ld 8 rfl rfl tOne_3 rfl) rfl <| R.q (q.add (r := (§1.NextThing) + 1) rfl rfl (wr (by omega))) rfl <| R.q §55 rfl <| ?_
              refine R.s rfl (s.st (us := [.int .i64 ((§1.NextThing) + 1)]) (cs' := [z6, v2, z8, z9, .int .i64 (§1.NextWrit), .int .i64 ((§1.NextThing) + 1)]) 8 _ rfl rfl rfl rfl (.inr ⟨tOne_3, rfl⟩) rfl rfl rfl rfl) fun _ => ?_
              refine R.nil ?_
              refine R.reg rfl <| R.q §34 rfl <| R.q (q.ld 8 rfl rfl tOne_27 rfl) rfl <| R.q (q.ldS 7 rfl rfl tAgg_33) rfl <| R.q (q.fld (off' := 0) rfl tFld_39_0 rfl) rfl <| R.q (q.ld 5 rfl rfl tOne_3 rfl) rfl <| ?_
              refine R.s (B' := (fun bz0_ : Value => [Res.row 93 bz0_ ((putH (§1.Held) p r.NextWrit) : List Held), Res.row 74 (.slice (some ⟨b7, 0, none⟩) 1 1) ([§13] : List Thing), Res.row 39 z6 (§1.Writs : List Writ), Res.row 74 v2 (((§1.Things) ++ ([§13])) : List Thing), Res.row 52 z9 (§1.Notes : List Note), Res.box b6 §8 39, Res.box b3 §2 30, Res.box b2 §9 33, Res.box b1 [z6, v2, z8, z9, .int .i64 (§1.NextWrit), .int .i64 ((§1.NextThing) + 1)] 30, Res.held w own])) (F' := (fun bz0_ : Value => [Res.ls z8 (§1.Held : List Held), Res.ls v_rW (r.Writs : List Writ), Res.ls v_rT (r.Things : List Thing), Res.ls v_rH (r.Held : List Held), Res.ls v_rN (r.Notes : List Note)])) rfl (s.pre (B2 := §42) (F2 := [Res.ls z8 (§1.Held : List Held), Res.ls v_rW (r.Writs : List Writ), Res.ls v_rT (r.Things : List Thing), Res.ls v_rH (r.Held : List Held), Res.ls v_rN (r.Notes : List Note)]) (fun _ hw => hw.lendL 3 _ rfl rfl) (s.callV (B0 := []) (Br := §42) (F0 := [Res.ls z8 (§1.Held : List Held)]) [0, 1, 2, 3, 4, 5, 6, 7, 8] [0] (fun bz0_ : Value => bz0_) (fun bz0_ : Value => [Res.row 93 bz0_ ((putH (§1.Held) p r.NextWrit) : List Held)]) (fun bz0_ : Value => []) rfl rfl rfl eg_73 rfl rfl (fun w own hw H => putG_any z8 (§1.Held) (p) (r.NextWrit) w own H §37 §17) rfl)) fun z10 => ?_
              refine R.q §34 rfl <| ?_
              refine R.s rfl (s.stV (us := [z10]) (cs' := §18) 8 _ rfl rfl rfl (fun w hw => Sl.cells1 §24) (.inr ⟨tOne_27, rfl⟩) §47 rfl rfl rfl) fun _ => ?_
              refine R.nil ?_
              refine R.reg rfl <| R.q (q.ldS 8 rfl rfl tAgg_30) rfl <| ?_
              refine R.s rfl (s.stV (us := §18) (cs' := §18) 6 _ rfl rfl rfl (fun _ _ => rfl) (.inl tAgg_30) §68 rfl rfl rfl) fun _ => ?_
              refine R.u 1 rfl <| R.nil ?_
              refine R.mp (B' := [Res.row 93 z10 (putH (§1.Held) p r.NextWrit : List Held), Res.row 74 (.slice (some ⟨b7, 0, none⟩) 1 1) ([§13] : List Thing), Res.row 74 v2 (((§1.Things) ++ ([§13])) : List Thing), Res.row 52 z9 (§1.Notes : List Note), Res.box b6 §8 39, Res.box b3 §18 30, Res.box b2 §9 33, Res.box b1 §18 30, Res.held w own]) (fun _ hw => hw.lendL 2 _ rfl rfl) ?_
              refine R.mp (B' := [Res.row 93 z10 (putH (§1.Held) p r.NextWrit : List Held), Res.row 74 (.slice (some ⟨b7, 0, none⟩) 1 1) ([§13] : List Thing), Res.row 52 z9 (§1.Notes : List Note), Res.box b6 §8 39, Res.box b3 §18 30, Res.box b2 §9 33, Res.box b1 §18 30, Res.held w own]) (fun _ hw => hw.lendL 2 _ rfl rfl) ?_
              refine R.mp (B' := [Res.row 74 (.slice (some ⟨b7, 0, none⟩) 1 1) ([§13] : List Thing), Res.row 52 z9 (§1.Notes : List Note), Res.box b6 §8 39, Res.box b3 §18 30, Res.box b2 §9 33, Res.box b1 §18 30, Res.held w own]) §63 ?_
              refine R.mp (B' := [Res.row 74 (.slice (some ⟨b7, 0, none⟩) 1 1) ([§13] : List Thing), Res.box b6 §8 39, Res.box b3 §18 30, Res.box b2 §9 33, Res.box b1 §18 30, Res.held w own]) (fun _ hw => hw.lendL 1 _ rfl rfl) ?_
              have hz : makeR r p kind = ((⟨§1.Writs, ((§1.Things) ++ ([§13])), putH (§1.Held) p r.NextWrit, §1.Notes, §1.NextWrit, ((§1.NextThing) + 1)⟩ : Realm), 0) := by (unfold makeR addR; rw [if_pos (by omega), if_pos fq, if_neg (by omega)]; dsimp only; rw [if_pos (by omega)]; (try rfl))
              rw [hz]
              exact R.w2 (z6, v2, z10, z9) [5] [3, 2, 1, 0] rfl Tryz.results53 (RV.cell 2 rfl rfl tAgg_30) (RV.tmp rfl) rfl rfl rfl (tup2 rfl rfl)
    · refine R.qg rfl (q.neq rfl rfl (bne_iff_ne.2 (by omega))) rfl <| R.u 1 rfl <| R.nil ?_
      refine R.condT rfl rfl ?_
      refine R.reg rfl <| R.q §32 rfl <| ?_
      refine R.s rfl §22 fun _ => ?_
      refine R.u 1 rfl <| R.nil ?_
      refine R.mp §29 ?_
      refine R.mp §26 ?_
      refine R.mp §30 ?_
      refine R.mp §31 ?_
      have hz : makeR r p kind = (§28, 8) := by (unfold makeR; (repeat' split) <;> first | rfl | (exfalso; omega) | (simp_all; done))
      rw [hz]
      exact R.w2 ((.slice none 0 0), (.slice none 0 0), (.slice none 0 0), (.slice none 0 0)) [3] [3, 2, 1, 0] rfl Tryz.results53 (RV.cell 0 rfl rfl tAgg_30) (RV.tmp rfl) rfl rfl rfl (tup2 rfl rfl)

theorem giveD_any (v_rW v_rT v_rH v_rN : Value) (r : Realm) (p : Place) (t : Place) (rights : Int) (badge : Int) (w : World) (own : List Nat) (H : Wd w (blks [] ++ own) ([] ++ [Res.held w own]) §5 w) (hk : Ok r) (hI : Inv r) : Calls Tryz.prog 54 #[.agg #[v_rW, v_rT, v_rH, v_rN, .int .i64 r.NextWrit, .int .i64 r.NextThing], .agg #[.int .i64 p.Holder, .int .i64 p.Slot], .agg #[.int .i64 t.Holder, .int .i64 t.Slot], .int .i64 rights, .int .i64 badge] w fun e w' => ∃ z : Value × Value × Value × Value, e = .returned (.tuple #[.agg #[z.1, z.2.1, z.2.2.1, z.2.2.2, .int .i64 ((((giveR r p t rights badge)).1).NextWrit), .int .i64 ((((giveR r p t rights badge)).1).NextThing)], .int .i64 (((giveR r p t rights badge)).2)]) ∧ Wd w (blks [] ++ own) ([] ++ [Res.held w own]) [Res.ls z.1 ((((giveR r p t rights badge)).1).Writs : List Writ), Res.ls z.2.1 ((((giveR r p t rights badge)).1).Things : List Thing), Res.ls z.2.2.1 ((((giveR r p t rights badge)).1).Held : List Held), Res.ls z.2.2.2 ((((giveR r p t rights badge)).1).Notes : List Note)] w' := by
  have m_r_Writs := H.lenF 0 rfl
  have m_r_Things := H.lenF 1 rfl
  have m_r_Held := H.lenF 2 rfl
  have m_r_Notes := H.lenF 3 rfl
  have bw := hk.wl; have bt := hk.tl; have bh := hk.hl; have bn := hk.nl; have bw0 := hk.w0; have bw1 := hk.w1; have bt0 := hk.t0; have bt1 := hk.t1
  have gn := getR_nonneg r p
  have dc := derived_cases (getR r p).1 r.NextWrit rights badge
  refine R.enterN (n := 72) (vs := [.agg #[v_rW, v_rT, v_rH, v_rN, .int .i64 r.NextWrit, .int .i64 r.NextThing], .agg #[.int .i64 p.Holder, .int .i64 p.Slot], .agg #[.int .i64 t.Holder, .int .i64 t.Slot], .int .i64 rights, .int .i64 badge]) (B := [Res.held w own]) [(0, .agg #[v_rW, v_rT, v_rH, v_rN, .int .i64 r.NextWrit, .int .i64 r.NextThing]), (1, .agg #[.int .i64 p.Holder, .int .i64 p.Slot]), (2, .agg #[.int .i64 t.Holder, .int .i64 t.Slot]), (3, .int .i64 rights), (4, .int .i64 badge)] Tryz.func54 rfl rfl rfl rfl H ?_
  refine R.reg rfl <| ?_
  refine R.s rfl (s.box (cs := §11) rfl rfl rfl) fun b1 => ?_
  refine R.s rfl (s.box (cs := §9) rfl rfl rfl) fun b2 => ?_
  refine R.s rfl (s.box (cs := §23) rfl rfl rfl) fun b3 => ?_
  refine R.s rfl (s.alloc (cs := §2) tZero_30 rfl rfl) fun b4 => ?_
  refine R.u 1 rfl <| R.nil ?_
  refine R.reg rfl <| R.q (q.ldS 3 rfl rfl tAgg_30) rfl <| R.q (q.ldS 2 rfl rfl tAgg_33) rfl <| R.c (q.call eg_9 rfl rfl (fun w hw => (getD_any _ _ _ _ (r) (p) w ((fun _ => Wd.fls 0 rfl) w hw) ((fun _ => Wd.fls 1 rfl) w hw) ((fun _ => Wd.fls 2 rfl) w hw) ((fun _ => Wd.fls 3 rfl) w hw) §64 §64))) rfl <| R.u 3 rfl <| ?_
  refine R.s rfl §53 fun b5 => ?_
  refine R.s rfl (s.st (us := §3) (cs' := §3) 0 _ rfl rfl rfl rfl (.inl tAgg_39) rfl rfl rfl rfl) fun _ => ?_
  refine R.u 1 rfl <| R.nil ?_
  refine R.reg rfl <| R.u 1 rfl <| ?_
  by_cases h1 : 0 < (getR r p).2
  · refine R.q §21 rfl <| R.nil ?_
    refine R.condT rfl rfl ?_
    refine R.reg rfl <| R.q §32 rfl <| R.u 1 rfl <| ?_
    refine R.s rfl §39 fun _ => ?_
    refine R.u 1 rfl <| R.nil ?_
    refine R.mp §29 ?_
    refine R.mp §26 ?_
    refine R.mp §30 ?_
    refine R.mp §31 ?_
    have hz : giveR r p t rights badge = (§28, (getR r p).2) := by (unfold giveR; rw [if_neg (by omega)]; (try rfl))
    rw [hz]
    exact R.w2 ((.slice none 0 0), (.slice none 0 0), (.slice none 0 0), (.slice none 0 0)) [5] [3, 2, 1, 0] rfl Tryz.results54 (RV.cell 1 rfl rfl tAgg_30) (RV.tmp rfl) rfl rfl rfl (tup2 rfl rfl)
  · have gz : (getR r p).2 = 0 := by omega
    have gr := hk.get gz
    refine R.q §20 rfl <| R.nil ?_
    refine R.condF rfl rfl ?_
    refine R.reg rfl <| R.q (q.ldS 4 rfl rfl tAgg_30) rfl <| R.q (q.ldS 2 rfl rfl tAgg_33) rfl <| R.c (q.call eg_86 rfl rfl (fun w hw => (freeD_any _ _ _ _ (r) (t) w ((fun _ => Wd.fls 0 rfl) w hw) ((fun _ => Wd.fls 1 rfl) w hw) ((fun _ => Wd.fls 2 rfl) w hw) ((fun _ => Wd.fls 3 rfl) w hw) §64 §64))) rfl <| R.u 1 rfl <| R.nil ?_
    refine R.reg rfl <| R.u 1 rfl <| ?_
    by_cases h2 : 0 < freeR r t
    · refine R.q §21 rfl <| R.nil ?_
      refine R.condT rfl rfl ?_
      refine R.reg rfl <| R.q §32 rfl <| R.u 1 rfl <| ?_
      refine R.s rfl §39 fun _ => ?_
      refine R.u 1 rfl <| R.nil ?_
      refine R.mp §29 ?_
      refine R.mp §26 ?_
      refine R.mp §30 ?_
      refine R.mp §31 ?_
      have hz : giveR r p t rights badge = (§28, freeR r t) := by (unfold giveR; rw [if_pos gz, if_neg (by have := freeR_nonneg r t; omega)]; (try rfl))
      rw [hz]
      exact R.w2 ((.slice none 0 0), (.slice none 0 0), (.slice none 0 0), (.slice none 0 0)) [5] [3, 2, 1, 0] rfl Tryz.results54 (RV.cell 1 rfl rfl tAgg_30) (RV.tmp rfl) rfl rfl rfl (tup2 rfl rfl)
    · have fq : freeR r t = 0 := by have := freeR_nonneg r t; omega
      have fz := placeFault_zero (free_zero fq).1
      refine R.q §20 rfl <| R.nil ?_
      refine R.condF rfl rfl ?_
      refine R.reg rfl <| R.q (q.fld (off' := 0) rfl tFld_33_0 rfl) rfl <| R.q (q.ld 3 rfl rfl tOne_3 rfl) rfl <| R.q (q.fld (off' := 0) rfl tFld_33_0 rfl) rfl <| R.q (q.ld 2 rfl rfl tOne_3 rfl) rfl <| ?_
      by_cases h3 : p.Holder = t.Holder
      · refine R.q §65 rfl <| R.u 5 rfl <| R.nil ?_
        refine R.condF rfl rfl ?_
        refine R.reg rfl <| R.q §54 rfl <| R.q (q.ld 4 rfl rfl tOne_3 rfl) rfl <| ?_
        by_cases h4 : 999 < r.NextWrit
        · refine R.q §21 rfl <| R.nil ?_
          refine R.condT rfl rfl ?_
          refine R.reg rfl <| R.q §32 rfl <| ?_
          refine R.s rfl §39 fun _ => ?_
          refine R.u 1 rfl <| R.nil ?_
          refine R.mp §29 ?_
          refine R.mp §26 ?_
          refine R.mp §30 ?_
          refine R.mp §31 ?_
          have hz : giveR r p t rights badge = (§28, 9) := by (unfold giveR; rw [if_pos gz, if_pos fq, if_pos §43, if_pos (by omega)]; (try rfl))
          rw [hz]
          exact R.w2 ((.slice none 0 0), (.slice none 0 0), (.slice none 0 0), (.slice none 0 0)) [5] [3, 2, 1, 0] rfl Tryz.results54 (RV.cell 1 rfl rfl tAgg_30) (RV.tmp rfl) rfl rfl rfl (tup2 rfl rfl)
        · refine R.q §20 rfl <| R.nil ?_
          refine R.condF rfl rfl ?_
          refine R.reg rfl <| R.q (q.ldS 0 rfl rfl tAgg_39) rfl <| R.q §54 rfl <| R.q (q.ld 4 rfl rfl tOne_3 rfl) rfl <| R.u 2 rfl <| R.c (q.call eg_88 rfl rfl (fun w hw => (derivedRef_any (((getR r p).1)) (r.NextWrit) (rights) (badge) w  (by omega)))) rfl <| R.u 3 rfl <| ?_
          refine R.s rfl §53 fun b6 => ?_
          refine R.s rfl (s.st (us := §6) (cs' := §6) 0 _ rfl rfl rfl rfl (.inl tAgg_39) rfl rfl rfl rfl) fun _ => ?_
          refine R.u 1 rfl <| R.nil ?_
          refine R.reg rfl <| R.u 1 rfl <| ?_
          by_cases h5 : 0 < (derived ((getR r p).1) r.NextWrit rights badge).2
          · refine R.q §21 rfl <| R.nil ?_
            refine R.condT rfl rfl ?_
            refine R.reg rfl <| R.q §32 rfl <| R.u 1 rfl <| ?_
            refine R.s rfl (s.st (us := §2) (cs' := §2) 2 _ rfl rfl rfl rfl (.inl tAgg_30) rfl rfl rfl rfl) fun _ => ?_
            refine R.u 1 rfl <| R.nil ?_
            refine R.mp §29 ?_
            refine R.mp §26 ?_
            refine R.mp §30 ?_
            refine R.mp §31 ?_
            have hz : giveR r p t rights badge = (§28, (derived ((getR r p).1) r.NextWrit rights badge).2) := by (unfold giveR; rw [if_pos gz, if_pos fq, if_pos §43, if_neg (by omega), if_neg (by omega)]; (try rfl))
            rw [hz]
            exact R.w2 ((.slice none 0 0), (.slice none 0 0), (.slice none 0 0), (.slice none 0 0)) [6] [3, 2, 1, 0] rfl Tryz.results54 (RV.cell 2 rfl rfl tAgg_30) (RV.tmp rfl) rfl rfl rfl (tup2 rfl rfl)
          · have dz : (derived (getR r p).1 r.NextWrit rights badge).2 = 0 := by have := derived_cases (getR r p).1 r.NextWrit rights badge; omega
            have di := (derived_zero dz).2.2.2.2.2.1
            refine R.q §20 rfl <| R.nil ?_
            refine R.condF rfl rfl ?_
            refine R.reg rfl <| R.q (q.ldS 5 rfl rfl tAgg_30) rfl <| R.q (q.ldS 0 rfl rfl tAgg_39) rfl <| ?_
            refine R.s (B' := (fun g_ : Value × Value × Value × Value => [Res.row 39 g_.1 (((addW r §0)).Writs : List Writ), Res.row 74 g_.2.1 (((addW r §0)).Things : List Thing), Res.row 93 g_.2.2.1 (((addW r §0)).Held : List Held), Res.row 52 g_.2.2.2 (((addW r §0)).Notes : List Note), Res.box b6 §6 39, Res.box b5 §3 39, Res.box b4 §2 30, Res.box b3 §23 33, Res.box b2 §9 33, Res.box b1 §11 30, Res.held w own])) (F' := §66) rfl (s.callV (B0 := []) (Br := [Res.box b6 §6 39, Res.box b5 §3 39, Res.box b4 §2 30, Res.box b3 §23 33, Res.box b2 §9 33, Res.box b1 §11 30, Res.held w own]) (F0 := §5) [0, 1, 2, 3, 4, 5, 6] [0, 1, 2, 3] (fun g_ : Value × Value × Value × Value => .agg #[g_.1, g_.2.1, g_.2.2.1, g_.2.2.2, .int .i64 (((addW r §0)).NextWrit), .int .i64 (((addW r §0)).NextThing)]) §58 §69 rfl rfl rfl eg_87 rfl rfl (fun w own hw H => addD_any v_rW v_rT v_rH v_rN (r) (§0) w own H §64) rfl) ?_
            rintro ⟨z1, z2, z3, z4⟩
            dsimp only
            refine R.s rfl (s.stV (us := [z1, z2, z3, z4, .int .i64 ((addW r §0).NextWrit), .int .i64 ((addW r §0).NextThing)]) (cs' := [z1, z2, z3, z4, .int .i64 ((addW r §0).NextWrit), .int .i64 ((addW r §0).NextThing)]) 9 _ rfl rfl rfl (fun _ _ => rfl) (.inl tAgg_30) §12 rfl rfl rfl) fun _ => ?_
            refine R.nil ?_
            refine R.reg rfl <| R.q §34 rfl <| R.q (q.ld 9 rfl rfl tOne_27 rfl) rfl <| R.q (q.ldS 7 rfl rfl tAgg_33) rfl <| R.q (q.fld (off' := 0) rfl tFld_39_0 rfl) rfl <| R.q (q.ld 4 rfl rfl tOne_3 rfl) rfl <| ?_
            refine R.s (B' := (fun bz0_ : Value => [Res.row 93 bz0_ ((putH ((addW r §0).Held) t (§0.ID)) : List Held), Res.row 39 z1 ((addW r §0).Writs : List Writ), Res.row 74 z2 ((addW r §0).Things : List Thing), Res.row 52 z4 ((addW r §0).Notes : List Note), Res.box b6 §6 39, Res.box b5 §3 39, Res.box b4 §2 30, Res.box b3 §23 33, Res.box b2 §9 33, Res.box b1 [z1, z2, z3, z4, .int .i64 ((addW r §0).NextWrit), .int .i64 ((addW r §0).NextThing)] 30, Res.held w own])) (F' := (fun bz0_ : Value => [Res.ls z3 ((addW r §0).Held : List Held), Res.ls v_rW (r.Writs : List Writ), Res.ls v_rT (r.Things : List Thing), Res.ls v_rH (r.Held : List Held), Res.ls v_rN (r.Notes : List Note)])) rfl (s.pre (B2 := §44) (F2 := [Res.ls z3 ((addW r §0).Held : List Held), Res.ls v_rW (r.Writs : List Writ), Res.ls v_rT (r.Things : List Thing), Res.ls v_rH (r.Held : List Held), Res.ls v_rN (r.Notes : List Note)]) (fun _ hw => hw.lendL 2 _ rfl rfl) (s.callV (B0 := []) (Br := §44) (F0 := [Res.ls z3 ((addW r §0).Held : List Held)]) [0, 1, 2, 3, 4, 5, 6, 7, 8, 9] [0] (fun bz0_ : Value => bz0_) (fun bz0_ : Value => [Res.row 93 bz0_ ((putH ((addW r §0).Held) t (§0.ID)) : List Held)]) (fun bz0_ : Value => []) rfl rfl rfl eg_73 rfl rfl (fun w own hw H => putG_any z3 ((addW r §0).Held) (t) (§0.ID) w own H §37 §17) rfl)) fun z5 => ?_
            refine R.q §34 rfl <| ?_
            refine R.s rfl (s.stV (us := [z5]) (cs' := §16) 9 _ rfl rfl rfl (fun w hw => Sl.cells1 §24) (.inr ⟨tOne_27, rfl⟩) §47 rfl rfl rfl) fun _ => ?_
            refine R.nil ?_
            refine R.reg rfl <| R.q (q.ldS 9 rfl rfl tAgg_30) rfl <| ?_
            refine R.s rfl (s.stV (us := §16) (cs' := §16) 6 _ rfl rfl rfl (fun _ _ => rfl) (.inl tAgg_30) §35 rfl rfl rfl) fun _ => ?_
            refine R.u 1 rfl <| R.nil ?_
            refine R.mp (B' := [Res.row 93 z5 (putH ((addW r §0).Held) t (§0.ID) : List Held), Res.row 74 z2 ((addW r §0).Things : List Thing), Res.row 52 z4 ((addW r §0).Notes : List Note), Res.box b6 §6 39, Res.box b5 §3 39, Res.box b4 §16 30, Res.box b3 §23 33, Res.box b2 §9 33, Res.box b1 §16 30, Res.held w own]) (fun _ hw => hw.lendL 1 _ rfl rfl) ?_
            refine R.mp (B' := [Res.row 93 z5 (putH ((addW r §0).Held) t (§0.ID) : List Held), Res.row 52 z4 ((addW r §0).Notes : List Note), Res.box b6 §6 39, Res.box b5 §3 39, Res.box b4 §16 30, Res.box b3 §23 33, Res.box b2 §9 33, Res.box b1 §16 30, Res.held w own]) (fun _ hw => hw.lendL 1 _ rfl rfl) ?_
            refine R.mp (B' := [Res.row 52 z4 ((addW r §0).Notes : List Note), Res.box b6 §6 39, Res.box b5 §3 39, Res.box b4 §16 30, Res.box b3 §23 33, Res.box b2 §9 33, Res.box b1 §16 30, Res.held w own]) §63 ?_
            refine R.mp (B' := [Res.box b6 §6 39, Res.box b5 §3 39, Res.box b4 §16 30, Res.box b3 §23 33, Res.box b2 §9 33, Res.box b1 §16 30, Res.held w own]) §63 ?_
            have hz : giveR r p t rights badge = ((⟨(addW r §0).Writs, (addW r §0).Things, putH ((addW r §0).Held) t (§0.ID), (addW r §0).Notes, (addW r §0).NextWrit, (addW r §0).NextThing⟩ : Realm), 0) := by (unfold giveR; rw [if_pos gz, if_pos fq, if_pos §43, if_neg (by omega), if_pos dz]; unfold addR; rw [if_pos (by omega)]; (try rfl))
            rw [hz]
            exact R.w2 (z1, z2, z5, z4) [6] [3, 2, 1, 0] rfl Tryz.results54 (RV.cell 2 rfl rfl tAgg_30) (RV.tmp rfl) rfl rfl rfl (tup2 rfl rfl)
      · refine R.q (q.neq rfl rfl (bne_iff_ne.2 (by omega))) rfl <| R.u 1 rfl <| R.qg rfl (q.fld (off' := 2) rfl tFld_39_2 rfl) rfl <| R.qg rfl (q.ld 0 rfl rfl tOne_3 rfl) rfl <| ?_
        by_cases h6 : ((getR r p).1).Rights < 4
        · refine R.qg rfl (q.lss rfl rfl (decide_eq_true (by omega))) rfl <| R.u 1 rfl <| R.nil ?_
          refine R.condT rfl rfl ?_
          refine R.reg rfl <| R.q §32 rfl <| ?_
          refine R.s rfl §39 fun _ => ?_
          refine R.u 1 rfl <| R.nil ?_
          refine R.mp §29 ?_
          refine R.mp §26 ?_
          refine R.mp §30 ?_
          refine R.mp §31 ?_
          have hz : giveR r p t rights badge = (§28, 7) := by (unfold giveR; rw [if_pos gz, if_pos fq, if_neg (by rintro (hh | hh) <;> first | contradiction | (rw [has4_no gr (by omega)] at hh; cases hh))]; (try rfl))
          rw [hz]
          exact R.w2 ((.slice none 0 0), (.slice none 0 0), (.slice none 0 0), (.slice none 0 0)) [5] [3, 2, 1, 0] rfl Tryz.results54 (RV.cell 1 rfl rfl tAgg_30) (RV.tmp rfl) rfl rfl rfl (tup2 rfl rfl)
        · refine R.qg rfl (q.lss rfl rfl (decide_eq_false (by omega))) rfl <| R.u 1 rfl <| R.nil ?_
          refine R.condF rfl rfl ?_
          refine R.reg rfl <| R.q §54 rfl <| R.q (q.ld 4 rfl rfl tOne_3 rfl) rfl <| ?_
          by_cases h7 : 999 < r.NextWrit
          · refine R.q §21 rfl <| R.nil ?_
            refine R.condT rfl rfl ?_
            refine R.reg rfl <| R.q §32 rfl <| ?_
            refine R.s rfl §39 fun _ => ?_
            refine R.u 1 rfl <| R.nil ?_
            refine R.mp §29 ?_
            refine R.mp §26 ?_
            refine R.mp §30 ?_
            refine R.mp §31 ?_
            have hz : giveR r p t rights badge = (§28, 9) := by (unfold giveR; rw [if_pos gz, if_pos fq, if_pos §43, if_pos (by omega)]; (try rfl))
            rw [hz]
            exact R.w2 ((.slice none 0 0), (.slice none 0 0), (.slice none 0 0), (.slice none 0 0)) [5] [3, 2, 1, 0] rfl Tryz.results54 (RV.cell 1 rfl rfl tAgg_30) (RV.tmp rfl) rfl rfl rfl (tup2 rfl rfl)
          · refine R.q §20 rfl <| R.nil ?_
            refine R.condF rfl rfl ?_
            refine R.reg rfl <| R.q (q.ldS 0 rfl rfl tAgg_39) rfl <| R.q §54 rfl <| R.q (q.ld 4 rfl rfl tOne_3 rfl) rfl <| R.u 2 rfl <| R.c (q.call eg_88 rfl rfl (fun w hw => (derivedRef_any (((getR r p).1)) (r.NextWrit) (rights) (badge) w  (by omega)))) rfl <| R.u 3 rfl <| ?_
            refine R.s rfl §53 fun b7 => ?_
            refine R.s rfl (s.st (us := §6) (cs' := §6) 0 _ rfl rfl rfl rfl (.inl tAgg_39) rfl rfl rfl rfl) fun _ => ?_
            refine R.u 1 rfl <| R.nil ?_
            refine R.reg rfl <| R.u 1 rfl <| ?_
            by_cases h8 : 0 < (derived ((getR r p).1) r.NextWrit rights badge).2
            · refine R.q §21 rfl <| R.nil ?_
              refine R.condT rfl rfl ?_
              refine R.reg rfl <| R.q §32 rfl <| R.u 1 rfl <| ?_
              refine R.s rfl (s.st (us := §2) (cs' := §2) 2 _ rfl rfl rfl rfl (.inl tAgg_30) rfl rfl rfl rfl) fun _ => ?_
              refine R.u 1 rfl <| R.nil ?_
              refine R.mp §29 ?_
              refine R.mp §26 ?_
              refine R.mp §30 ?_
              refine R.mp §31 ?_
              have hz : giveR r p t rights badge = (§28, (derived ((getR r p).1) r.NextWrit rights badge).2) := by (unfold giveR; rw [if_pos gz, if_pos fq, if_pos §43, if_neg (by omega), if_neg (by omega)]; (try rfl))
              rw [hz]
              exact R.w2 ((.slice none 0 0), (.slice none 0 0), (.slice none 0 0), (.slice none 0 0)) [6] [3, 2, 1, 0] rfl Tryz.results54 (RV.cell 2 rfl rfl tAgg_30) (RV.tmp rfl) rfl rfl rfl (tup2 rfl rfl)
            · have dz : (derived (getR r p).1 r.NextWrit rights badge).2 = 0 := by have := derived_cases (getR r p).1 r.NextWrit rights badge; omega
              have di := (derived_zero dz).2.2.2.2.2.1
              refine R.q §20 rfl <| R.nil ?_
              refine R.condF rfl rfl ?_
              refine R.reg rfl <| R.q (q.ldS 5 rfl rfl tAgg_30) rfl <| R.q (q.ldS 0 rfl rfl tAgg_39) rfl <| ?_
              refine R.s (B' := (fun g_ : Value × Value × Value × Value => [Res.row 39 g_.1 (((addW r §0)).Writs : List Writ), Res.row 74 g_.2.1 (((addW r §0)).Things : List Thing), Res.row 93 g_.2.2.1 (((addW r §0)).Held : List Held), Res.row 52 g_.2.2.2 (((addW r §0)).Notes : List Note), Res.box b7 §6 39, Res.box b5 §3 39, Res.box b4 §2 30, Res.box b3 §23 33, Res.box b2 §9 33, Res.box b1 §11 30, Res.held w own])) (F' := §66) rfl (s.callV (B0 := []) (Br := [Res.box b7 §6 39, Res.box b5 §3 39, Res.box b4 §2 30, Res.box b3 §23 33, Res.box b2 §9 33, Res.box b1 §11 30, Res.held w own]) (F0 := §5) [0, 1, 2, 3, 4, 5, 6] [0, 1, 2, 3] (fun g_ : Value × Value × Value × Value => .agg #[g_.1, g_.2.1, g_.2.2.1, g_.2.2.2, .int .i64 (((addW r §0)).NextWrit), .int .i64 (((addW r §0)).NextThing)]) §58 §69 rfl rfl rfl eg_87 rfl rfl (fun w own hw H => addD_any v_rW v_rT v_rH v_rN (r) (§0) w own H §64) rfl) ?_
              rintro ⟨z6, z7, z8, z9⟩
              dsimp only
              refine R.s rfl (s.stV (us := [z6, z7, z8, z9, .int .i64 ((addW r §0).NextWrit), .int .i64 ((addW r §0).NextThing)]) (cs' := [z6, z7, z8, z9, .int .i64 ((addW r §0).NextWrit), .int .i64 ((addW r §0).NextThing)]) 9 _ rfl rfl rfl (fun _ _ => rfl) (.inl tAgg_30) §12 rfl rfl rfl) fun _ => ?_
              refine R.nil ?_
              refine R.reg rfl <| R.q §34 rfl <| R.q (q.ld 9 rfl rfl tOne_27 rfl) rfl <| R.q (q.ldS 7 rfl rfl tAgg_33) rfl <| R.q (q.fld (off' := 0) rfl tFld_39_0 rfl) rfl <| R.q (q.ld 4 rfl rfl tOne_3 rfl) rfl <| ?_
              refine R.s (B' := (fun bz0_ : Value => [Res.row 93 bz0_ ((putH ((addW r §0).Held) t (§0.ID)) : List Held), Res.row 39 z6 ((addW r §0).Writs : List Writ), Res.row 74 z7 ((addW r §0).Things : List Thing), Res.row 52 z9 ((addW r §0).Notes : List Note), Res.box b7 §6 39, Res.box b5 §3 39, Res.box b4 §2 30, Res.box b3 §23 33, Res.box b2 §9 33, Res.box b1 [z6, z7, z8, z9, .int .i64 ((addW r §0).NextWrit), .int .i64 ((addW r §0).NextThing)] 30, Res.held w own])) (F' := (fun bz0_ : Value => [Res.ls z8 ((addW r §0).Held : List Held), Res.ls v_rW (r.Writs : List Writ), Res.ls v_rT (r.Things : List Thing), Res.ls v_rH (r.Held : List Held), Res.ls v_rN (r.Notes : List Note)])) rfl (s.pre (B2 := §45) (F2 := [Res.ls z8 ((addW r §0).Held : List Held), Res.ls v_rW (r.Writs : List Writ), Res.ls v_rT (r.Things : List Thing), Res.ls v_rH (r.Held : List Held), Res.ls v_rN (r.Notes : List Note)]) (fun _ hw => hw.lendL 2 _ rfl rfl) (s.callV (B0 := []) (Br := §45) (F0 := [Res.ls z8 ((addW r §0).Held : List Held)]) [0, 1, 2, 3, 4, 5, 6, 7, 8, 9] [0] (fun bz0_ : Value => bz0_) (fun bz0_ : Value => [Res.row 93 bz0_ ((putH ((addW r §0).Held) t (§0.ID)) : List Held)]) (fun bz0_ : Value => []) rfl rfl rfl eg_73 rfl rfl (fun w own hw H => putG_any z8 ((addW r §0).Held) (t) (§0.ID) w own H §37 §17) rfl)) fun z10 => ?_
              refine R.q §34 rfl <| ?_
              refine R.s rfl (s.stV (us := [z10]) (cs' := §15) 9 _ rfl rfl rfl (fun w hw => Sl.cells1 §24) (.inr ⟨tOne_27, rfl⟩) §47 rfl rfl rfl) fun _ => ?_
              refine R.nil ?_
              refine R.reg rfl <| R.q (q.ldS 9 rfl rfl tAgg_30) rfl <| ?_
              refine R.s rfl (s.stV (us := §15) (cs' := §15) 6 _ rfl rfl rfl (fun _ _ => rfl) (.inl tAgg_30) §35 rfl rfl rfl) fun _ => ?_
              refine R.u 1 rfl <| R.nil ?_
              refine R.mp (B' := [Res.row 93 z10 (putH ((addW r §0).Held) t (§0.ID) : List Held), Res.row 74 z7 ((addW r §0).Things : List Thing), Res.row 52 z9 ((addW r §0).Notes : List Note), Res.box b7 §6 39, Res.box b5 §3 39, Res.box b4 §15 30, Res.box b3 §23 33, Res.box b2 §9 33, Res.box b1 §15 30, Res.held w own]) (fun _ hw => hw.lendL 1 _ rfl rfl) ?_
              refine R.mp (B' := [Res.row 93 z10 (putH ((addW r §0).Held) t (§0.ID) : List Held), Res.row 52 z9 ((addW r §0).Notes : List Note), Res.box b7 §6 39, Res.box b5 §3 39, Res.box b4 §15 30, Res.box b3 §23 33, Res.box b2 §9 33, Res.box b1 §15 30, Res.held w own]) (fun _ hw => hw.lendL 1 _ rfl rfl) ?_
              refine R.mp (B' := [Res.row 52 z9 ((addW r §0).Notes : List Note), Res.box b7 §6 39, Res.box b5 §3 39, Res.box b4 §15 30, Res.box b3 §23 33, Res.box b2 §9 33, Res.box b1 §15 30, Res.held w own]) §63 ?_
              refine R.mp (B' := [Res.box b7 §6 39, Res.box b5 §3 39, Res.box b4 §15 30, Res.box b3 §23 33, Res.box b2 §9 33, Res.box b1 §15 30, Res.held w own]) §63 ?_
              have hz : giveR r p t rights badge = ((⟨(addW r §0).Writs, (addW r §0).Things, putH ((addW r §0).Held) t (§0.ID), (addW r §0).Notes, (addW r §0).NextWrit, (addW r §0).NextThing⟩ : Realm), 0) := by (unfold giveR; rw [if_pos gz, if_pos fq, if_pos §43, if_neg (by omega), if_pos dz]; unfold addR; rw [if_pos (by omega)]; (try rfl))
              rw [hz]
              exact R.w2 (z6, z7, z10, z9) [6] [3, 2, 1, 0] rfl Tryz.results54 (RV.cell 2 rfl rfl tAgg_30) (RV.tmp rfl) rfl rfl rfl (tup2 rfl rfl)

theorem moveD_any (v_rW v_rT v_rH v_rN : Value) (r : Realm) (p : Place) (slot : Int) (w : World) (own : List Nat) (H : Wd w (blks [] ++ own) ([] ++ [Res.held w own]) §5 w) (hk : Ok r) (hI : Inv r) : Calls Tryz.prog 55 #[.agg #[v_rW, v_rT, v_rH, v_rN, .int .i64 r.NextWrit, .int .i64 r.NextThing], .agg #[.int .i64 p.Holder, .int .i64 p.Slot], .int .i64 slot] w fun e w' => ∃ z : Value × Value × Value × Value, e = .returned (.tuple #[.agg #[z.1, z.2.1, z.2.2.1, z.2.2.2, .int .i64 ((((moveR r p slot)).1).NextWrit), .int .i64 ((((moveR r p slot)).1).NextThing)], .int .i64 (((moveR r p slot)).2)]) ∧ Wd w (blks [] ++ own) ([] ++ [Res.held w own]) [Res.ls z.1 ((((moveR r p slot)).1).Writs : List Writ), Res.ls z.2.1 ((((moveR r p slot)).1).Things : List Thing), Res.ls z.2.2.1 ((((moveR r p slot)).1).Held : List Held), Res.ls z.2.2.2 ((((moveR r p slot)).1).Notes : List Note)] w' := by
  have m_r_Writs := H.lenF 0 rfl
  have m_r_Things := H.lenF 1 rfl
  have m_r_Held := H.lenF 2 rfl
  have m_r_Notes := H.lenF 3 rfl
  have bw := hk.wl; have bt := hk.tl; have bh := hk.hl; have bn := hk.nl; have bw0 := hk.w0; have bw1 := hk.w1; have bt0 := hk.t0; have bt1 := hk.t1
  have gn := getR_nonneg r p
  have bp := putH_len r.Held p 0
  refine R.enterN (n := 45) (vs := [.agg #[v_rW, v_rT, v_rH, v_rN, .int .i64 r.NextWrit, .int .i64 r.NextThing], .agg #[.int .i64 p.Holder, .int .i64 p.Slot], .int .i64 slot]) (B := [Res.held w own]) [(0, .agg #[v_rW, v_rT, v_rH, v_rN, .int .i64 r.NextWrit, .int .i64 r.NextThing]), (1, .agg #[.int .i64 p.Holder, .int .i64 p.Slot]), (2, .int .i64 slot)] Tryz.func55 rfl rfl rfl rfl H ?_
  refine R.reg rfl <| ?_
  refine R.s rfl (s.box (cs := §11) rfl rfl rfl) fun b1 => ?_
  refine R.s rfl (s.box (cs := §9) rfl rfl rfl) fun b2 => ?_
  refine R.s rfl (s.alloc (cs := §2) tZero_30 rfl rfl) fun b3 => ?_
  refine R.u 1 rfl <| R.nil ?_
  refine R.reg rfl <| R.q (q.ldS 2 rfl rfl tAgg_30) rfl <| R.q (q.ldS 1 rfl rfl tAgg_33) rfl <| R.c (q.call eg_9 rfl rfl (fun w hw => (getD_any _ _ _ _ (r) (p) w ((fun _ => Wd.fls 0 rfl) w hw) ((fun _ => Wd.fls 1 rfl) w hw) ((fun _ => Wd.fls 2 rfl) w hw) ((fun _ => Wd.fls 3 rfl) w hw) §64 §64))) rfl <| R.u 3 rfl <| ?_
  refine R.s rfl §53 fun b4 => ?_
  refine R.s rfl (s.st (us := §3) (cs' := §3) 0 _ rfl rfl rfl rfl (.inl tAgg_39) rfl rfl rfl rfl) fun _ => ?_
  refine R.u 1 rfl <| R.nil ?_
  refine R.reg rfl <| R.u 1 rfl <| ?_
  by_cases h1 : 0 < (getR r p).2
  · refine R.q §21 rfl <| R.nil ?_
    refine R.condT rfl rfl ?_
    refine R.reg rfl <| R.q §32 rfl <| R.u 1 rfl <| ?_
    refine R.s rfl §39 fun _ => ?_
    refine R.u 1 rfl <| R.nil ?_
    refine R.mp §29 ?_
    refine R.mp §26 ?_
    refine R.mp §30 ?_
    refine R.mp §31 ?_
    have hz : moveR r p slot = (§28, (getR r p).2) := by (unfold moveR; rw [if_neg (by omega)]; (try rfl))
    rw [hz]
    exact R.w2 ((.slice none 0 0), (.slice none 0 0), (.slice none 0 0), (.slice none 0 0)) [4] [3, 2, 1, 0] rfl Tryz.results55 (RV.cell 1 rfl rfl tAgg_30) (RV.tmp rfl) rfl rfl rfl (tup2 rfl rfl)
  · have gz : (getR r p).2 = 0 := by omega
    have gr := hk.get gz; have gp := good_put (id := 0) hI.good (getR_zero gz).1
    refine R.q §20 rfl <| R.nil ?_
    refine R.condF rfl rfl ?_
    refine R.reg rfl <| R.q (q.fld (off' := 0) rfl tFld_33_0 rfl) rfl <| R.q (q.ld 2 rfl rfl tOne_3 rfl) rfl <| R.u 1 rfl <| R.q (q.build (cs := §46) tB_33 rfl rfl) rfl <| ?_
    refine R.s rfl (s.alloc (cs := [.int .i64 0, .int .i64 0]) tZero_33 rfl rfl) fun b5 => ?_
    refine R.s rfl (s.st (us := §46) (cs' := §46) 0 _ rfl rfl rfl rfl (.inl tAgg_33) rfl rfl rfl rfl) fun _ => ?_
    refine R.nil ?_
    refine R.reg rfl <| R.q (q.ldS 4 rfl rfl tAgg_30) rfl <| R.q (q.ldS 0 rfl rfl tAgg_33) rfl <| R.c (q.call eg_86 rfl rfl (fun w hw => (freeD_any _ _ _ _ (r) (§57) w ((fun _ => Wd.fls 0 rfl) w hw) ((fun _ => Wd.fls 1 rfl) w hw) ((fun _ => Wd.fls 2 rfl) w hw) ((fun _ => Wd.fls 3 rfl) w hw) §64 §64))) rfl <| R.u 1 rfl <| R.nil ?_
    refine R.reg rfl <| R.u 1 rfl <| ?_
    by_cases h2 : 0 < freeR r §57
    · refine R.q §21 rfl <| R.nil ?_
      refine R.condT rfl rfl ?_
      refine R.reg rfl <| R.q §32 rfl <| R.u 1 rfl <| ?_
      refine R.s rfl (s.st (us := §2) (cs' := §2) 2 _ rfl rfl rfl rfl (.inl tAgg_30) rfl rfl rfl rfl) fun _ => ?_
      refine R.u 1 rfl <| R.nil ?_
      refine R.mp §29 ?_
      refine R.mp §26 ?_
      refine R.mp §30 ?_
      refine R.mp §31 ?_
      have hz : moveR r p slot = (§28, freeR r §57) := by (unfold moveR; rw [if_pos gz, if_neg (by have := freeR_nonneg r §57; omega)]; (try rfl))
      rw [hz]
      exact R.w2 ((.slice none 0 0), (.slice none 0 0), (.slice none 0 0), (.slice none 0 0)) [5] [3, 2, 1, 0] rfl Tryz.results55 (RV.cell 2 rfl rfl tAgg_30) (RV.tmp rfl) rfl rfl rfl (tup2 rfl rfl)
    · have fq : freeR r §57 = 0 := by have := freeR_nonneg r §57; omega
      have fz := placeFault_zero (free_zero fq).1
      refine R.q §20 rfl <| R.nil ?_
      refine R.condF rfl rfl ?_
      refine R.reg rfl <| R.q (q.ldS 4 rfl rfl tAgg_30) rfl <| ?_
      refine R.s (B' := (fun g_ : Value × Value × Value × Value => [Res.row 39 g_.1 ((r).Writs : List Writ), Res.row 74 g_.2.1 ((r).Things : List Thing), Res.row 93 g_.2.2.1 ((r).Held : List Held), Res.row 52 g_.2.2.2 ((r).Notes : List Note), Res.box b5 §46 33, Res.box b4 §3 39, Res.box b3 §2 30, Res.box b2 §9 33, Res.box b1 §11 30, Res.held w own])) (F' := §66) rfl (s.callV (B0 := []) (Br := [Res.box b5 §46 33, Res.box b4 §3 39, Res.box b3 §2 30, Res.box b2 §9 33, Res.box b1 §11 30, Res.held w own]) (F0 := §5) [0, 1, 2, 3, 4, 5] [0, 1, 2, 3] (fun g_ : Value × Value × Value × Value => .agg #[g_.1, g_.2.1, g_.2.2.1, g_.2.2.2, .int .i64 ((r).NextWrit), .int .i64 ((r).NextThing)]) (fun g_ : Value × Value × Value × Value => [Res.row 39 g_.1 ((r).Writs : List Writ), Res.row 74 g_.2.1 ((r).Things : List Thing), Res.row 93 g_.2.2.1 ((r).Held : List Held), Res.row 52 g_.2.2.2 ((r).Notes : List Note)]) §69 rfl rfl rfl eg_71 rfl rfl (fun w own hw H => copyO_any v_rW v_rT v_rH v_rN (r) w own H §64) rfl) ?_
      rintro ⟨z1, z2, z3, z4⟩
      dsimp only
      refine R.s rfl (s.stV (us := §56) (cs' := §56) 8 _ rfl rfl rfl (fun _ _ => rfl) (.inl tAgg_30) §12 rfl rfl rfl) fun _ => ?_
      refine R.nil ?_
      refine R.regD (fuel := 10) (Wd w (blks [] ++ own) [Res.row 39 z1 (r.Writs : List Writ), Res.row 74 z2 (r.Things : List Thing), Res.row 52 z4 (r.Notes : List Note), Res.box b5 §46 33, Res.box b4 §3 39, Res.box b3 §2 30, Res.box b2 §9 33, Res.held w own] §5) rfl mixed rfl ?_
      refine D.q (i := 0) rfl (by kernel_rfl) §51 rfl §34 rfl <| D.q (i := 2) rfl (by kernel_rfl) §51 rfl (q.ldS 6 rfl rfl tAgg_33) rfl <| D.q (i := 4) rfl (by kernel_rfl) §51 rfl (q.ldS 3 rfl rfl tAgg_33) rfl <| D.q (i := 5) rfl (by kernel_rfl) §51 rfl (q.fld (off' := 0) rfl tFld_39_0 rfl) rfl <| D.q (i := 6) rfl (by kernel_rfl) §51 rfl (q.ld 4 rfl rfl tOne_3 rfl) rfl <| ?_
      refine D.one (i := 1) (by kernel_rfl) rfl ?_
      refine Do.s (s.c (Qt.a (q.ld 8 rfl rfl tOne_27 rfl)) rfl) (fun _ => §51) rfl fun _ => ?_
      refine D.one (i := 3) (by kernel_rfl) rfl ?_
      refine Do.s (B' := (fun bz0_ : Value => [Res.row 93 bz0_ ((putH r.Held p 0) : List Held), Res.row 39 z1 (r.Writs : List Writ), Res.row 74 z2 (r.Things : List Thing), Res.row 52 z4 (r.Notes : List Note), Res.box b5 §46 33, Res.box b4 §3 39, Res.box b3 §2 30, Res.box b2 §9 33, Res.box b1 §56 30, Res.held w own])) (F' := (fun bz0_ : Value => [Res.ls z3 (r.Held : List Held), Res.ls v_rW (r.Writs : List Writ), Res.ls v_rT (r.Things : List Thing), Res.ls v_rH (r.Held : List Held), Res.ls v_rN (r.Notes : List Note)])) (s.pre (B2 := §14) (F2 := [Res.ls z3 (r.Held : List Held), Res.ls v_rW (r.Writs : List Writ), Res.ls v_rT (r.Things : List Thing), Res.ls v_rH (r.Held : List Held), Res.ls v_rN (r.Notes : List Note)]) (fun _ hw => hw.lendL 2 _ rfl rfl) (s.callV (B0 := []) (Br := §14) (F0 := [Res.ls z3 (r.Held : List Held)]) [0, 1, 2, 3, 4, 5, 6, 7, 8] [0] (fun bz0_ : Value => bz0_) (fun bz0_ : Value => [Res.row 93 bz0_ ((putH r.Held p 0) : List Held)]) (fun bz0_ : Value => []) rfl rfl rfl eg_73 rfl rfl (fun w own hw H => putG_any z3 (r.Held) (p) (0) w own H §37 §17) rfl)) (fun _ => (fun _ => Wd.pik [1, 2, 3, 4, 5, 6, 7, 9] [1, 2, 3, 4] rfl rfl rfl)) rfl fun z7 => ?_
      refine D.one (i := 7) (by kernel_rfl) rfl ?_
      refine Do.s (B' := (fun bz0_ : Value => [Res.row 93 bz0_ ((putH (putH r.Held p 0) §57 (((getR r p).1).ID)) : List Held), Res.row 39 z1 (r.Writs : List Writ), Res.row 74 z2 (r.Things : List Thing), Res.row 52 z4 (r.Notes : List Note), Res.box b5 §46 33, Res.box b4 §3 39, Res.box b3 §2 30, Res.box b2 §9 33, Res.box b1 §56 30, Res.held w own])) (F' := (fun bz0_ : Value => [Res.ls z7 (putH r.Held p 0 : List Held), Res.ls z3 (r.Held : List Held), Res.ls v_rW (r.Writs : List Writ), Res.ls v_rT (r.Things : List Thing), Res.ls v_rH (r.Held : List Held), Res.ls v_rN (r.Notes : List Note)])) (s.pre (B2 := §14) (F2 := [Res.ls z7 (putH r.Held p 0 : List Held), Res.ls z3 (r.Held : List Held), Res.ls v_rW (r.Writs : List Writ), Res.ls v_rT (r.Things : List Thing), Res.ls v_rH (r.Held : List Held), Res.ls v_rN (r.Notes : List Note)]) §63 (s.callV (B0 := []) (Br := §14) (F0 := [Res.ls z7 (putH r.Held p 0 : List Held)]) [0, 1, 2, 3, 4, 5, 6, 7, 8] [0] (fun bz0_ : Value => bz0_) (fun bz0_ : Value => [Res.row 93 bz0_ ((putH (putH r.Held p 0) §57 (((getR r p).1).ID)) : List Held)]) (fun bz0_ : Value => []) rfl rfl rfl eg_73 rfl rfl (fun w own hw H => putG_any z7 (putH r.Held p 0) (§57) (((getR r p).1).ID) w own H §37 §17) rfl)) (fun _ => (fun _ => Wd.pik [1, 2, 3, 4, 5, 6, 7, 9] [2, 3, 4, 5] rfl rfl rfl)) rfl fun z8 => ?_
      refine D.q (i := 8) rfl (by kernel_rfl) (fun _ => Wd.pik [1, 2, 3, 4, 5, 6, 7, 9] [2, 3, 4, 5] rfl rfl rfl) rfl §34 rfl <| ?_
      refine D.one (i := 9) (by kernel_rfl) rfl ?_
      refine Do.s (s.stV (us := [z8]) (cs' := §25) 8 _ rfl rfl rfl (fun w hw => Sl.cells1 §24) (.inr ⟨tOne_27, rfl⟩) §47 rfl rfl rfl) (fun _ => (fun _ => Wd.pik [1, 2, 3, 4, 5, 6, 7, 9] [2, 3, 4, 5] rfl rfl rfl)) rfl fun _ => ?_
      refine D.done (by kernel_rfl) <| ?_
      refine R.reg rfl <| R.q (q.ldS 8 rfl rfl tAgg_30) rfl <| ?_
      refine R.s rfl (s.stV (us := §25) (cs' := §25) 6 _ rfl rfl rfl (fun _ _ => rfl) (.inl tAgg_30) §35 rfl rfl rfl) fun _ => ?_
      refine R.u 1 rfl <| R.nil ?_
      refine R.mp (B' := [Res.row 93 z8 (putH (putH r.Held p 0) §57 (((getR r p).1).ID) : List Held), Res.row 74 z2 (r.Things : List Thing), Res.row 52 z4 (r.Notes : List Note), Res.box b5 §46 33, Res.box b4 §3 39, Res.box b3 §25 30, Res.box b2 §9 33, Res.box b1 §25 30, Res.held w own]) (fun _ hw => hw.lendL 1 _ rfl rfl) ?_
      refine R.mp (B' := [Res.row 93 z8 (putH (putH r.Held p 0) §57 (((getR r p).1).ID) : List Held), Res.row 52 z4 (r.Notes : List Note), Res.box b5 §46 33, Res.box b4 §3 39, Res.box b3 §25 30, Res.box b2 §9 33, Res.box b1 §25 30, Res.held w own]) (fun _ hw => hw.lendL 1 _ rfl rfl) ?_
      refine R.mp (B' := [Res.row 52 z4 (r.Notes : List Note), Res.box b5 §46 33, Res.box b4 §3 39, Res.box b3 §25 30, Res.box b2 §9 33, Res.box b1 §25 30, Res.held w own]) §63 ?_
      refine R.mp (B' := [Res.box b5 §46 33, Res.box b4 §3 39, Res.box b3 §25 30, Res.box b2 §9 33, Res.box b1 §25 30, Res.held w own]) §63 ?_
      have hz : moveR r p slot = ((⟨r.Writs, r.Things, putH (putH r.Held p 0) §57 (((getR r p).1).ID), r.Notes, r.NextWrit, r.NextThing⟩ : Realm), 0) := by (unfold moveR; rw [if_pos gz, if_pos fq]; (try rfl))
      rw [hz]
      exact R.w2 (z1, z2, z8, z4) [5] [3, 2, 1, 0] rfl Tryz.results55 (RV.cell 2 rfl rfl tAgg_30) (RV.tmp rfl) rfl rfl rfl (tup2 rfl rfl)

end Go.Proofs.YtpipachmngdegaaGreat
end
