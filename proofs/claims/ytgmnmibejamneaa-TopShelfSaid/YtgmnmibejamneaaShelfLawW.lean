/-
  The walks of the laws of chapter 4: places.
-/
import Derived.Test.YtgmnmibejamneaaShelfW
import Derived.Test.YtgmnmibejamneaaShelfLaw2
import Derived.Test.YtgmnmibejamneaaSameW
namespace Go.Proofs.Ytgmnmibejamneaa
open Go Go.RowKit
set_option linter.unusedVariables false
set_option linter.unusedSimpArgs false
set_option maxRecDepth 100000

set_option maxRecDepth 100000 in
theorem shelfSays_any (v_l : Value) (l : List Held) (p : Place) (id : Int) (w : World) (s_l : Sl w v_l l) : Calls Try.prog 7 #[v_l, .agg #[.int .i64 p.Holder, .int .i64 p.Slot], .int .i64 id] w fun e w' => e = .returned (.bool true) ∧ Ext w w' := by
  have b_l := s_l.lenle
  have o3 : (putH [] ⟨1, 2⟩ 5).length ≤ 1 := by rw [one_put]; simp
  have e0 : decide (placeFault p = placeFault p) = true := decide_eq_true rfl; have w0 := placeFault_01 p
  have o1 := one_at; have o2 := one_free
  refine R.enter (n := 113) (vs := [v_l, .agg #[.int .i64 p.Holder, .int .i64 p.Slot], .int .i64 id]) [] [(0, v_l), (1, .agg #[.int .i64 p.Holder, .int .i64 p.Slot]), (2, .int .i64 id)] Try.func7 rfl rfl rfl rfl ?_
  refine R.oldL s_l ?_
  refine R.reg rfl <| ?_
  refine R.s rfl (s.box (cs := [.int .i64 p.Holder, .int .i64 p.Slot]) rfl rfl rfl) fun b1 => ?_
  refine R.u 1 rfl <| R.nil ?_
  refine R.reg rfl <| R.q (q.build (cs := [.int .i64 1, .int .i64 2]) tB_47 rfl rfl) rfl <| ?_
  refine Rg.mp (fun _ hw => hw.nilL (α := Held)) ?_
  refine R.s (B' := (fun z0 : Value => [Res.row 99 z0 ((putH ([]) (⟨1, 2⟩ : Place) 5) : List Held), Res.box b1 [.int .i64 p.Holder, .int .i64 p.Slot] 47])) (F' := (fun z0 : Value => [Res.ls (.slice none 0 0) ([] : List Held), Res.ls v_l (l : List Held)])) rfl (s.callV (B0 := []) (Br := [Res.box b1 [.int .i64 p.Holder, .int .i64 p.Slot] 47]) (F0 := [Res.ls (.slice none 0 0) ([] : List Held)]) [0] [0] (fun z0 : Value => z0) (fun z0 : Value => [Res.row 99 z0 ((putH ([]) (⟨1, 2⟩ : Place) 5) : List Held)]) (fun z0 : Value => []) rfl rfl rfl eg_57 rfl rfl (fun w own hw H => put_any (.slice none 0 0) ([]) ((⟨1, 2⟩ : Place)) (5) w own H (by first | omega | assumption | (simp; done) | (simp; omega))) rfl) fun z1 => ?_
  refine R.u 1 rfl <| R.nil ?_
  refine R.reg rfl <| R.u 1 rfl <| R.q (q.build (cs := [.int .i64 1, .int .i64 2]) tB_47 rfl rfl) rfl <| R.c (q.call eg_58 rfl rfl (fun w hw => (atPlace_any _ (putH ([]) (⟨1, 2⟩ : Place) 5) ((⟨1, 2⟩ : Place)) w ((fun _ => Wd.row 0 rfl) w hw) (by first | omega | assumption | (simp; done) | (simp; omega))))) rfl <| ?_
  by_cases h1 : atH (putH ([]) (⟨1, 2⟩ : Place) 5) (⟨1, 2⟩ : Place) = 5
  · refine R.q (q.neq rfl rfl (bne_eq_false_iff_eq.2 (by omega))) rfl <| R.u 2 rfl <| R.cg rfl (q.call eg_59 rfl rfl (fun w hw => (free_any _ (putH ([]) (⟨1, 2⟩ : Place) 5) (1) w ((fun _ => Wd.row 0 rfl) w hw) (by first | omega | assumption | (simp; done) | (simp; omega))))) rfl <| ?_
    by_cases h2 : freeH (putH ([]) (⟨1, 2⟩ : Place) 5) 1 = 0
    · refine R.qg rfl (q.neq rfl rfl (bne_eq_false_iff_eq.2 (by omega))) rfl <| R.u 1 rfl <| R.nil ?_
      refine R.condF rfl rfl ?_
      refine R.reg rfl <| R.u 1 rfl <| ?_
      rcases Bool.eq_false_or_eq_true (goodHeld l) with h3 | h3
      · refine R.c (q.call eg_60 rfl rfl (fun w hw => (cv (congrArg Value.bool h3) (goodHeld_any _ (l) w ((fun _ => Wd.fls 1 rfl) w hw) )))) rfl <| R.u 1 rfl <| R.nil ?_
        refine R.condF rfl rfl ?_
        have hG := goodHeld_good ‹goodHeld l = true›; have hR := rise_of hG; have hL := good_len hG; have e1 := at_eq (p := p) hR; have e2 := free_eq (h := p.Holder) hR; have e3 := put_eq (p := p) (id := id) hR; have e4 := decide_eq_true e3
        by_cases h4 : atH l p = atRef l p
        · by_cases h5 : freeH l p.Holder = freeRef l p.Holder
          · refine R.regQ rfl mixed (by kernel_rfl) <| Q.q (q.ldS 1 rfl rfl tAgg_47) rfl <| Q.c (q.call eg_61 rfl rfl (fun w hw => (placeCheck_any (p) w  ))) rfl <| Q.q (q.ldS 1 rfl rfl tAgg_47) rfl <| Q.c (q.call eg_62 rfl rfl (fun w hw => (placeFaultRef_any (p) w  ))) rfl <| Q.c (q.call eg_16 rfl rfl (fun w hw => (cv (congrArg Value.bool e0) (same_any (placeFault p) (placeFault p) w  (by first | omega | (have := placeFault_01 _; omega)))))) rfl <| Q.u 3 rfl <| Q.qg rfl (q.ldS 1 rfl rfl tAgg_47) rfl <| Q.cg rfl (q.call eg_58 rfl rfl (fun w hw => (atPlace_any _ (l) (p) w ((fun _ => Wd.fls 1 rfl) w hw) (by first | omega | assumption | (simp; done) | (simp; omega))))) rfl <| Q.u 1 rfl <| Q.qg rfl (q.ldS 1 rfl rfl tAgg_47) rfl <| Q.cg rfl (q.call eg_63 rfl rfl (fun w hw => (atRef_any _ (l) (p) w ((fun _ => Wd.fls 1 rfl) w hw) ))) rfl <| Q.qg rfl (q.neq rfl rfl (bne_eq_false_iff_eq.2 (by omega))) rfl <| Q.u 3 rfl <| Q.qg rfl (q.fld (off' := 0) rfl tFld_47_0 rfl) rfl <| Q.qg rfl (q.ld 1 rfl rfl tOne_3 rfl) rfl <| Q.cg rfl (q.call eg_59 rfl rfl (fun w hw => (free_any _ (l) (p.Holder) w ((fun _ => Wd.fls 1 rfl) w hw) (by first | omega | assumption | (simp; done) | (simp; omega))))) rfl <| Q.u 1 rfl <| Q.qg rfl (q.fld (off' := 0) rfl tFld_47_0 rfl) rfl <| Q.qg rfl (q.ld 1 rfl rfl tOne_3 rfl) rfl <| Q.cg rfl (q.call eg_64 rfl rfl (fun w hw => (freeRef_any _ (l) (p.Holder) w ((fun _ => Wd.fls 1 rfl) w hw) ))) rfl <| Q.qg rfl (q.neq rfl rfl (bne_eq_false_iff_eq.2 (by omega))) rfl <| Q.u 1 rfl <| Q.nil ?_
            refine R.condF rfl rfl ?_
            refine R.reg rfl <| R.u 2 rfl <| ?_
            rcases whereH_cases l id with ⟨c1f, c1n⟩ | ⟨c1j, c1x, c1h, c1e, c1b, c1f⟩
            · refine R.c (q.call eg_65 rfl rfl (fun w hw => (cv (congrArg (fun r : Place × Bool => Value.tuple #[r.1.val, .bool r.2]) c1f) (where_any _ (l) (id) w ((fun _ => Wd.fls 1 rfl) w hw) )))) rfl <| R.u 3 rfl <| ?_
              refine R.s rfl (s.alloc (cs := [.int .i64 0, .int .i64 0]) tZero_47 rfl rfl) fun b2 => ?_
              refine R.s rfl (s.st (us := [.int .i64 0, .int .i64 0]) (cs' := [.int .i64 0, .int .i64 0]) 0 _ rfl rfl rfl rfl (.inl tAgg_47) rfl rfl rfl rfl) fun _ => ?_
              refine R.u 1 rfl <| R.nil ?_
              refine R.reg rfl <| R.u 1 rfl <| R.nil ?_
              refine R.loop (fun k : Nat => [(0, v_l), (2, .int .i64 id), (4, .pointer (some ⟨b1, 0, none⟩)), (8, .pointer (some ⟨b2, 0, none⟩)), (9, .bool false), (10, .int .i64 (k : Int))]) (fun k : Nat => [Res.box b2 [.int .i64 0, .int .i64 0] 47, Res.row 99 z1 (putH ([]) (⟨1, 2⟩ : Place) 5 : List Held), Res.box b1 [.int .i64 p.Holder, .int .i64 p.Slot] 47]) (fun k : Nat => [Res.ls (.slice none 0 0) ([] : List Held), Res.ls v_l (l : List Held)]) (fun k : Nat => k ≤ l.length ∧ ∀ (j : Nat) y, j < k → l[j]? = some y → ¬ y.Writ = id) (fun k : Nat => l.length - k) 0 rfl (by exact ⟨by omega, fun j x hj => absurd hj (Nat.not_lt_zero _)⟩) ⟨rfl, rfl, rfl, rfl, rfl, rfl, trivial⟩ (fun _ => Wd.pick [0, 1, 2] [0, 1] rfl rfl rfl) ?_
              rintro k ⟨hk, HA⟩
              refine R.reg rfl <| R.u 2 rfl <| R.q (q.len' (fun _ => Wd.fls 1 rfl) rfl Try.underlying89) rfl <| ?_
              by_cases h6 : k < l.length
              · refine R.q (q.lss rfl rfl (decide_eq_true (by omega))) rfl <| R.u 3 rfl <| ?_
                obtain ⟨x1, hx1⟩ : ∃ z, l[k]? = some z := ⟨_, List.getElem?_eq_getElem (by omega)⟩
                refine R.qg rfl (q.idx (i := k) (fun _ => Wd.fls 1 rfl) rfl rfl tSl_89 rfl hx1) rfl <| R.qg rfl (q.fldE (j' := 2) (fun _ => Wd.fls 1 rfl) hx1 rfl tFld_99_1 rfl) rfl <| R.qg rfl (q.ldE (fun _ => Wd.fls 1 rfl) hx1 rfl tOne_3 rfl) rfl <| R.u 1 rfl <| ?_
                by_cases h7 : x1.Writ = id
                · refine R.qg rfl (q.neq rfl rfl (bne_eq_false_iff_eq.2 (by omega))) rfl <| R.u 1 rfl <| R.nil ?_
                  refine R.condF rfl rfl ?_
                  refine R.regQ rfl mixed (by kernel_rfl) <| Q.u 3 rfl <| Q.q (q.len' (fun _ => Wd.fls 1 rfl) rfl Try.underlying89) rfl <| Q.q (q.lss rfl rfl (decide_eq_true (by omega))) rfl <| Q.q (q.neqB rfl rfl Try.underlying4) rfl <| Q.u 21 rfl <| Q.nil ?_
                  refine R.condT rfl rfl ?_
                  refine R.reg rfl <| R.u 1 rfl <| R.nil ?_
                  exact R.rv rfl Try.results7 rfl (rB (by (exfalso; first | omega | exact c1n _ (List.mem_of_getElem? hx1) (by omega) | exact HA c1j c1x (by have := (List.getElem?_eq_some_iff.1 c1h).1; omega) c1h c1e | exact ‹¬ (⟨0, 0⟩ : Place) = ⟨0, 0⟩› rfl | (rcases Nat.lt_trichotomy k c1j with hh | hh | hh; exact c1b k _ hh hx1 (by omega); subst hh; have hq := c1h.symm.trans hx1; injection hq with hq; subst hq; exact ‹¬ c1x.Place = c1x.Place› rfl; exact HA c1j c1x hh c1h c1e))))
                · refine R.qg rfl (q.neq rfl rfl (bne_iff_ne.2 (by omega))) rfl <| R.u 1 rfl <| R.nil ?_
                  refine R.condT rfl rfl ?_
                  refine R.reg rfl <| R.u 1 rfl <| R.q (q.add (r := ((k + 1 : Nat) : Int)) rfl rfl (wr (by omega))) rfl <| R.u 1 rfl <| R.nil ?_
                  refine R.back (k + 1) rfl (by (exact ⟨by omega, fun j x hj hx => if e : j = k then by subst e; rw [hx1] at hx; injection hx with hx; subst hx; assumption else HA j x (by omega) hx⟩)) (by omega) ⟨rfl, rfl, rfl, rfl, rfl, rfl, trivial⟩ (fun _ => Wd.pik [0, 1, 2] [0, 1] rfl rfl rfl)
              · refine R.q (q.lss rfl rfl (decide_eq_false (by omega))) rfl <| R.u 9 rfl <| R.nil ?_
                refine R.condF rfl rfl ?_
                by_cases h8 : (⟨0, 0⟩ : Place) = (⟨0, 0⟩ : Place)
                · refine R.regQ rfl mixed (by kernel_rfl) <| Q.u 3 rfl <| Q.q (q.len' (fun _ => Wd.fls 1 rfl) rfl Try.underlying89) rfl <| Q.q (q.lss rfl rfl (decide_eq_false (by omega))) rfl <| Q.q (q.neqB rfl rfl Try.underlying4) rfl <| Q.u 16 rfl <| Q.qg rfl (q.ldS 0 rfl rfl tAgg_47) rfl <| Q.qg rfl (q.build (cs := [.int .i64 0, .int .i64 0]) tB_47 rfl rfl) rfl <| Q.qg rfl (q.neqT1 (x := (⟨0, 0⟩ : Place)) (y := (⟨0, 0⟩ : Place)) eq_47 rfl rfl h8) rfl <| Q.u 2 rfl <| Q.nil ?_
                  refine R.condF rfl rfl ?_
                  by_cases h9 : 0 < placeFault p
                  · refine R.regQ rfl mixed (by kernel_rfl) <| Q.q (q.ldS 2 rfl rfl tAgg_47) rfl <| Q.c (q.call eg_62 rfl rfl (fun w hw => (placeFaultRef_any (p) w  ))) rfl <| Q.q (q.gtr rfl rfl (decide_eq_true (by omega))) rfl <| Q.u 12 rfl <| Q.nil ?_
                    exact R.rv rfl Try.results7 rfl (rB (by (first | rfl | (exfalso; omega))))
                  · refine R.regD (fuel := 15) (Wd w [] [Res.box b2 [.int .i64 0, .int .i64 0] 47, Res.row 99 z1 (putH ([]) (⟨1, 2⟩ : Place) 5 : List Held), Res.box b1 [.int .i64 p.Holder, .int .i64 p.Slot] 47] [Res.ls (.slice none 0 0) ([] : List Held), Res.ls v_l (l : List Held)]) rfl mixed rfl ?_
                    refine D.q (i := 0) rfl (by kernel_rfl) (fun _ => Wd.pick [0, 1, 2] [0, 1] rfl rfl rfl) rfl (q.ldS 2 rfl rfl tAgg_47) rfl <| ?_
                    refine D.one (i := 1) (by kernel_rfl) rfl ?_
                    refine Do.s (s.c (q.call eg_62 rfl rfl (fun w hw => (placeFaultRef_any (p) w  ))) rfl) (fun _ => (fun _ => Wd.pick [0, 1, 2] [0, 1] rfl rfl rfl)) rfl fun _ => ?_
                    refine D.q (i := 2) rfl (by kernel_rfl) (fun _ => Wd.pick [0, 1, 2] [0, 1] rfl rfl rfl) rfl (q.gtr rfl rfl (decide_eq_false (by omega))) rfl <| D.q (i := 3) rfl (by kernel_rfl) (fun _ => Wd.pick [0, 1, 2] [0, 1] rfl rfl rfl) rfl (q.mv rfl) rfl <| D.q (i := 4) rfl (by kernel_rfl) (fun _ => Wd.pick [0, 1, 2] [0, 1] rfl rfl rfl) rfl (q.mv rfl) rfl <| D.q (i := 5) rfl (by kernel_rfl) (fun _ => Wd.pick [0, 1, 2] [0, 1] rfl rfl rfl) rfl (q.ldS 2 rfl rfl tAgg_47) rfl <| D.q (i := 6) rfl (by kernel_rfl) (fun _ => Wd.pick [0, 1, 2] [0, 1] rfl rfl rfl) rfl (q.mv rfl) rfl <| D.q (i := 8) rfl (by kernel_rfl) (fun _ => Wd.pick [0, 1, 2] [0, 1] rfl rfl rfl) rfl (q.mv rfl) rfl <| D.q (i := 9) rfl (by kernel_rfl) (fun _ => Wd.pick [0, 1, 2] [0, 1] rfl rfl rfl) rfl (q.ldS 2 rfl rfl tAgg_47) rfl <| D.q (i := 10) rfl (by kernel_rfl) (fun _ => Wd.pick [0, 1, 2] [0, 1] rfl rfl rfl) rfl (q.mv rfl) rfl <| ?_
                    refine D.one (i := 7) (by kernel_rfl) rfl ?_
                    refine Do.s (B' := (fun z0 : Value => [Res.row 99 z0 ((putH l p id) : List Held), Res.box b2 [.int .i64 0, .int .i64 0] 47, Res.row 99 z1 (putH ([]) (⟨1, 2⟩ : Place) 5 : List Held), Res.box b1 [.int .i64 p.Holder, .int .i64 p.Slot] 47])) (F' := (fun z0 : Value => [Res.ls (.slice none 0 0) ([] : List Held), Res.ls v_l (l : List Held)])) (s.callV (B0 := []) (Br := [Res.box b2 [.int .i64 0, .int .i64 0] 47, Res.row 99 z1 (putH ([]) (⟨1, 2⟩ : Place) 5 : List Held), Res.box b1 [.int .i64 p.Holder, .int .i64 p.Slot] 47]) (F0 := [Res.ls v_l (l : List Held)]) [0, 1, 2] [1] (fun z0 : Value => z0) (fun z0 : Value => [Res.row 99 z0 ((putH l p id) : List Held)]) (fun z0 : Value => []) rfl rfl rfl eg_57 rfl rfl (fun w own hw H => put_any v_l (l) (p) (id) w own H (by first | omega | assumption | (simp; done) | (simp; omega))) rfl) (fun _ => (fun _ => Wd.pick [1, 2, 3] [0, 1] rfl rfl rfl)) rfl fun z4 => ?_
                    refine D.one (i := 11) (by kernel_rfl) rfl ?_
                    refine Do.s (B' := (fun z0 : Value => [Res.row 99 z0 ((putRef l p id) : List Held), Res.row 99 z4 (putH l p id : List Held), Res.box b2 [.int .i64 0, .int .i64 0] 47, Res.row 99 z1 (putH ([]) (⟨1, 2⟩ : Place) 5 : List Held), Res.box b1 [.int .i64 p.Holder, .int .i64 p.Slot] 47])) (F' := (fun z0 : Value => [Res.ls (.slice none 0 0) ([] : List Held), Res.ls v_l (l : List Held)])) (s.callV (B0 := []) (Br := [Res.row 99 z4 (putH l p id : List Held), Res.box b2 [.int .i64 0, .int .i64 0] 47, Res.row 99 z1 (putH ([]) (⟨1, 2⟩ : Place) 5 : List Held), Res.box b1 [.int .i64 p.Holder, .int .i64 p.Slot] 47]) (F0 := [Res.ls v_l (l : List Held)]) [0, 1, 2, 3] [1] (fun z0 : Value => z0) (fun z0 : Value => [Res.row 99 z0 ((putRef l p id) : List Held)]) (fun z0 : Value => []) rfl rfl rfl eg_67 rfl rfl (fun w own hw H => putRef_any v_l (l) (p) (id) w own H (by first | omega | assumption | (simp; done) | (simp; omega))) rfl) (fun _ => (fun _ => Wd.pick [2, 3, 4] [0, 1] rfl rfl rfl)) rfl fun z5 => ?_
                    refine D.one (i := 12) (by kernel_rfl) rfl ?_
                    refine Do.s (s.c (q.call eg_66 rfl rfl (fun w hw => (cv (congrArg Value.bool e4) (sameHeld_any _ (putH l p id) _ (putRef l p id) w ((fun _ => Wd.row 1 rfl) w hw) ((fun _ => Wd.row 0 rfl) w hw) )))) rfl) (fun _ => (fun _ => Wd.pick [2, 3, 4] [0, 1] rfl rfl rfl)) rfl fun _ => ?_
                    refine D.q (i := 13) rfl (by kernel_rfl) (fun _ => Wd.pick [2, 3, 4] [0, 1] rfl rfl rfl) rfl (q.pickF rfl rfl) rfl <| D.q (i := 14) rfl (by kernel_rfl) (fun _ => Wd.pick [2, 3, 4] [0, 1] rfl rfl rfl) rfl (q.as rfl) rfl <| D.done (by kernel_rfl) <| ?_
                    exact R.rv rfl Try.results7 rfl (rB (by (first | rfl | (exfalso; omega))))
                · refine R.regQ rfl mixed (by kernel_rfl) <| Q.u 3 rfl <| Q.q (q.len' (fun _ => Wd.fls 1 rfl) rfl Try.underlying89) rfl <| Q.q (q.lss rfl rfl (decide_eq_false (by omega))) rfl <| Q.q (q.neqB rfl rfl Try.underlying4) rfl <| Q.u 16 rfl <| Q.qg rfl (q.ldS 0 rfl rfl tAgg_47) rfl <| Q.qg rfl (q.build (cs := [.int .i64 0, .int .i64 0]) tB_47 rfl rfl) rfl <| Q.qg rfl (q.neqT0 (x := (⟨0, 0⟩ : Place)) (y := (⟨0, 0⟩ : Place)) eq_47 rfl rfl h8) rfl <| Q.u 2 rfl <| Q.nil ?_
                  refine R.condT rfl rfl ?_
                  refine R.reg rfl <| R.u 1 rfl <| R.nil ?_
                  exact R.rv rfl Try.results7 rfl (rB (by (exfalso; first | omega | exact c1n _ (List.mem_of_getElem? rfl) (by omega) | exact HA c1j c1x (by have := (List.getElem?_eq_some_iff.1 c1h).1; omega) c1h c1e | exact ‹¬ (⟨0, 0⟩ : Place) = ⟨0, 0⟩› rfl | (rcases Nat.lt_trichotomy k c1j with hh | hh | hh; exact c1b k _ hh rfl (by omega); subst hh; have hq := c1h.symm.trans rfl; injection hq with hq; subst hq; exact ‹¬ c1x.Place = c1x.Place› rfl; exact HA c1j c1x hh c1h c1e))))
            · refine R.c (q.call eg_65 rfl rfl (fun w hw => (cv (congrArg (fun r : Place × Bool => Value.tuple #[r.1.val, .bool r.2]) c1f) (where_any _ (l) (id) w ((fun _ => Wd.fls 1 rfl) w hw) )))) rfl <| R.u 3 rfl <| ?_
              refine R.s rfl (s.alloc (cs := [.int .i64 0, .int .i64 0]) tZero_47 rfl rfl) fun b3 => ?_
              refine R.s rfl (s.st (us := [.int .i64 c1x.Place.Holder, .int .i64 c1x.Place.Slot]) (cs' := [.int .i64 c1x.Place.Holder, .int .i64 c1x.Place.Slot]) 0 _ rfl rfl rfl rfl (.inl tAgg_47) rfl rfl rfl rfl) fun _ => ?_
              refine R.u 1 rfl <| R.nil ?_
              refine R.reg rfl <| R.u 1 rfl <| R.nil ?_
              refine R.loop (fun k : Nat => [(0, v_l), (2, .int .i64 id), (4, .pointer (some ⟨b1, 0, none⟩)), (8, .pointer (some ⟨b3, 0, none⟩)), (9, .bool true), (10, .int .i64 (k : Int))]) (fun k : Nat => [Res.box b3 [.int .i64 c1x.Place.Holder, .int .i64 c1x.Place.Slot] 47, Res.row 99 z1 (putH ([]) (⟨1, 2⟩ : Place) 5 : List Held), Res.box b1 [.int .i64 p.Holder, .int .i64 p.Slot] 47]) (fun k : Nat => [Res.ls (.slice none 0 0) ([] : List Held), Res.ls v_l (l : List Held)]) (fun k : Nat => k ≤ l.length ∧ ∀ (j : Nat) y, j < k → l[j]? = some y → ¬ y.Writ = id) (fun k : Nat => l.length - k) 0 rfl (by exact ⟨by omega, fun j x hj => absurd hj (Nat.not_lt_zero _)⟩) ⟨rfl, rfl, rfl, rfl, rfl, rfl, trivial⟩ (fun _ => Wd.pick [0, 1, 2] [0, 1] rfl rfl rfl) ?_
              rintro k ⟨hk, HA⟩
              refine R.reg rfl <| R.u 2 rfl <| R.q (q.len' (fun _ => Wd.fls 1 rfl) rfl Try.underlying89) rfl <| ?_
              by_cases h10 : k < l.length
              · refine R.q (q.lss rfl rfl (decide_eq_true (by omega))) rfl <| R.u 3 rfl <| ?_
                obtain ⟨x2, hx2⟩ : ∃ z, l[k]? = some z := ⟨_, List.getElem?_eq_getElem (by omega)⟩
                refine R.qg rfl (q.idx (i := k) (fun _ => Wd.fls 1 rfl) rfl rfl tSl_89 rfl hx2) rfl <| R.qg rfl (q.fldE (j' := 2) (fun _ => Wd.fls 1 rfl) hx2 rfl tFld_99_1 rfl) rfl <| R.qg rfl (q.ldE (fun _ => Wd.fls 1 rfl) hx2 rfl tOne_3 rfl) rfl <| R.u 1 rfl <| ?_
                by_cases h11 : x2.Writ = id
                · refine R.qg rfl (q.neq rfl rfl (bne_eq_false_iff_eq.2 (by omega))) rfl <| R.u 1 rfl <| R.nil ?_
                  refine R.condF rfl rfl ?_
                  by_cases h12 : c1x.Place = x2.Place
                  · refine R.regQ rfl mixed (by kernel_rfl) <| Q.u 3 rfl <| Q.q (q.len' (fun _ => Wd.fls 1 rfl) rfl Try.underlying89) rfl <| Q.q (q.lss rfl rfl (decide_eq_true (by omega))) rfl <| Q.q (q.neqB rfl rfl Try.underlying4) rfl <| Q.u 3 rfl <| Q.qg rfl (q.ldS 0 rfl rfl tAgg_47) rfl <| Q.u 2 rfl <| Q.qg rfl (q.idx (i := k) (fun _ => Wd.fls 1 rfl) rfl rfl tSl_89 rfl hx2) rfl <| Q.qg rfl (q.fldE (j' := 0) (fun _ => Wd.fls 1 rfl) hx2 rfl tFld_99_0 rfl) rfl <| Q.qg rfl (q.ldES (ds := [.int .i64 x2.Place.Holder, .int .i64 x2.Place.Slot]) (fun _ => Wd.fls 1 rfl) hx2 rfl tAgg_47 rfl) rfl <| Q.qg rfl (q.neqT1 (x := c1x.Place) (y := x2.Place) eq_47 rfl rfl h12) rfl <| Q.u 11 rfl <| Q.nil ?_
                    refine R.condF rfl rfl ?_
                    by_cases h13 : 0 < placeFault p
                    · refine R.regQ rfl mixed (by kernel_rfl) <| Q.q (q.ldS 2 rfl rfl tAgg_47) rfl <| Q.c (q.call eg_62 rfl rfl (fun w hw => (placeFaultRef_any (p) w  ))) rfl <| Q.q (q.gtr rfl rfl (decide_eq_true (by omega))) rfl <| Q.u 12 rfl <| Q.nil ?_
                      exact R.rv rfl Try.results7 rfl (rB (by (first | rfl | (exfalso; omega))))
                    · refine R.regD (fuel := 15) (Wd w [] [Res.box b3 [.int .i64 c1x.Place.Holder, .int .i64 c1x.Place.Slot] 47, Res.row 99 z1 (putH ([]) (⟨1, 2⟩ : Place) 5 : List Held), Res.box b1 [.int .i64 p.Holder, .int .i64 p.Slot] 47] [Res.ls (.slice none 0 0) ([] : List Held), Res.ls v_l (l : List Held)]) rfl mixed rfl ?_
                      refine D.q (i := 0) rfl (by kernel_rfl) (fun _ => Wd.pick [0, 1, 2] [0, 1] rfl rfl rfl) rfl (q.ldS 2 rfl rfl tAgg_47) rfl <| ?_
                      refine D.one (i := 1) (by kernel_rfl) rfl ?_
                      refine Do.s (s.c (q.call eg_62 rfl rfl (fun w hw => (placeFaultRef_any (p) w  ))) rfl) (fun _ => (fun _ => Wd.pick [0, 1, 2] [0, 1] rfl rfl rfl)) rfl fun _ => ?_
                      refine D.q (i := 2) rfl (by kernel_rfl) (fun _ => Wd.pick [0, 1, 2] [0, 1] rfl rfl rfl) rfl (q.gtr rfl rfl (decide_eq_false (by omega))) rfl <| D.q (i := 3) rfl (by kernel_rfl) (fun _ => Wd.pick [0, 1, 2] [0, 1] rfl rfl rfl) rfl (q.mv rfl) rfl <| D.q (i := 4) rfl (by kernel_rfl) (fun _ => Wd.pick [0, 1, 2] [0, 1] rfl rfl rfl) rfl (q.mv rfl) rfl <| D.q (i := 5) rfl (by kernel_rfl) (fun _ => Wd.pick [0, 1, 2] [0, 1] rfl rfl rfl) rfl (q.ldS 2 rfl rfl tAgg_47) rfl <| D.q (i := 6) rfl (by kernel_rfl) (fun _ => Wd.pick [0, 1, 2] [0, 1] rfl rfl rfl) rfl (q.mv rfl) rfl <| D.q (i := 8) rfl (by kernel_rfl) (fun _ => Wd.pick [0, 1, 2] [0, 1] rfl rfl rfl) rfl (q.mv rfl) rfl <| D.q (i := 9) rfl (by kernel_rfl) (fun _ => Wd.pick [0, 1, 2] [0, 1] rfl rfl rfl) rfl (q.ldS 2 rfl rfl tAgg_47) rfl <| D.q (i := 10) rfl (by kernel_rfl) (fun _ => Wd.pick [0, 1, 2] [0, 1] rfl rfl rfl) rfl (q.mv rfl) rfl <| ?_
                      refine D.one (i := 7) (by kernel_rfl) rfl ?_
                      refine Do.s (B' := (fun z0 : Value => [Res.row 99 z0 ((putH l p id) : List Held), Res.box b3 [.int .i64 c1x.Place.Holder, .int .i64 c1x.Place.Slot] 47, Res.row 99 z1 (putH ([]) (⟨1, 2⟩ : Place) 5 : List Held), Res.box b1 [.int .i64 p.Holder, .int .i64 p.Slot] 47])) (F' := (fun z0 : Value => [Res.ls (.slice none 0 0) ([] : List Held), Res.ls v_l (l : List Held)])) (s.callV (B0 := []) (Br := [Res.box b3 [.int .i64 c1x.Place.Holder, .int .i64 c1x.Place.Slot] 47, Res.row 99 z1 (putH ([]) (⟨1, 2⟩ : Place) 5 : List Held), Res.box b1 [.int .i64 p.Holder, .int .i64 p.Slot] 47]) (F0 := [Res.ls v_l (l : List Held)]) [0, 1, 2] [1] (fun z0 : Value => z0) (fun z0 : Value => [Res.row 99 z0 ((putH l p id) : List Held)]) (fun z0 : Value => []) rfl rfl rfl eg_57 rfl rfl (fun w own hw H => put_any v_l (l) (p) (id) w own H (by first | omega | assumption | (simp; done) | (simp; omega))) rfl) (fun _ => (fun _ => Wd.pick [1, 2, 3] [0, 1] rfl rfl rfl)) rfl fun z8 => ?_
                      refine D.one (i := 11) (by kernel_rfl) rfl ?_
                      refine Do.s (B' := (fun z0 : Value => [Res.row 99 z0 ((putRef l p id) : List Held), Res.row 99 z8 (putH l p id : List Held), Res.box b3 [.int .i64 c1x.Place.Holder, .int .i64 c1x.Place.Slot] 47, Res.row 99 z1 (putH ([]) (⟨1, 2⟩ : Place) 5 : List Held), Res.box b1 [.int .i64 p.Holder, .int .i64 p.Slot] 47])) (F' := (fun z0 : Value => [Res.ls (.slice none 0 0) ([] : List Held), Res.ls v_l (l : List Held)])) (s.callV (B0 := []) (Br := [Res.row 99 z8 (putH l p id : List Held), Res.box b3 [.int .i64 c1x.Place.Holder, .int .i64 c1x.Place.Slot] 47, Res.row 99 z1 (putH ([]) (⟨1, 2⟩ : Place) 5 : List Held), Res.box b1 [.int .i64 p.Holder, .int .i64 p.Slot] 47]) (F0 := [Res.ls v_l (l : List Held)]) [0, 1, 2, 3] [1] (fun z0 : Value => z0) (fun z0 : Value => [Res.row 99 z0 ((putRef l p id) : List Held)]) (fun z0 : Value => []) rfl rfl rfl eg_67 rfl rfl (fun w own hw H => putRef_any v_l (l) (p) (id) w own H (by first | omega | assumption | (simp; done) | (simp; omega))) rfl) (fun _ => (fun _ => Wd.pick [2, 3, 4] [0, 1] rfl rfl rfl)) rfl fun z9 => ?_
                      refine D.one (i := 12) (by kernel_rfl) rfl ?_
                      refine Do.s (s.c (q.call eg_66 rfl rfl (fun w hw => (cv (congrArg Value.bool e4) (sameHeld_any _ (putH l p id) _ (putRef l p id) w ((fun _ => Wd.row 1 rfl) w hw) ((fun _ => Wd.row 0 rfl) w hw) )))) rfl) (fun _ => (fun _ => Wd.pick [2, 3, 4] [0, 1] rfl rfl rfl)) rfl fun _ => ?_
                      refine D.q (i := 13) rfl (by kernel_rfl) (fun _ => Wd.pick [2, 3, 4] [0, 1] rfl rfl rfl) rfl (q.pickF rfl rfl) rfl <| D.q (i := 14) rfl (by kernel_rfl) (fun _ => Wd.pick [2, 3, 4] [0, 1] rfl rfl rfl) rfl (q.as rfl) rfl <| D.done (by kernel_rfl) <| ?_
                      exact R.rv rfl Try.results7 rfl (rB (by (first | rfl | (exfalso; omega))))
                  · refine R.regQ rfl mixed (by kernel_rfl) <| Q.u 3 rfl <| Q.q (q.len' (fun _ => Wd.fls 1 rfl) rfl Try.underlying89) rfl <| Q.q (q.lss rfl rfl (decide_eq_true (by omega))) rfl <| Q.q (q.neqB rfl rfl Try.underlying4) rfl <| Q.u 3 rfl <| Q.qg rfl (q.ldS 0 rfl rfl tAgg_47) rfl <| Q.u 2 rfl <| Q.qg rfl (q.idx (i := k) (fun _ => Wd.fls 1 rfl) rfl rfl tSl_89 rfl hx2) rfl <| Q.qg rfl (q.fldE (j' := 0) (fun _ => Wd.fls 1 rfl) hx2 rfl tFld_99_0 rfl) rfl <| Q.qg rfl (q.ldES (ds := [.int .i64 x2.Place.Holder, .int .i64 x2.Place.Slot]) (fun _ => Wd.fls 1 rfl) hx2 rfl tAgg_47 rfl) rfl <| Q.qg rfl (q.neqT0 (x := c1x.Place) (y := x2.Place) eq_47 rfl rfl h12) rfl <| Q.u 11 rfl <| Q.nil ?_
                    refine R.condT rfl rfl ?_
                    refine R.reg rfl <| R.u 1 rfl <| R.nil ?_
                    exact R.rv rfl Try.results7 rfl (rB (by (exfalso; first | omega | exact c1n _ (List.mem_of_getElem? hx2) (by omega) | exact HA c1j c1x (by have := (List.getElem?_eq_some_iff.1 c1h).1; omega) c1h c1e | exact ‹¬ (⟨0, 0⟩ : Place) = ⟨0, 0⟩› rfl | (rcases Nat.lt_trichotomy k c1j with hh | hh | hh; exact c1b k _ hh hx2 (by omega); subst hh; have hq := c1h.symm.trans hx2; injection hq with hq; subst hq; exact ‹¬ c1x.Place = c1x.Place› rfl; exact HA c1j c1x hh c1h c1e))))
                · refine R.qg rfl (q.neq rfl rfl (bne_iff_ne.2 (by omega))) rfl <| R.u 1 rfl <| R.nil ?_
                  refine R.condT rfl rfl ?_
                  refine R.reg rfl <| R.u 1 rfl <| R.q (q.add (r := ((k + 1 : Nat) : Int)) rfl rfl (wr (by omega))) rfl <| R.u 1 rfl <| R.nil ?_
                  refine R.back (k + 1) rfl (by (exact ⟨by omega, fun j x hj hx => if e : j = k then by subst e; rw [hx2] at hx; injection hx with hx; subst hx; assumption else HA j x (by omega) hx⟩)) (by omega) ⟨rfl, rfl, rfl, rfl, rfl, rfl, trivial⟩ (fun _ => Wd.pik [0, 1, 2] [0, 1] rfl rfl rfl)
              · refine R.q (q.lss rfl rfl (decide_eq_false (by omega))) rfl <| R.u 9 rfl <| R.nil ?_
                refine R.condF rfl rfl ?_
                refine R.regQ rfl mixed (by kernel_rfl) <| Q.u 3 rfl <| Q.q (q.len' (fun _ => Wd.fls 1 rfl) rfl Try.underlying89) rfl <| Q.q (q.lss rfl rfl (decide_eq_false (by omega))) rfl <| Q.q (q.neqB rfl rfl Try.underlying4) rfl <| Q.u 21 rfl <| Q.nil ?_
                refine R.condT rfl rfl ?_
                refine R.reg rfl <| R.u 1 rfl <| R.nil ?_
                exact R.rv rfl Try.results7 rfl (rB (by (exfalso; first | omega | exact c1n _ (List.mem_of_getElem? rfl) (by omega) | exact HA c1j c1x (by have := (List.getElem?_eq_some_iff.1 c1h).1; omega) c1h c1e | exact ‹¬ (⟨0, 0⟩ : Place) = ⟨0, 0⟩› rfl | (rcases Nat.lt_trichotomy k c1j with hh | hh | hh; exact c1b k _ hh rfl (by omega); subst hh; have hq := c1h.symm.trans rfl; injection hq with hq; subst hq; exact ‹¬ c1x.Place = c1x.Place› rfl; exact HA c1j c1x hh c1h c1e))))
          · refine R.regQ rfl mixed (by kernel_rfl) <| Q.q (q.ldS 1 rfl rfl tAgg_47) rfl <| Q.c (q.call eg_61 rfl rfl (fun w hw => (placeCheck_any (p) w  ))) rfl <| Q.q (q.ldS 1 rfl rfl tAgg_47) rfl <| Q.c (q.call eg_62 rfl rfl (fun w hw => (placeFaultRef_any (p) w  ))) rfl <| Q.c (q.call eg_16 rfl rfl (fun w hw => (cv (congrArg Value.bool e0) (same_any (placeFault p) (placeFault p) w  (by first | omega | (have := placeFault_01 _; omega)))))) rfl <| Q.u 3 rfl <| Q.qg rfl (q.ldS 1 rfl rfl tAgg_47) rfl <| Q.cg rfl (q.call eg_58 rfl rfl (fun w hw => (atPlace_any _ (l) (p) w ((fun _ => Wd.fls 1 rfl) w hw) (by first | omega | assumption | (simp; done) | (simp; omega))))) rfl <| Q.u 1 rfl <| Q.qg rfl (q.ldS 1 rfl rfl tAgg_47) rfl <| Q.cg rfl (q.call eg_63 rfl rfl (fun w hw => (atRef_any _ (l) (p) w ((fun _ => Wd.fls 1 rfl) w hw) ))) rfl <| Q.qg rfl (q.neq rfl rfl (bne_eq_false_iff_eq.2 (by omega))) rfl <| Q.u 3 rfl <| Q.qg rfl (q.fld (off' := 0) rfl tFld_47_0 rfl) rfl <| Q.qg rfl (q.ld 1 rfl rfl tOne_3 rfl) rfl <| Q.cg rfl (q.call eg_59 rfl rfl (fun w hw => (free_any _ (l) (p.Holder) w ((fun _ => Wd.fls 1 rfl) w hw) (by first | omega | assumption | (simp; done) | (simp; omega))))) rfl <| Q.u 1 rfl <| Q.qg rfl (q.fld (off' := 0) rfl tFld_47_0 rfl) rfl <| Q.qg rfl (q.ld 1 rfl rfl tOne_3 rfl) rfl <| Q.cg rfl (q.call eg_64 rfl rfl (fun w hw => (freeRef_any _ (l) (p.Holder) w ((fun _ => Wd.fls 1 rfl) w hw) ))) rfl <| Q.qg rfl (q.neq rfl rfl (bne_iff_ne.2 (by omega))) rfl <| Q.u 1 rfl <| Q.nil ?_
            refine R.condT rfl rfl ?_
            refine R.reg rfl <| R.u 1 rfl <| R.nil ?_
            exact R.rv rfl Try.results7 rfl (rB (by (first | rfl | (exfalso; omega))))
        · refine R.regQ rfl mixed (by kernel_rfl) <| Q.q (q.ldS 1 rfl rfl tAgg_47) rfl <| Q.c (q.call eg_61 rfl rfl (fun w hw => (placeCheck_any (p) w  ))) rfl <| Q.q (q.ldS 1 rfl rfl tAgg_47) rfl <| Q.c (q.call eg_62 rfl rfl (fun w hw => (placeFaultRef_any (p) w  ))) rfl <| Q.c (q.call eg_16 rfl rfl (fun w hw => (cv (congrArg Value.bool e0) (same_any (placeFault p) (placeFault p) w  (by first | omega | (have := placeFault_01 _; omega)))))) rfl <| Q.u 3 rfl <| Q.qg rfl (q.ldS 1 rfl rfl tAgg_47) rfl <| Q.cg rfl (q.call eg_58 rfl rfl (fun w hw => (atPlace_any _ (l) (p) w ((fun _ => Wd.fls 1 rfl) w hw) (by first | omega | assumption | (simp; done) | (simp; omega))))) rfl <| Q.u 1 rfl <| Q.qg rfl (q.ldS 1 rfl rfl tAgg_47) rfl <| Q.cg rfl (q.call eg_63 rfl rfl (fun w hw => (atRef_any _ (l) (p) w ((fun _ => Wd.fls 1 rfl) w hw) ))) rfl <| Q.qg rfl (q.neq rfl rfl (bne_iff_ne.2 (by omega))) rfl <| Q.u 12 rfl <| Q.nil ?_
          refine R.condT rfl rfl ?_
          refine R.reg rfl <| R.u 1 rfl <| R.nil ?_
          exact R.rv rfl Try.results7 rfl (rB (by (first | rfl | (exfalso; omega))))
      · refine R.c (q.call eg_60 rfl rfl (fun w hw => (cv (congrArg Value.bool h3) (goodHeld_any _ (l) w ((fun _ => Wd.fls 1 rfl) w hw) )))) rfl <| R.u 1 rfl <| R.nil ?_
        refine R.condT rfl rfl ?_
        refine R.reg rfl <| R.u 1 rfl <| R.nil ?_
        exact R.rv rfl Try.results7 rfl (rB (by (first | rfl | (exfalso; omega))))
    · refine R.qg rfl (q.neq rfl rfl (bne_iff_ne.2 (by omega))) rfl <| R.u 1 rfl <| R.nil ?_
      refine R.condT rfl rfl ?_
      refine R.reg rfl <| R.u 1 rfl <| R.nil ?_
      exact R.rv rfl Try.results7 rfl (rB (by (exfalso; omega)))
  · refine R.q (q.neq rfl rfl (bne_iff_ne.2 (by omega))) rfl <| R.u 5 rfl <| R.nil ?_
    refine R.condT rfl rfl ?_
    refine R.reg rfl <| R.u 1 rfl <| R.nil ?_
    exact R.rv rfl Try.results7 rfl (rB (by (exfalso; omega)))

set_option maxRecDepth 100000 in
theorem topShelf_any (v_l : Value) (l : List Held) (p : Place) (p2 : Place) (id : Int) (w : World) (s_l : Sl w v_l l) : Calls Try.prog 14 #[v_l, .agg #[.int .i64 p.Holder, .int .i64 p.Slot], .agg #[.int .i64 p2.Holder, .int .i64 p2.Slot], .int .i64 id] w fun e w' => e = .returned (.bool true) ∧ Ext w w' := by
  have b_l := s_l.lenle
  have o3 : (putH [] ⟨1, 2⟩ 5).length ≤ 1 := by rw [one_put]; simp
  have w0 := placeFault_01 p; have w1 := placeFault_01 p2
  have o1 := one_at; have o2 := one_free
  refine R.enter (n := 93) (vs := [v_l, .agg #[.int .i64 p.Holder, .int .i64 p.Slot], .agg #[.int .i64 p2.Holder, .int .i64 p2.Slot], .int .i64 id]) [] [(0, v_l), (1, .agg #[.int .i64 p.Holder, .int .i64 p.Slot]), (2, .agg #[.int .i64 p2.Holder, .int .i64 p2.Slot]), (3, .int .i64 id)] Try.func14 rfl rfl rfl rfl ?_
  refine R.oldL s_l ?_
  refine R.reg rfl <| ?_
  refine R.s rfl (s.box (cs := [.int .i64 p.Holder, .int .i64 p.Slot]) rfl rfl rfl) fun b1 => ?_
  refine R.s rfl (s.box (cs := [.int .i64 p2.Holder, .int .i64 p2.Slot]) rfl rfl rfl) fun b2 => ?_
  refine R.u 1 rfl <| R.nil ?_
  refine R.reg rfl <| R.q (q.build (cs := [.int .i64 1, .int .i64 2]) tB_47 rfl rfl) rfl <| ?_
  refine Rg.mp (fun _ hw => hw.nilL (α := Held)) ?_
  refine R.s (B' := (fun z0 : Value => [Res.row 99 z0 ((putH ([]) (⟨1, 2⟩ : Place) 5) : List Held), Res.box b2 [.int .i64 p2.Holder, .int .i64 p2.Slot] 47, Res.box b1 [.int .i64 p.Holder, .int .i64 p.Slot] 47])) (F' := (fun z0 : Value => [Res.ls (.slice none 0 0) ([] : List Held), Res.ls v_l (l : List Held)])) rfl (s.callV (B0 := []) (Br := [Res.box b2 [.int .i64 p2.Holder, .int .i64 p2.Slot] 47, Res.box b1 [.int .i64 p.Holder, .int .i64 p.Slot] 47]) (F0 := [Res.ls (.slice none 0 0) ([] : List Held)]) [0, 1] [0] (fun z0 : Value => z0) (fun z0 : Value => [Res.row 99 z0 ((putH ([]) (⟨1, 2⟩ : Place) 5) : List Held)]) (fun z0 : Value => []) rfl rfl rfl eg_57 rfl rfl (fun w own hw H => put_any (.slice none 0 0) ([]) ((⟨1, 2⟩ : Place)) (5) w own H (by first | omega | assumption | (simp; done) | (simp; omega))) rfl) fun z1 => ?_
  refine R.u 1 rfl <| R.nil ?_
  refine R.reg rfl <| R.u 1 rfl <| R.q (q.build (cs := [.int .i64 1, .int .i64 2]) tB_47 rfl rfl) rfl <| R.c (q.call eg_58 rfl rfl (fun w hw => (atPlace_any _ (putH ([]) (⟨1, 2⟩ : Place) 5) ((⟨1, 2⟩ : Place)) w ((fun _ => Wd.row 0 rfl) w hw) (by first | omega | assumption | (simp; done) | (simp; omega))))) rfl <| ?_
  by_cases h1 : atH (putH ([]) (⟨1, 2⟩ : Place) 5) (⟨1, 2⟩ : Place) = 5
  · refine R.q (q.neq rfl rfl (bne_eq_false_iff_eq.2 (by omega))) rfl <| R.u 2 rfl <| R.cg rfl (q.call eg_59 rfl rfl (fun w hw => (free_any _ (putH ([]) (⟨1, 2⟩ : Place) 5) (1) w ((fun _ => Wd.row 0 rfl) w hw) (by first | omega | assumption | (simp; done) | (simp; omega))))) rfl <| ?_
    by_cases h2 : freeH (putH ([]) (⟨1, 2⟩ : Place) 5) 1 = 0
    · refine R.qg rfl (q.neq rfl rfl (bne_eq_false_iff_eq.2 (by omega))) rfl <| R.u 1 rfl <| R.nil ?_
      refine R.condF rfl rfl ?_
      refine R.reg rfl <| R.u 1 rfl <| ?_
      rcases Bool.eq_false_or_eq_true (goodHeld l) with h3 | h3
      · refine R.c (q.call eg_60 rfl rfl (fun w hw => (cv (congrArg Value.bool h3) (goodHeld_any _ (l) w ((fun _ => Wd.fls 1 rfl) w hw) )))) rfl <| R.u 2 rfl <| R.qg rfl (q.ldS 2 rfl rfl tAgg_47) rfl <| R.cg rfl (q.call eg_61 rfl rfl (fun w hw => (placeCheck_any (p) w  ))) rfl <| ?_
        by_cases h4 : placeFault p = 0
        · refine R.qg rfl (q.neqE0 rfl rfl Try.underlying26 (by omega)) rfl <| R.u 2 rfl <| R.qg rfl (q.ldS 1 rfl rfl tAgg_47) rfl <| R.cg rfl (q.call eg_61 rfl rfl (fun w hw => (placeCheck_any (p2) w  ))) rfl <| ?_
          by_cases h5 : placeFault p2 = 0
          · refine R.qg rfl (q.neqE0 rfl rfl Try.underlying26 (by omega)) rfl <| R.u 1 rfl <| R.nil ?_
            refine R.condF rfl rfl ?_
            have hG := goodHeld_good ‹goodHeld l = true›; have hL := good_len hG; have hp0 : placeFault p = 0 := (by omega); have hz := placeFault_zero hp0
            have g5 := good_put (id := id) hG hp0; have e5 := goodHeld_yes g5; have e1 := put_at (id := id) hG hp0; have e2 := fun h => put_other (q := p2) (id := id) hG hp0 h; have e3 := putH_len l p id; have e4 := free_spec l p.Holder
            have hp2 : p = ⟨p.Holder, p.Slot⟩ := rfl
            refine R.reg rfl <| R.u 1 rfl <| R.q (q.ldS 2 rfl rfl tAgg_47) rfl <| R.u 1 rfl <| ?_
            refine R.s (B' := (fun z0 : Value => [Res.row 99 z0 ((putH l p id) : List Held), Res.row 99 z1 (putH ([]) (⟨1, 2⟩ : Place) 5 : List Held), Res.box b2 [.int .i64 p2.Holder, .int .i64 p2.Slot] 47, Res.box b1 [.int .i64 p.Holder, .int .i64 p.Slot] 47])) (F' := (fun z0 : Value => [Res.ls (.slice none 0 0) ([] : List Held), Res.ls v_l (l : List Held)])) rfl (s.callV (B0 := []) (Br := [Res.row 99 z1 (putH ([]) (⟨1, 2⟩ : Place) 5 : List Held), Res.box b2 [.int .i64 p2.Holder, .int .i64 p2.Slot] 47, Res.box b1 [.int .i64 p.Holder, .int .i64 p.Slot] 47]) (F0 := [Res.ls v_l (l : List Held)]) [0, 1, 2] [1] (fun z0 : Value => z0) (fun z0 : Value => [Res.row 99 z0 ((putH l p id) : List Held)]) (fun z0 : Value => []) rfl rfl rfl eg_57 rfl rfl (fun w own hw H => put_any v_l (l) (p) (id) w own H (by first | omega | assumption | (simp; done) | (simp; omega))) rfl) fun z2 => ?_
            refine R.u 1 rfl <| R.nil ?_
            by_cases h6 : atH (putH l p id) p = id
            · by_cases h7 : p2 = p
              · refine R.regQ rfl mixed (by kernel_rfl) <| Q.u 1 rfl <| Q.q (q.ldS 3 rfl rfl tAgg_47) rfl <| Q.c (q.call eg_58 rfl rfl (fun w hw => (atPlace_any _ (putH l p id) (p) w ((fun _ => Wd.row 0 rfl) w hw) (by first | omega | assumption | (simp; done) | (simp; omega))))) rfl <| Q.u 1 rfl <| Q.q (q.neq rfl rfl (bne_eq_false_iff_eq.2 (by omega))) rfl <| Q.u 1 rfl <| Q.qg rfl (q.ldS 2 rfl rfl tAgg_47) rfl <| Q.qg rfl (q.ldS 3 rfl rfl tAgg_47) rfl <| Q.qg rfl (q.neqT1 (x := p2) (y := p) eq_47 rfl rfl h7) rfl <| Q.u 12 rfl <| Q.cg rfl (q.call eg_60 rfl rfl (fun w hw => (cv (congrArg Value.bool e5) (goodHeld_any _ (putH l p id) w ((fun _ => Wd.row 0 rfl) w hw) )))) rfl <| Q.u 2 rfl <| Q.nil ?_
                refine R.condF rfl rfl ?_
                refine R.reg rfl <| R.u 1 rfl <| R.q (q.fld (off' := 0) rfl tFld_47_0 rfl) rfl <| R.q (q.ld 3 rfl rfl tOne_3 rfl) rfl <| R.c (q.call eg_59 rfl rfl (fun w hw => (free_any _ (l) (p.Holder) w ((fun _ => Wd.fls 1 rfl) w hw) (by first | omega | assumption | (simp; done) | (simp; omega))))) rfl <| R.u 1 rfl <| R.nil ?_
                refine R.reg rfl <| R.u 1 rfl <| ?_
                by_cases h8 : freeH l p.Holder < 0
                · refine R.q (q.lss rfl rfl (decide_eq_true (by omega))) rfl <| R.nil ?_
                  refine R.condT rfl rfl ?_
                  refine R.reg rfl <| R.u 1 rfl <| R.q (q.ldS 3 rfl rfl tAgg_47) rfl <| R.c (q.call eg_58 rfl rfl (fun w hw => (atPlace_any _ (l) (p) w ((fun _ => Wd.fls 1 rfl) w hw) (by first | omega | assumption | (simp; done) | (simp; omega))))) rfl <| ?_
                  by_cases h9 : atH l p = 0
                  · refine R.q (q.neq rfl rfl (bne_eq_false_iff_eq.2 (by omega))) rfl <| R.u 1 rfl <| R.nil ?_
                    exact R.rv rfl Try.results14 rfl (rB (by (first | rfl | (exfalso; rcases e4 with ⟨a1, a2⟩ | ⟨a1, a2⟩; exact a2 p.Slot (by omega) (by omega) (by assumption); omega))))
                  · refine R.q (q.neq rfl rfl (bne_iff_ne.2 (by omega))) rfl <| R.u 1 rfl <| R.nil ?_
                    exact R.rv rfl Try.results14 rfl (rB (by (first | rfl | (exfalso; rcases e4 with ⟨a1, a2⟩ | ⟨a1, a2⟩; exact a2 p.Slot (by omega) (by omega) (by assumption); omega))))
                · refine R.q (q.lss rfl rfl (decide_eq_false (by omega))) rfl <| R.nil ?_
                  refine R.condF rfl rfl ?_
                  refine R.reg rfl <| R.u 1 rfl <| R.q (q.fld (off' := 0) rfl tFld_47_0 rfl) rfl <| R.q (q.ld 3 rfl rfl tOne_3 rfl) rfl <| R.u 1 rfl <| R.q (q.build (cs := [.int .i64 p.Holder, .int .i64 (freeH l p.Holder)]) tB_47 rfl rfl) rfl <| R.c (q.call eg_58 rfl rfl (fun w hw => (atPlace_any _ (l) ((⟨p.Holder, freeH l p.Holder⟩ : Place)) w ((fun _ => Wd.fls 1 rfl) w hw) (by first | omega | assumption | (simp; done) | (simp; omega))))) rfl <| ?_
                  by_cases h10 : atH l (⟨p.Holder, freeH l p.Holder⟩ : Place) = 0
                  · refine R.q (q.eql rfl rfl (beq_iff_eq.2 (by omega))) rfl <| R.u 1 rfl <| R.qg rfl (q.fld (off' := 1) rfl tFld_47_1 rfl) rfl <| R.qg rfl (q.ld 3 rfl rfl tOne_3 rfl) rfl <| R.u 1 rfl <| ?_
                    by_cases h11 : p.Slot < freeH l p.Holder
                    · refine R.qg rfl (q.geq rfl rfl (decide_eq_false (by omega))) rfl <| R.u 2 rfl <| R.qg rfl (q.ldS 3 rfl rfl tAgg_47) rfl <| R.cg rfl (q.call eg_58 rfl rfl (fun w hw => (atPlace_any _ (l) (p) w ((fun _ => Wd.fls 1 rfl) w hw) (by first | omega | assumption | (simp; done) | (simp; omega))))) rfl <| ?_
                      by_cases h12 : atH l p = 0
                      · refine R.qg rfl (q.neq rfl rfl (bne_eq_false_iff_eq.2 (by omega))) rfl <| R.u 3 rfl <| R.nil ?_
                        exact R.rv rfl Try.results14 rfl (rB (by (first | rfl | (exfalso; rcases e4 with ⟨a1, a2⟩ | ⟨a1, a2, a3, a4⟩; omega; first | omega | exact a4 p.Slot (by omega) (by omega) (by assumption)))))
                      · refine R.qg rfl (q.neq rfl rfl (bne_iff_ne.2 (by omega))) rfl <| R.u 3 rfl <| R.nil ?_
                        exact R.rv rfl Try.results14 rfl (rB (by (first | rfl | (exfalso; rcases e4 with ⟨a1, a2⟩ | ⟨a1, a2, a3, a4⟩; omega; first | omega | exact a4 p.Slot (by omega) (by omega) (by assumption)))))
                    · refine R.qg rfl (q.geq rfl rfl (decide_eq_true (by omega))) rfl <| R.u 8 rfl <| R.nil ?_
                      exact R.rv rfl Try.results14 rfl (rB (by (first | rfl | (exfalso; rcases e4 with ⟨a1, a2⟩ | ⟨a1, a2, a3, a4⟩; omega; first | omega | exact a4 p.Slot (by omega) (by omega) (by assumption)))))
                  · refine R.q (q.eql rfl rfl (beq_eq_false_iff_ne.2 (by omega))) rfl <| R.u 13 rfl <| R.nil ?_
                    exact R.rv rfl Try.results14 rfl (rB (by (first | rfl | (exfalso; rcases e4 with ⟨a1, a2⟩ | ⟨a1, a2, a3, a4⟩; omega; first | omega | exact a4 p.Slot (by omega) (by omega) (by assumption)))))
              · by_cases h13 : atH (putH l p id) p2 = atH l p2
                · refine R.regQ rfl mixed (by kernel_rfl) <| Q.u 1 rfl <| Q.q (q.ldS 3 rfl rfl tAgg_47) rfl <| Q.c (q.call eg_58 rfl rfl (fun w hw => (atPlace_any _ (putH l p id) (p) w ((fun _ => Wd.row 0 rfl) w hw) (by first | omega | assumption | (simp; done) | (simp; omega))))) rfl <| Q.u 1 rfl <| Q.q (q.neq rfl rfl (bne_eq_false_iff_eq.2 (by omega))) rfl <| Q.u 1 rfl <| Q.qg rfl (q.ldS 2 rfl rfl tAgg_47) rfl <| Q.qg rfl (q.ldS 3 rfl rfl tAgg_47) rfl <| Q.qg rfl (q.neqT0 (x := p2) (y := p) eq_47 rfl rfl h7) rfl <| Q.u 2 rfl <| Q.qg rfl (q.ldS 2 rfl rfl tAgg_47) rfl <| Q.cg rfl (q.call eg_58 rfl rfl (fun w hw => (atPlace_any _ (putH l p id) (p2) w ((fun _ => Wd.row 0 rfl) w hw) (by first | omega | assumption | (simp; done) | (simp; omega))))) rfl <| Q.u 1 rfl <| Q.qg rfl (q.ldS 2 rfl rfl tAgg_47) rfl <| Q.cg rfl (q.call eg_58 rfl rfl (fun w hw => (atPlace_any _ (l) (p2) w ((fun _ => Wd.fls 1 rfl) w hw) (by first | omega | assumption | (simp; done) | (simp; omega))))) rfl <| Q.qg rfl (q.neq rfl rfl (bne_eq_false_iff_eq.2 (by omega))) rfl <| Q.u 4 rfl <| Q.cg rfl (q.call eg_60 rfl rfl (fun w hw => (cv (congrArg Value.bool e5) (goodHeld_any _ (putH l p id) w ((fun _ => Wd.row 0 rfl) w hw) )))) rfl <| Q.u 2 rfl <| Q.nil ?_
                  refine R.condF rfl rfl ?_
                  refine R.reg rfl <| R.u 1 rfl <| R.q (q.fld (off' := 0) rfl tFld_47_0 rfl) rfl <| R.q (q.ld 3 rfl rfl tOne_3 rfl) rfl <| R.c (q.call eg_59 rfl rfl (fun w hw => (free_any _ (l) (p.Holder) w ((fun _ => Wd.fls 1 rfl) w hw) (by first | omega | assumption | (simp; done) | (simp; omega))))) rfl <| R.u 1 rfl <| R.nil ?_
                  refine R.reg rfl <| R.u 1 rfl <| ?_
                  by_cases h14 : freeH l p.Holder < 0
                  · refine R.q (q.lss rfl rfl (decide_eq_true (by omega))) rfl <| R.nil ?_
                    refine R.condT rfl rfl ?_
                    refine R.reg rfl <| R.u 1 rfl <| R.q (q.ldS 3 rfl rfl tAgg_47) rfl <| R.c (q.call eg_58 rfl rfl (fun w hw => (atPlace_any _ (l) (p) w ((fun _ => Wd.fls 1 rfl) w hw) (by first | omega | assumption | (simp; done) | (simp; omega))))) rfl <| ?_
                    by_cases h15 : atH l p = 0
                    · refine R.q (q.neq rfl rfl (bne_eq_false_iff_eq.2 (by omega))) rfl <| R.u 1 rfl <| R.nil ?_
                      exact R.rv rfl Try.results14 rfl (rB (by (first | rfl | (exfalso; rcases e4 with ⟨a1, a2⟩ | ⟨a1, a2⟩; exact a2 p.Slot (by omega) (by omega) (by assumption); omega))))
                    · refine R.q (q.neq rfl rfl (bne_iff_ne.2 (by omega))) rfl <| R.u 1 rfl <| R.nil ?_
                      exact R.rv rfl Try.results14 rfl (rB (by (first | rfl | (exfalso; rcases e4 with ⟨a1, a2⟩ | ⟨a1, a2⟩; exact a2 p.Slot (by omega) (by omega) (by assumption); omega))))
                  · refine R.q (q.lss rfl rfl (decide_eq_false (by omega))) rfl <| R.nil ?_
                    refine R.condF rfl rfl ?_
                    refine R.reg rfl <| R.u 1 rfl <| R.q (q.fld (off' := 0) rfl tFld_47_0 rfl) rfl <| R.q (q.ld 3 rfl rfl tOne_3 rfl) rfl <| R.u 1 rfl <| R.q (q.build (cs := [.int .i64 p.Holder, .int .i64 (freeH l p.Holder)]) tB_47 rfl rfl) rfl <| R.c (q.call eg_58 rfl rfl (fun w hw => (atPlace_any _ (l) ((⟨p.Holder, freeH l p.Holder⟩ : Place)) w ((fun _ => Wd.fls 1 rfl) w hw) (by first | omega | assumption | (simp; done) | (simp; omega))))) rfl <| ?_
                    by_cases h16 : atH l (⟨p.Holder, freeH l p.Holder⟩ : Place) = 0
                    · refine R.q (q.eql rfl rfl (beq_iff_eq.2 (by omega))) rfl <| R.u 1 rfl <| R.qg rfl (q.fld (off' := 1) rfl tFld_47_1 rfl) rfl <| R.qg rfl (q.ld 3 rfl rfl tOne_3 rfl) rfl <| R.u 1 rfl <| ?_
                      by_cases h17 : p.Slot < freeH l p.Holder
                      · refine R.qg rfl (q.geq rfl rfl (decide_eq_false (by omega))) rfl <| R.u 2 rfl <| R.qg rfl (q.ldS 3 rfl rfl tAgg_47) rfl <| R.cg rfl (q.call eg_58 rfl rfl (fun w hw => (atPlace_any _ (l) (p) w ((fun _ => Wd.fls 1 rfl) w hw) (by first | omega | assumption | (simp; done) | (simp; omega))))) rfl <| ?_
                        by_cases h18 : atH l p = 0
                        · refine R.qg rfl (q.neq rfl rfl (bne_eq_false_iff_eq.2 (by omega))) rfl <| R.u 3 rfl <| R.nil ?_
                          exact R.rv rfl Try.results14 rfl (rB (by (first | rfl | (exfalso; rcases e4 with ⟨a1, a2⟩ | ⟨a1, a2, a3, a4⟩; omega; first | omega | exact a4 p.Slot (by omega) (by omega) (by assumption)))))
                        · refine R.qg rfl (q.neq rfl rfl (bne_iff_ne.2 (by omega))) rfl <| R.u 3 rfl <| R.nil ?_
                          exact R.rv rfl Try.results14 rfl (rB (by (first | rfl | (exfalso; rcases e4 with ⟨a1, a2⟩ | ⟨a1, a2, a3, a4⟩; omega; first | omega | exact a4 p.Slot (by omega) (by omega) (by assumption)))))
                      · refine R.qg rfl (q.geq rfl rfl (decide_eq_true (by omega))) rfl <| R.u 8 rfl <| R.nil ?_
                        exact R.rv rfl Try.results14 rfl (rB (by (first | rfl | (exfalso; rcases e4 with ⟨a1, a2⟩ | ⟨a1, a2, a3, a4⟩; omega; first | omega | exact a4 p.Slot (by omega) (by omega) (by assumption)))))
                    · refine R.q (q.eql rfl rfl (beq_eq_false_iff_ne.2 (by omega))) rfl <| R.u 13 rfl <| R.nil ?_
                      exact R.rv rfl Try.results14 rfl (rB (by (first | rfl | (exfalso; rcases e4 with ⟨a1, a2⟩ | ⟨a1, a2, a3, a4⟩; omega; first | omega | exact a4 p.Slot (by omega) (by omega) (by assumption)))))
                · refine R.regQ rfl mixed (by kernel_rfl) <| Q.u 1 rfl <| Q.q (q.ldS 3 rfl rfl tAgg_47) rfl <| Q.c (q.call eg_58 rfl rfl (fun w hw => (atPlace_any _ (putH l p id) (p) w ((fun _ => Wd.row 0 rfl) w hw) (by first | omega | assumption | (simp; done) | (simp; omega))))) rfl <| Q.u 1 rfl <| Q.q (q.neq rfl rfl (bne_eq_false_iff_eq.2 (by omega))) rfl <| Q.u 1 rfl <| Q.qg rfl (q.ldS 2 rfl rfl tAgg_47) rfl <| Q.qg rfl (q.ldS 3 rfl rfl tAgg_47) rfl <| Q.qg rfl (q.neqT0 (x := p2) (y := p) eq_47 rfl rfl h7) rfl <| Q.u 2 rfl <| Q.qg rfl (q.ldS 2 rfl rfl tAgg_47) rfl <| Q.cg rfl (q.call eg_58 rfl rfl (fun w hw => (atPlace_any _ (putH l p id) (p2) w ((fun _ => Wd.row 0 rfl) w hw) (by first | omega | assumption | (simp; done) | (simp; omega))))) rfl <| Q.u 1 rfl <| Q.qg rfl (q.ldS 2 rfl rfl tAgg_47) rfl <| Q.cg rfl (q.call eg_58 rfl rfl (fun w hw => (atPlace_any _ (l) (p2) w ((fun _ => Wd.fls 1 rfl) w hw) (by first | omega | assumption | (simp; done) | (simp; omega))))) rfl <| Q.qg rfl (q.neq rfl rfl (bne_iff_ne.2 (by omega))) rfl <| Q.u 7 rfl <| Q.nil ?_
                  refine R.condT rfl rfl ?_
                  refine R.reg rfl <| R.u 1 rfl <| R.nil ?_
                  exact R.rv rfl Try.results14 rfl (rB (by (exfalso; first | omega | (have := e2 (by assumption); omega))))
            · refine R.regQ rfl mixed (by kernel_rfl) <| Q.u 1 rfl <| Q.q (q.ldS 3 rfl rfl tAgg_47) rfl <| Q.c (q.call eg_58 rfl rfl (fun w hw => (atPlace_any _ (putH l p id) (p) w ((fun _ => Wd.row 0 rfl) w hw) (by first | omega | assumption | (simp; done) | (simp; omega))))) rfl <| Q.u 1 rfl <| Q.q (q.neq rfl rfl (bne_iff_ne.2 (by omega))) rfl <| Q.u 19 rfl <| Q.nil ?_
              refine R.condT rfl rfl ?_
              refine R.reg rfl <| R.u 1 rfl <| R.nil ?_
              exact R.rv rfl Try.results14 rfl (rB (by (exfalso; first | omega | (have := e2 (by assumption); omega))))
          · refine R.qg rfl (q.neqE1 rfl rfl Try.underlying26 (by omega)) rfl <| R.u 1 rfl <| R.nil ?_
            refine R.condT rfl rfl ?_
            refine R.reg rfl <| R.u 1 rfl <| R.nil ?_
            exact R.rv rfl Try.results14 rfl (rB (by (first | rfl | (exfalso; omega))))
        · refine R.qg rfl (q.neqE1 rfl rfl Try.underlying26 (by omega)) rfl <| R.u 6 rfl <| R.nil ?_
          refine R.condT rfl rfl ?_
          refine R.reg rfl <| R.u 1 rfl <| R.nil ?_
          exact R.rv rfl Try.results14 rfl (rB (by (first | rfl | (exfalso; omega))))
      · refine R.c (q.call eg_60 rfl rfl (fun w hw => (cv (congrArg Value.bool h3) (goodHeld_any _ (l) w ((fun _ => Wd.fls 1 rfl) w hw) )))) rfl <| R.u 11 rfl <| R.nil ?_
        refine R.condT rfl rfl ?_
        refine R.reg rfl <| R.u 1 rfl <| R.nil ?_
        exact R.rv rfl Try.results14 rfl (rB (by (first | rfl | (exfalso; omega))))
    · refine R.qg rfl (q.neq rfl rfl (bne_iff_ne.2 (by omega))) rfl <| R.u 1 rfl <| R.nil ?_
      refine R.condT rfl rfl ?_
      refine R.reg rfl <| R.u 1 rfl <| R.nil ?_
      exact R.rv rfl Try.results14 rfl (rB (by (exfalso; omega)))
  · refine R.q (q.neq rfl rfl (bne_iff_ne.2 (by omega))) rfl <| R.u 5 rfl <| R.nil ?_
    refine R.condT rfl rfl ?_
    refine R.reg rfl <| R.u 1 rfl <| R.nil ?_
    exact R.rv rfl Try.results14 rfl (rB (by (exfalso; omega)))

end Go.Proofs.Ytgmnmibejamneaa
