/-
  The walk of a law of the realm: each writ is held at one place, or is in one note.
-/
import Derived.Test.YtmbhcpaaaeobmaaActsW
import Derived.Test.YtmbhcpaaaeobmaaTopFacts
namespace Go.Proofs.Ytmbhcpaaaeobmaa
open Go Go.RowKit
set_option linter.unusedVariables false
set_option linter.unusedSimpArgs false
set_option maxRecDepth 100000

theorem cH_take {l : List Held} {k : Nat} {x : Held} (h : l[k]? = some x) (j : Int) : cH (l.take (k + 1)) j = cH (l.take k) j + (if x.Writ = j then 1 else 0) := by
  unfold cH; rw [List.take_add_one, h, List.countP_append]
  by_cases e : x.Writ = j
  · rw [if_pos e]; simp [e]
  · rw [if_neg e]; simp [e]
theorem cN_take {l : List Note} {k : Nat} {x : Note} (h : l[k]? = some x) (j : Int) : cN (l.take (k + 1)) j = cN (l.take k) j + (if x.Writ = j then 1 else 0) := by
  unfold cN; rw [List.take_add_one, h, List.countP_append]
  by_cases e : x.Writ = j
  · rw [if_pos e]; simp [e]
  · rw [if_neg e]; simp [e]
theorem at_one {α : Type} {l : List α} {k : Nat} {x y : α} (hx : l[k]? = some x) (hy : l[k]? = some y) : x = y := by rw [hx] at hy; injection hy
set_option maxRecDepth 100000 in
theorem topOnce_any (v_l : Value) (l : List Deed) (w : World) (s_l : Sl w v_l l) (c_l : ∀ x ∈ l, Sl w x.cv x.Changes) : Calls Try.prog 3 #[v_l] w fun e w' => e = .returned (.bool true) ∧ Ext w w' := by
  have b_l := s_l.lenle
  refine R.enter (n := 142) (vs := [v_l]) [] [(0, v_l)] Try.func3 rfl rfl rfl rfl ?_
  refine R.oldL s_l ?_
  refine R.oldF (r := Res.acts l) c_l (acts_lt c_l) ?_
  refine R.reg rfl <| R.u 1 rfl <| R.nil ?_
  refine R.reg rfl <| R.c (q.call eg_14 rfl rfl (fun w hw => (made_any  w  ))) rfl <| R.u 1 rfl <| R.nil ?_
  refine R.reg rfl <| R.u 2 rfl <| R.nil ?_
  refine R.condF rfl rfl ?_
  refine R.reg rfl <| R.u 1 rfl <| ?_
  refine R.s (B' := (fun g_ : Value × Value × Value × Value => [])) (F' := (fun g_ : Value × Value × Value × Value => [Res.ls g_.1 ((((grownR l)).1).Writs : List Writ), Res.ls g_.2.1 ((((grownR l)).1).Things : List Thing), Res.ls g_.2.2.1 ((((grownR l)).1).Held : List Held), Res.ls g_.2.2.2 ((((grownR l)).1).Notes : List Note), Res.acts l, Res.ls v_l (l : List Deed)])) rfl (s.callV (B0 := []) (Br := []) (F0 := [Res.ls v_l (l : List Deed), Res.acts l]) [] [1, 0] (fun g_ : Value × Value × Value × Value => .tuple #[.agg #[g_.1, g_.2.1, g_.2.2.1, g_.2.2.2, .int .i64 ((((grownR l)).1).NextWrit), .int .i64 ((((grownR l)).1).NextThing)], .bool (((grownR l)).2)]) (fun g_ : Value × Value × Value × Value => []) (fun g_ : Value × Value × Value × Value => [Res.ls g_.1 ((((grownR l)).1).Writs : List Writ), Res.ls g_.2.1 ((((grownR l)).1).Things : List Thing), Res.ls g_.2.2.1 ((((grownR l)).1).Held : List Held), Res.ls g_.2.2.2 ((((grownR l)).1).Notes : List Note)]) rfl rfl rfl eg_15 rfl rfl (fun w own hw H => grown_any v_l (l) w own H ) rfl) ?_
  rintro ⟨z1, z2, z3, z4⟩
  dsimp only
  refine R.u 3 rfl <| ?_
  refine R.s rfl (s.alloc (cs := [.slice none 0 0, .slice none 0 0, .slice none 0 0, .slice none 0 0, .int .i64 0, .int .i64 0]) tZero_29 rfl rfl) fun b1 => ?_
  refine R.s rfl (s.stV (us := [z1, z2, z3, z4, .int .i64 (((grownR l).1).NextWrit), .int .i64 (((grownR l).1).NextThing)]) (cs' := [z1, z2, z3, z4, .int .i64 (((grownR l).1).NextWrit), .int .i64 (((grownR l).1).NextThing)]) 0 _ rfl rfl rfl (fun _ _ => rfl) (.inl tAgg_29) (fun w hw => (one_cons (Sl.one ((fun _ => Wd.fls 0 rfl) w hw)) (one_cons (Sl.one ((fun _ => Wd.fls 1 rfl) w hw)) (one_cons (Sl.one ((fun _ => Wd.fls 2 rfl) w hw)) (one_cons (Sl.one ((fun _ => Wd.fls 3 rfl) w hw)) (one_cons rfl (one_cons rfl one_nil))))))) rfl rfl rfl) fun _ => ?_
  refine R.u 1 rfl <| R.nil ?_
  refine R.reg rfl <| R.u 1 rfl <| R.q (q.not rfl) rfl <| R.nil ?_
  refine R.cond rfl rfl (fun h1 => ?_) (fun h1 => ?_)
  · refine R.reg rfl <| R.u 1 rfl <| R.nil ?_
    exact R.rv rfl Try.results3 rfl (rB (by (first | rfl | (exfalso; omega))))
  · have hg := grown_facts (show (grownR l).2 = true from by first | assumption | (have hq := ‹(!(grownR l).2) = false›; simpa using hq)); have hI := hg.1; have hz := hg.2; have hk : Ok (grownR l).1 := hz.ok (by decide); have bw := hk.wl; have bt := hk.tl; have bh := hk.hl; have bn := hk.nl
    have fg := goodHeld_yes hI.good
    refine R.reg rfl <| R.q (q.fld (off' := 2) rfl tFld_29_2 rfl) rfl <| R.q (q.ld 0 rfl rfl tOne_26 rfl) rfl <| R.c (q.call eg_16 rfl rfl (fun w hw => (cv (congrArg Value.bool fg) (goodHeld_any _ (((grownR l).1).Held) w ((fun _ => Wd.fls 2 rfl) w hw) )))) rfl <| R.u 1 rfl <| R.nil ?_
    refine R.condF rfl rfl ?_
    refine R.reg rfl <| R.u 1 rfl <| R.nil ?_
    refine R.loop (fun k : Nat => [(4, .pointer (some ⟨b1, 0, none⟩)), (5, .int .i64 (k : Int))]) (fun k : Nat => [Res.box b1 [z1, z2, z3, z4, .int .i64 (((grownR l).1).NextWrit), .int .i64 (((grownR l).1).NextThing)] 29]) (fun k : Nat => [Res.ls z1 (((grownR l).1).Writs : List Writ), Res.ls z2 (((grownR l).1).Things : List Thing), Res.ls z3 (((grownR l).1).Held : List Held), Res.ls z4 (((grownR l).1).Notes : List Note), Res.acts l, Res.ls v_l (l : List Deed)]) (fun k : Nat => k ≤ (((grownR l).1).Writs).length) (fun k : Nat => (((grownR l).1).Writs).length - k) 0 rfl (by omega) ⟨rfl, rfl, trivial⟩ (fun _ => Wd.pick [0] [0, 1, 2, 3, 4, 5] rfl rfl rfl) ?_
    rintro k hk1
    refine R.reg rfl <| R.u 1 rfl <| R.q (q.fld (off' := 0) rfl tFld_29_0 rfl) rfl <| R.q (q.ld 0 rfl rfl tOne_24 rfl) rfl <| R.q (q.len' (fun _ => Wd.fls 0 rfl) rfl Try.underlying24) rfl <| ?_
    by_cases h2 : k < (((grownR l).1).Writs).length
    · refine R.q (q.lss rfl rfl (decide_eq_true (by omega))) rfl <| R.nil ?_
      refine R.condT rfl rfl ?_
      refine R.reg rfl <| R.u 1 rfl <| R.nil ?_
      refine R.reg rfl <| R.u 1 rfl <| R.nil ?_
      refine R.loop (fun g_ : Nat × Nat => [(4, .pointer (some ⟨b1, 0, none⟩)), (5, .int .i64 (k : Int)), (6, .int .i64 (g_.2 : Int)), (7, .int .i64 (g_.1 : Int))]) (fun g_ : Nat × Nat => [Res.box b1 [z1, z2, z3, z4, .int .i64 (((grownR l).1).NextWrit), .int .i64 (((grownR l).1).NextThing)] 29]) (fun g_ : Nat × Nat => [Res.ls z1 (((grownR l).1).Writs : List Writ), Res.ls z2 (((grownR l).1).Things : List Thing), Res.ls z3 (((grownR l).1).Held : List Held), Res.ls z4 (((grownR l).1).Notes : List Note), Res.acts l, Res.ls v_l (l : List Deed)]) (fun g_ : Nat × Nat => g_.1 ≤ (((grownR l).1).Held).length ∧ g_.2 ≤ g_.1 ∧ ∀ y, (((grownR l).1).Writs)[k]? = some y → g_.2 = cH ((((grownR l).1).Held).take g_.1) y.ID) (fun g_ : Nat × Nat => (((grownR l).1).Held).length - g_.1) (0, 0) rfl (by exact ⟨by omega, by omega, fun y hy => by simp [cH]⟩) ⟨rfl, rfl, rfl, rfl, trivial⟩ (fun _ => Wd.pick [0] [0, 1, 2, 3, 4, 5] rfl rfl rfl) ?_
      rintro ⟨m, c⟩ ⟨hm1, hm2, HC⟩
      dsimp only at *
      refine R.reg rfl <| R.u 1 rfl <| R.q (q.fld (off' := 2) rfl tFld_29_2 rfl) rfl <| R.q (q.ld 0 rfl rfl tOne_26 rfl) rfl <| R.q (q.len' (fun _ => Wd.fls 2 rfl) rfl Try.underlying26) rfl <| ?_
      by_cases h3 : m < (((grownR l).1).Held).length
      · refine R.q (q.lss rfl rfl (decide_eq_true (by omega))) rfl <| R.nil ?_
        refine R.condT rfl rfl ?_
        obtain ⟨x1, hx1⟩ : ∃ z, (((grownR l).1).Held)[m]? = some z := ⟨_, List.getElem?_eq_getElem (by omega)⟩
        obtain ⟨x2, hx2⟩ : ∃ z, (((grownR l).1).Writs)[k]? = some z := ⟨_, List.getElem?_eq_getElem (by omega)⟩
        by_cases h4 : x1.Writ = x2.ID
        · refine R.regQ rfl mixed (by kernel_rfl) <| Q.q (q.fld (off' := 2) rfl tFld_29_2 rfl) rfl <| Q.q (q.ld 0 rfl rfl tOne_26 rfl) rfl <| Q.u 1 rfl <| Q.q (q.idx (i := m) (fun _ => Wd.fls 2 rfl) rfl rfl tSl_26 rfl hx1) rfl <| Q.q (q.fldE (j' := 2) (fun _ => Wd.fls 2 rfl) hx1 rfl tFld_36_1 rfl) rfl <| Q.q (q.ldE (fun _ => Wd.fls 2 rfl) hx1 rfl tOne_3 rfl) rfl <| Q.q (q.fld (off' := 0) rfl tFld_29_0 rfl) rfl <| Q.q (q.ld 0 rfl rfl tOne_24 rfl) rfl <| Q.u 1 rfl <| Q.q (q.idx (i := k) (fun _ => Wd.fls 0 rfl) rfl rfl tSl_24 rfl hx2) rfl <| Q.q (q.fldE (j' := 0) (fun _ => Wd.fls 0 rfl) hx2 rfl tFld_38_0 rfl) rfl <| Q.q (q.ldE (fun _ => Wd.fls 0 rfl) hx2 rfl tOne_3 rfl) rfl <| Q.q (q.eql rfl rfl (beq_iff_eq.2 (by omega))) rfl <| Q.nil ?_
          refine R.condT rfl rfl ?_
          refine R.reg rfl <| R.u 1 rfl <| R.q (q.add (r := ((c + 1 : Nat) : Int)) rfl rfl (wr (by omega))) rfl <| R.u 1 rfl <| R.nil ?_
          refine R.reg rfl <| R.u 1 rfl <| R.q (q.add (r := ((m + 1 : Nat) : Int)) rfl rfl (wr (by omega))) rfl <| R.u 1 rfl <| R.nil ?_
          refine R.back ((m + 1), (c + 1)) rfl (by (exact ⟨by omega, by omega, fun y hy => by rw [cH_take hx1, ← at_one hx2 hy, if_pos (by omega)]; have := HC _ hx2; omega⟩)) (by dsimp only; omega) ⟨rfl, rfl, rfl, rfl, trivial⟩ (fun _ => Wd.pik [0] [0, 1, 2, 3, 4, 5] rfl rfl rfl)
        · refine R.regQ rfl mixed (by kernel_rfl) <| Q.q (q.fld (off' := 2) rfl tFld_29_2 rfl) rfl <| Q.q (q.ld 0 rfl rfl tOne_26 rfl) rfl <| Q.u 1 rfl <| Q.q (q.idx (i := m) (fun _ => Wd.fls 2 rfl) rfl rfl tSl_26 rfl hx1) rfl <| Q.q (q.fldE (j' := 2) (fun _ => Wd.fls 2 rfl) hx1 rfl tFld_36_1 rfl) rfl <| Q.q (q.ldE (fun _ => Wd.fls 2 rfl) hx1 rfl tOne_3 rfl) rfl <| Q.q (q.fld (off' := 0) rfl tFld_29_0 rfl) rfl <| Q.q (q.ld 0 rfl rfl tOne_24 rfl) rfl <| Q.u 1 rfl <| Q.q (q.idx (i := k) (fun _ => Wd.fls 0 rfl) rfl rfl tSl_24 rfl hx2) rfl <| Q.q (q.fldE (j' := 0) (fun _ => Wd.fls 0 rfl) hx2 rfl tFld_38_0 rfl) rfl <| Q.q (q.ldE (fun _ => Wd.fls 0 rfl) hx2 rfl tOne_3 rfl) rfl <| Q.q (q.eql rfl rfl (beq_eq_false_iff_ne.2 (by omega))) rfl <| Q.nil ?_
          refine R.condF rfl rfl ?_
          refine R.reg rfl <| R.u 1 rfl <| R.q (q.add (r := ((m + 1 : Nat) : Int)) rfl rfl (wr (by omega))) rfl <| R.u 1 rfl <| R.nil ?_
          refine R.back ((m + 1), c) rfl (by (exact ⟨by omega, by omega, fun y hy => by rw [cH_take hx1, ← at_one hx2 hy, if_neg (by omega)]; have := HC _ hx2; omega⟩)) (by dsimp only; omega) ⟨rfl, rfl, rfl, rfl, trivial⟩ (fun _ => Wd.pik [0] [0, 1, 2, 3, 4, 5] rfl rfl rfl)
      · refine R.q (q.lss rfl rfl (decide_eq_false (by omega))) rfl <| R.nil ?_
        refine R.condF rfl rfl ?_
        refine R.reg rfl <| R.u 1 rfl <| R.nil ?_
        refine R.loop (fun g_ : Nat × Nat => [(4, .pointer (some ⟨b1, 0, none⟩)), (5, .int .i64 (k : Int)), (6, .int .i64 (g_.2 : Int)), (8, .int .i64 (g_.1 : Int))]) (fun g_ : Nat × Nat => [Res.box b1 [z1, z2, z3, z4, .int .i64 (((grownR l).1).NextWrit), .int .i64 (((grownR l).1).NextThing)] 29]) (fun g_ : Nat × Nat => [Res.ls z1 (((grownR l).1).Writs : List Writ), Res.ls z2 (((grownR l).1).Things : List Thing), Res.ls z3 (((grownR l).1).Held : List Held), Res.ls z4 (((grownR l).1).Notes : List Note), Res.acts l, Res.ls v_l (l : List Deed)]) (fun g_ : Nat × Nat => g_.1 ≤ (((grownR l).1).Notes).length ∧ g_.2 ≤ (((grownR l).1).Held).length + g_.1 ∧ ∀ y, (((grownR l).1).Writs)[k]? = some y → g_.2 = cH (((grownR l).1).Held) y.ID + cN ((((grownR l).1).Notes).take g_.1) y.ID) (fun g_ : Nat × Nat => (((grownR l).1).Notes).length - g_.1) (0, c) rfl (by exact ⟨by omega, by omega, fun y hy => by have := HC y hy; rw [List.take_of_length_le (by omega)] at this; simp [cN]; exact this⟩) ⟨rfl, rfl, rfl, rfl, trivial⟩ (fun _ => Wd.pick [0] [0, 1, 2, 3, 4, 5] rfl rfl rfl) ?_
        rintro ⟨m2, c2⟩ ⟨hn1, hn2, HN⟩
        dsimp only at *
        refine R.reg rfl <| R.u 1 rfl <| R.q (q.fld (off' := 3) rfl tFld_29_3 rfl) rfl <| R.q (q.ld 0 rfl rfl tOne_27 rfl) rfl <| R.q (q.len' (fun _ => Wd.fls 3 rfl) rfl Try.underlying27) rfl <| ?_
        by_cases h5 : m2 < (((grownR l).1).Notes).length
        · refine R.q (q.lss rfl rfl (decide_eq_true (by omega))) rfl <| R.nil ?_
          refine R.condT rfl rfl ?_
          obtain ⟨x3, hx3⟩ : ∃ z, (((grownR l).1).Notes)[m2]? = some z := ⟨_, List.getElem?_eq_getElem (by omega)⟩
          obtain ⟨x4, hx4⟩ : ∃ z, (((grownR l).1).Writs)[k]? = some z := ⟨_, List.getElem?_eq_getElem (by omega)⟩
          by_cases h6 : x3.Writ = x4.ID
          · refine R.regQ rfl mixed (by kernel_rfl) <| Q.q (q.fld (off' := 3) rfl tFld_29_3 rfl) rfl <| Q.q (q.ld 0 rfl rfl tOne_27 rfl) rfl <| Q.u 1 rfl <| Q.q (q.idx (i := m2) (fun _ => Wd.fls 3 rfl) rfl rfl tSl_27 rfl hx3) rfl <| Q.q (q.fldE (j' := 3) (fun _ => Wd.fls 3 rfl) hx3 rfl tFld_40_3 rfl) rfl <| Q.q (q.ldE (fun _ => Wd.fls 3 rfl) hx3 rfl tOne_3 rfl) rfl <| Q.q (q.fld (off' := 0) rfl tFld_29_0 rfl) rfl <| Q.q (q.ld 0 rfl rfl tOne_24 rfl) rfl <| Q.u 1 rfl <| Q.q (q.idx (i := k) (fun _ => Wd.fls 0 rfl) rfl rfl tSl_24 rfl hx4) rfl <| Q.q (q.fldE (j' := 0) (fun _ => Wd.fls 0 rfl) hx4 rfl tFld_38_0 rfl) rfl <| Q.q (q.ldE (fun _ => Wd.fls 0 rfl) hx4 rfl tOne_3 rfl) rfl <| Q.q (q.eql rfl rfl (beq_iff_eq.2 (by omega))) rfl <| Q.nil ?_
            refine R.condT rfl rfl ?_
            refine R.reg rfl <| R.u 1 rfl <| R.q (q.add (r := ((c2 + 1 : Nat) : Int)) rfl rfl (wr (by omega))) rfl <| R.u 1 rfl <| R.nil ?_
            refine R.reg rfl <| R.u 1 rfl <| R.q (q.add (r := ((m2 + 1 : Nat) : Int)) rfl rfl (wr (by omega))) rfl <| R.u 1 rfl <| R.nil ?_
            refine R.back ((m2 + 1), (c2 + 1)) rfl (by (exact ⟨by omega, by omega, fun y hy => by rw [cN_take hx3, ← at_one hx4 hy, if_pos (by omega)]; have := HN _ hx4; omega⟩)) (by dsimp only; omega) ⟨rfl, rfl, rfl, rfl, trivial⟩ (fun _ => Wd.pik [0] [0, 1, 2, 3, 4, 5] rfl rfl rfl)
          · refine R.regQ rfl mixed (by kernel_rfl) <| Q.q (q.fld (off' := 3) rfl tFld_29_3 rfl) rfl <| Q.q (q.ld 0 rfl rfl tOne_27 rfl) rfl <| Q.u 1 rfl <| Q.q (q.idx (i := m2) (fun _ => Wd.fls 3 rfl) rfl rfl tSl_27 rfl hx3) rfl <| Q.q (q.fldE (j' := 3) (fun _ => Wd.fls 3 rfl) hx3 rfl tFld_40_3 rfl) rfl <| Q.q (q.ldE (fun _ => Wd.fls 3 rfl) hx3 rfl tOne_3 rfl) rfl <| Q.q (q.fld (off' := 0) rfl tFld_29_0 rfl) rfl <| Q.q (q.ld 0 rfl rfl tOne_24 rfl) rfl <| Q.u 1 rfl <| Q.q (q.idx (i := k) (fun _ => Wd.fls 0 rfl) rfl rfl tSl_24 rfl hx4) rfl <| Q.q (q.fldE (j' := 0) (fun _ => Wd.fls 0 rfl) hx4 rfl tFld_38_0 rfl) rfl <| Q.q (q.ldE (fun _ => Wd.fls 0 rfl) hx4 rfl tOne_3 rfl) rfl <| Q.q (q.eql rfl rfl (beq_eq_false_iff_ne.2 (by omega))) rfl <| Q.nil ?_
            refine R.condF rfl rfl ?_
            refine R.reg rfl <| R.u 1 rfl <| R.q (q.add (r := ((m2 + 1 : Nat) : Int)) rfl rfl (wr (by omega))) rfl <| R.u 1 rfl <| R.nil ?_
            refine R.back ((m2 + 1), c2) rfl (by (exact ⟨by omega, by omega, fun y hy => by rw [cN_take hx3, ← at_one hx4 hy, if_neg (by omega)]; have := HN _ hx4; omega⟩)) (by dsimp only; omega) ⟨rfl, rfl, rfl, rfl, trivial⟩ (fun _ => Wd.pik [0] [0, 1, 2, 3, 4, 5] rfl rfl rfl)
        · refine R.q (q.lss rfl rfl (decide_eq_false (by omega))) rfl <| R.nil ?_
          refine R.condF rfl rfl ?_
          by_cases h7 : c2 = 1
          · obtain ⟨x5, hx5⟩ : ∃ z, (((grownR l).1).Writs)[k]? = some z := ⟨_, List.getElem?_eq_getElem (by omega)⟩
            by_cases h8 : x5.ID < ((grownR l).1).NextWrit
            · refine R.regQ rfl mixed (by kernel_rfl) <| Q.u 1 rfl <| Q.q (q.neq rfl rfl (bne_eq_false_iff_eq.2 (by omega))) rfl <| Q.u 1 rfl <| Q.qg rfl (q.fld (off' := 0) rfl tFld_29_0 rfl) rfl <| Q.qg rfl (q.ld 0 rfl rfl tOne_24 rfl) rfl <| Q.u 1 rfl <| Q.qg rfl (q.idx (i := k) (fun _ => Wd.fls 0 rfl) rfl rfl tSl_24 rfl hx5) rfl <| Q.qg rfl (q.fldE (j' := 0) (fun _ => Wd.fls 0 rfl) hx5 rfl tFld_38_0 rfl) rfl <| Q.qg rfl (q.ldE (fun _ => Wd.fls 0 rfl) hx5 rfl tOne_3 rfl) rfl <| Q.qg rfl (q.fld (off' := 4) rfl tFld_29_4 rfl) rfl <| Q.qg rfl (q.ld 0 rfl rfl tOne_3 rfl) rfl <| Q.qg rfl (q.geq rfl rfl (decide_eq_false (by omega))) rfl <| Q.u 1 rfl <| Q.nil ?_
              refine R.condF rfl rfl ?_
              refine R.reg rfl <| R.u 1 rfl <| R.q (q.add (r := ((k + 1 : Nat) : Int)) rfl rfl (wr (by omega))) rfl <| R.u 1 rfl <| R.nil ?_
              refine R.back (k + 1) rfl (by (omega)) (by omega) ⟨rfl, rfl, trivial⟩ (fun _ => Wd.pik [0] [0, 1, 2, 3, 4, 5] rfl rfl rfl)
            · refine R.regQ rfl mixed (by kernel_rfl) <| Q.u 1 rfl <| Q.q (q.neq rfl rfl (bne_eq_false_iff_eq.2 (by omega))) rfl <| Q.u 1 rfl <| Q.qg rfl (q.fld (off' := 0) rfl tFld_29_0 rfl) rfl <| Q.qg rfl (q.ld 0 rfl rfl tOne_24 rfl) rfl <| Q.u 1 rfl <| Q.qg rfl (q.idx (i := k) (fun _ => Wd.fls 0 rfl) rfl rfl tSl_24 rfl hx5) rfl <| Q.qg rfl (q.fldE (j' := 0) (fun _ => Wd.fls 0 rfl) hx5 rfl tFld_38_0 rfl) rfl <| Q.qg rfl (q.ldE (fun _ => Wd.fls 0 rfl) hx5 rfl tOne_3 rfl) rfl <| Q.qg rfl (q.fld (off' := 4) rfl tFld_29_4 rfl) rfl <| Q.qg rfl (q.ld 0 rfl rfl tOne_3 rfl) rfl <| Q.qg rfl (q.geq rfl rfl (decide_eq_true (by omega))) rfl <| Q.u 1 rfl <| Q.nil ?_
              refine R.condT rfl rfl ?_
              refine R.reg rfl <| R.u 1 rfl <| R.nil ?_
              exact R.rv rfl Try.results3 rfl (rB (by (exfalso; obtain ⟨y, hy⟩ : ∃ y, (((grownR l).1).Writs)[k]? = some y := ⟨_, List.getElem?_eq_getElem (by omega)⟩; have q1 := HN y hy; rw [List.take_of_length_le (by omega)] at q1; have q2 := hI.once y (List.mem_of_getElem? hy); have q3 := hI.wlt y (List.mem_of_getElem? hy); first | omega | (have q4 := at_one hx5 hy; subst q4; omega))))
          · refine R.regQ rfl mixed (by kernel_rfl) <| Q.u 1 rfl <| Q.q (q.neq rfl rfl (bne_iff_ne.2 (by omega))) rfl <| Q.u 11 rfl <| Q.nil ?_
            refine R.condT rfl rfl ?_
            refine R.reg rfl <| R.u 1 rfl <| R.nil ?_
            exact R.rv rfl Try.results3 rfl (rB (by (exfalso; obtain ⟨y, hy⟩ : ∃ y, (((grownR l).1).Writs)[k]? = some y := ⟨_, List.getElem?_eq_getElem (by omega)⟩; have q1 := HN y hy; rw [List.take_of_length_le (by omega)] at q1; have q2 := hI.once y (List.mem_of_getElem? hy); have q3 := hI.wlt y (List.mem_of_getElem? hy); first | omega | (have q4 := at_one rfl hy; subst q4; omega))))
    · refine R.q (q.lss rfl rfl (decide_eq_false (by omega))) rfl <| R.nil ?_
      refine R.condF rfl rfl ?_
      refine R.reg rfl <| R.u 1 rfl <| R.nil ?_
      refine R.loop (fun k3 : Nat => [(4, .pointer (some ⟨b1, 0, none⟩)), (9, .int .i64 (k3 : Int))]) (fun k3 : Nat => [Res.box b1 [z1, z2, z3, z4, .int .i64 (((grownR l).1).NextWrit), .int .i64 (((grownR l).1).NextThing)] 29]) (fun k3 : Nat => [Res.ls z1 (((grownR l).1).Writs : List Writ), Res.ls z2 (((grownR l).1).Things : List Thing), Res.ls z3 (((grownR l).1).Held : List Held), Res.ls z4 (((grownR l).1).Notes : List Note), Res.acts l, Res.ls v_l (l : List Deed)]) (fun k3 : Nat => k3 ≤ (((grownR l).1).Held).length) (fun k3 : Nat => (((grownR l).1).Held).length - k3) 0 rfl (by omega) ⟨rfl, rfl, trivial⟩ (fun _ => Wd.pick [0] [0, 1, 2, 3, 4, 5] rfl rfl rfl) ?_
      rintro k3 hk3
      refine R.reg rfl <| R.u 1 rfl <| R.q (q.fld (off' := 2) rfl tFld_29_2 rfl) rfl <| R.q (q.ld 0 rfl rfl tOne_26 rfl) rfl <| R.q (q.len' (fun _ => Wd.fls 2 rfl) rfl Try.underlying26) rfl <| ?_
      by_cases h9 : k3 < (((grownR l).1).Held).length
      · refine R.q (q.lss rfl rfl (decide_eq_true (by omega))) rfl <| R.nil ?_
        refine R.condT rfl rfl ?_
        obtain ⟨x6, hx6⟩ : ∃ z, (((grownR l).1).Held)[k3]? = some z := ⟨_, List.getElem?_eq_getElem (by omega)⟩
        rcases findW_cases (((grownR l).1).Writs) x6.Writ with ⟨c1f, c1n⟩ | ⟨c1j, c1h, c1f, c1e, c1m⟩
        · refine R.regQ rfl mixed (by kernel_rfl) <| Q.q (q.fld (off' := 0) rfl tFld_29_0 rfl) rfl <| Q.q (q.ld 0 rfl rfl tOne_24 rfl) rfl <| Q.q (q.fld (off' := 2) rfl tFld_29_2 rfl) rfl <| Q.q (q.ld 0 rfl rfl tOne_26 rfl) rfl <| Q.u 1 rfl <| Q.q (q.idx (i := k3) (fun _ => Wd.fls 2 rfl) rfl rfl tSl_26 rfl hx6) rfl <| Q.q (q.fldE (j' := 2) (fun _ => Wd.fls 2 rfl) hx6 rfl tFld_36_1 rfl) rfl <| Q.q (q.ldE (fun _ => Wd.fls 2 rfl) hx6 rfl tOne_3 rfl) rfl <| Q.c (q.call eg_17 rfl rfl (fun w hw => (cv (congrArg (Value.int .i64) c1f) (find_any _ (((grownR l).1).Writs) (x6.Writ) w ((fun _ => Wd.fls 0 rfl) w hw) )))) rfl <| Q.q (q.lss (b := true) rfl rfl (by decide)) rfl <| Q.nil ?_
          refine R.condT rfl rfl ?_
          refine R.reg rfl <| R.u 1 rfl <| R.nil ?_
          exact R.rv rfl Try.results3 rfl (rB (by (exfalso; obtain ⟨w5, hw5, e5⟩ := hI.hthere _ (List.mem_of_getElem? hx6); first | omega | exact c1n w5 hw5 e5 | exact c2n w5 hw5 e5 | exact c3n w5 hw5 e5)))
        · refine R.regQ rfl mixed (by kernel_rfl) <| Q.q (q.fld (off' := 0) rfl tFld_29_0 rfl) rfl <| Q.q (q.ld 0 rfl rfl tOne_24 rfl) rfl <| Q.q (q.fld (off' := 2) rfl tFld_29_2 rfl) rfl <| Q.q (q.ld 0 rfl rfl tOne_26 rfl) rfl <| Q.u 1 rfl <| Q.q (q.idx (i := k3) (fun _ => Wd.fls 2 rfl) rfl rfl tSl_26 rfl hx6) rfl <| Q.q (q.fldE (j' := 2) (fun _ => Wd.fls 2 rfl) hx6 rfl tFld_36_1 rfl) rfl <| Q.q (q.ldE (fun _ => Wd.fls 2 rfl) hx6 rfl tOne_3 rfl) rfl <| Q.c (q.call eg_17 rfl rfl (fun w hw => (cv (congrArg (Value.int .i64) c1f) (find_any _ (((grownR l).1).Writs) (x6.Writ) w ((fun _ => Wd.fls 0 rfl) w hw) )))) rfl <| Q.q (q.lss rfl rfl (decide_eq_false (by omega))) rfl <| Q.nil ?_
          refine R.condF rfl rfl ?_
          refine R.reg rfl <| R.u 1 rfl <| R.q (q.add (r := ((k3 + 1 : Nat) : Int)) rfl rfl (wr (by omega))) rfl <| R.u 1 rfl <| R.nil ?_
          refine R.back (k3 + 1) rfl (by (omega)) (by omega) ⟨rfl, rfl, trivial⟩ (fun _ => Wd.pik [0] [0, 1, 2, 3, 4, 5] rfl rfl rfl)
      · refine R.q (q.lss rfl rfl (decide_eq_false (by omega))) rfl <| R.nil ?_
        refine R.condF rfl rfl ?_
        refine R.reg rfl <| R.u 1 rfl <| R.nil ?_
        refine R.loop (fun k4 : Nat => [(4, .pointer (some ⟨b1, 0, none⟩)), (10, .int .i64 (k4 : Int))]) (fun k4 : Nat => [Res.box b1 [z1, z2, z3, z4, .int .i64 (((grownR l).1).NextWrit), .int .i64 (((grownR l).1).NextThing)] 29]) (fun k4 : Nat => [Res.ls z1 (((grownR l).1).Writs : List Writ), Res.ls z2 (((grownR l).1).Things : List Thing), Res.ls z3 (((grownR l).1).Held : List Held), Res.ls z4 (((grownR l).1).Notes : List Note), Res.acts l, Res.ls v_l (l : List Deed)]) (fun k4 : Nat => k4 ≤ (((grownR l).1).Things).length) (fun k4 : Nat => (((grownR l).1).Things).length - k4) 0 rfl (by omega) ⟨rfl, rfl, trivial⟩ (fun _ => Wd.pick [0] [0, 1, 2, 3, 4, 5] rfl rfl rfl) ?_
        rintro k4 hk4
        refine R.reg rfl <| R.u 1 rfl <| R.q (q.fld (off' := 1) rfl tFld_29_1 rfl) rfl <| R.q (q.ld 0 rfl rfl tOne_25 rfl) rfl <| R.q (q.len' (fun _ => Wd.fls 1 rfl) rfl Try.underlying25) rfl <| ?_
        by_cases h10 : k4 < (((grownR l).1).Things).length
        · refine R.q (q.lss rfl rfl (decide_eq_true (by omega))) rfl <| R.nil ?_
          refine R.condT rfl rfl ?_
          obtain ⟨x7, hx7⟩ : ∃ z, (((grownR l).1).Things)[k4]? = some z := ⟨_, List.getElem?_eq_getElem (by omega)⟩
          by_cases h11 : x7.ID < ((grownR l).1).NextThing
          · by_cases h12 : 0 < k4
            · obtain ⟨x8, hx8⟩ : ∃ z, (((grownR l).1).Things)[(k4 - 1)]? = some z := ⟨_, List.getElem?_eq_getElem (by omega)⟩
              by_cases h13 : x8.ID < x7.ID
              · refine R.regQ rfl mixed (by kernel_rfl) <| Q.q (q.fld (off' := 1) rfl tFld_29_1 rfl) rfl <| Q.q (q.ld 0 rfl rfl tOne_25 rfl) rfl <| Q.u 1 rfl <| Q.q (q.idx (i := k4) (fun _ => Wd.fls 1 rfl) rfl rfl tSl_25 rfl hx7) rfl <| Q.q (q.fldE (j' := 0) (fun _ => Wd.fls 1 rfl) hx7 rfl tFld_43_0 rfl) rfl <| Q.q (q.ldE (fun _ => Wd.fls 1 rfl) hx7 rfl tOne_3 rfl) rfl <| Q.q (q.fld (off' := 5) rfl tFld_29_5 rfl) rfl <| Q.q (q.ld 0 rfl rfl tOne_3 rfl) rfl <| Q.q (q.geq rfl rfl (decide_eq_false (by omega))) rfl <| Q.u 2 rfl <| Q.qg rfl (q.gtr rfl rfl (decide_eq_true (by omega))) rfl <| Q.u 1 rfl <| Q.qg rfl (q.fld (off' := 1) rfl tFld_29_1 rfl) rfl <| Q.qg rfl (q.ld 0 rfl rfl tOne_25 rfl) rfl <| Q.u 1 rfl <| Q.qg rfl (q.idx (i := k4) (fun _ => Wd.fls 1 rfl) rfl rfl tSl_25 rfl hx7) rfl <| Q.qg rfl (q.fldE (j' := 0) (fun _ => Wd.fls 1 rfl) hx7 rfl tFld_43_0 rfl) rfl <| Q.qg rfl (q.ldE (fun _ => Wd.fls 1 rfl) hx7 rfl tOne_3 rfl) rfl <| Q.qg rfl (q.fld (off' := 1) rfl tFld_29_1 rfl) rfl <| Q.qg rfl (q.ld 0 rfl rfl tOne_25 rfl) rfl <| Q.u 1 rfl <| Q.qg rfl (q.sub (r := ((k4 - 1 : Nat) : Int)) rfl rfl (wr (by omega))) rfl <| Q.qg rfl (q.idx (i := (k4 - 1)) (fun _ => Wd.fls 1 rfl) rfl rfl tSl_25 rfl hx8) rfl <| Q.qg rfl (q.fldE (j' := 0) (fun _ => Wd.fls 1 rfl) hx8 rfl tFld_43_0 rfl) rfl <| Q.qg rfl (q.ldE (fun _ => Wd.fls 1 rfl) hx8 rfl tOne_3 rfl) rfl <| Q.qg rfl (q.leq rfl rfl (decide_eq_false (by omega))) rfl <| Q.u 2 rfl <| Q.nil ?_
                refine R.condF rfl rfl ?_
                refine R.reg rfl <| R.u 1 rfl <| R.q (q.add (r := ((k4 + 1 : Nat) : Int)) rfl rfl (wr (by omega))) rfl <| R.u 1 rfl <| R.nil ?_
                refine R.back (k4 + 1) rfl (by (omega)) (by omega) ⟨rfl, rfl, trivial⟩ (fun _ => Wd.pik [0] [0, 1, 2, 3, 4, 5] rfl rfl rfl)
              · refine R.regQ rfl mixed (by kernel_rfl) <| Q.q (q.fld (off' := 1) rfl tFld_29_1 rfl) rfl <| Q.q (q.ld 0 rfl rfl tOne_25 rfl) rfl <| Q.u 1 rfl <| Q.q (q.idx (i := k4) (fun _ => Wd.fls 1 rfl) rfl rfl tSl_25 rfl hx7) rfl <| Q.q (q.fldE (j' := 0) (fun _ => Wd.fls 1 rfl) hx7 rfl tFld_43_0 rfl) rfl <| Q.q (q.ldE (fun _ => Wd.fls 1 rfl) hx7 rfl tOne_3 rfl) rfl <| Q.q (q.fld (off' := 5) rfl tFld_29_5 rfl) rfl <| Q.q (q.ld 0 rfl rfl tOne_3 rfl) rfl <| Q.q (q.geq rfl rfl (decide_eq_false (by omega))) rfl <| Q.u 2 rfl <| Q.qg rfl (q.gtr rfl rfl (decide_eq_true (by omega))) rfl <| Q.u 1 rfl <| Q.qg rfl (q.fld (off' := 1) rfl tFld_29_1 rfl) rfl <| Q.qg rfl (q.ld 0 rfl rfl tOne_25 rfl) rfl <| Q.u 1 rfl <| Q.qg rfl (q.idx (i := k4) (fun _ => Wd.fls 1 rfl) rfl rfl tSl_25 rfl hx7) rfl <| Q.qg rfl (q.fldE (j' := 0) (fun _ => Wd.fls 1 rfl) hx7 rfl tFld_43_0 rfl) rfl <| Q.qg rfl (q.ldE (fun _ => Wd.fls 1 rfl) hx7 rfl tOne_3 rfl) rfl <| Q.qg rfl (q.fld (off' := 1) rfl tFld_29_1 rfl) rfl <| Q.qg rfl (q.ld 0 rfl rfl tOne_25 rfl) rfl <| Q.u 1 rfl <| Q.qg rfl (q.sub (r := ((k4 - 1 : Nat) : Int)) rfl rfl (wr (by omega))) rfl <| Q.qg rfl (q.idx (i := (k4 - 1)) (fun _ => Wd.fls 1 rfl) rfl rfl tSl_25 rfl hx8) rfl <| Q.qg rfl (q.fldE (j' := 0) (fun _ => Wd.fls 1 rfl) hx8 rfl tFld_43_0 rfl) rfl <| Q.qg rfl (q.ldE (fun _ => Wd.fls 1 rfl) hx8 rfl tOne_3 rfl) rfl <| Q.qg rfl (q.leq rfl rfl (decide_eq_true (by omega))) rfl <| Q.u 2 rfl <| Q.nil ?_
                refine R.condT rfl rfl ?_
                refine R.reg rfl <| R.u 1 rfl <| R.nil ?_
                exact R.rv rfl Try.results3 rfl (rB (by (exfalso; have q1 := hI.tlt _ (List.mem_of_getElem? hx7); first | omega | (have q2 := List.pairwise_iff_getElem.1 hI.trise (k4 - 1) k4 (by omega) (by omega) (by omega); rw [(List.getElem?_eq_some_iff.1 hx7).2, (List.getElem?_eq_some_iff.1 hx8).2] at q2; omega))))
            · refine R.regQ rfl mixed (by kernel_rfl) <| Q.q (q.fld (off' := 1) rfl tFld_29_1 rfl) rfl <| Q.q (q.ld 0 rfl rfl tOne_25 rfl) rfl <| Q.u 1 rfl <| Q.q (q.idx (i := k4) (fun _ => Wd.fls 1 rfl) rfl rfl tSl_25 rfl hx7) rfl <| Q.q (q.fldE (j' := 0) (fun _ => Wd.fls 1 rfl) hx7 rfl tFld_43_0 rfl) rfl <| Q.q (q.ldE (fun _ => Wd.fls 1 rfl) hx7 rfl tOne_3 rfl) rfl <| Q.q (q.fld (off' := 5) rfl tFld_29_5 rfl) rfl <| Q.q (q.ld 0 rfl rfl tOne_3 rfl) rfl <| Q.q (q.geq rfl rfl (decide_eq_false (by omega))) rfl <| Q.u 2 rfl <| Q.qg rfl (q.gtr rfl rfl (decide_eq_false (by omega))) rfl <| Q.u 17 rfl <| Q.nil ?_
              refine R.condF rfl rfl ?_
              refine R.reg rfl <| R.u 1 rfl <| R.q (q.add (r := ((k4 + 1 : Nat) : Int)) rfl rfl (wr (by omega))) rfl <| R.u 1 rfl <| R.nil ?_
              refine R.back (k4 + 1) rfl (by (omega)) (by omega) ⟨rfl, rfl, trivial⟩ (fun _ => Wd.pik [0] [0, 1, 2, 3, 4, 5] rfl rfl rfl)
          · refine R.regQ rfl mixed (by kernel_rfl) <| Q.q (q.fld (off' := 1) rfl tFld_29_1 rfl) rfl <| Q.q (q.ld 0 rfl rfl tOne_25 rfl) rfl <| Q.u 1 rfl <| Q.q (q.idx (i := k4) (fun _ => Wd.fls 1 rfl) rfl rfl tSl_25 rfl hx7) rfl <| Q.q (q.fldE (j' := 0) (fun _ => Wd.fls 1 rfl) hx7 rfl tFld_43_0 rfl) rfl <| Q.q (q.ldE (fun _ => Wd.fls 1 rfl) hx7 rfl tOne_3 rfl) rfl <| Q.q (q.fld (off' := 5) rfl tFld_29_5 rfl) rfl <| Q.q (q.ld 0 rfl rfl tOne_3 rfl) rfl <| Q.q (q.geq rfl rfl (decide_eq_true (by omega))) rfl <| Q.u 20 rfl <| Q.nil ?_
            refine R.condT rfl rfl ?_
            refine R.reg rfl <| R.u 1 rfl <| R.nil ?_
            exact R.rv rfl Try.results3 rfl (rB (by (exfalso; have q1 := hI.tlt _ (List.mem_of_getElem? hx7); first | omega | (have q2 := List.pairwise_iff_getElem.1 hI.trise (k4 - 1) k4 (by omega) (by omega) (by omega); rw [(List.getElem?_eq_some_iff.1 hx7).2, (List.getElem?_eq_some_iff.1 rfl).2] at q2; omega))))
        · refine R.q (q.lss rfl rfl (decide_eq_false (by omega))) rfl <| R.nil ?_
          refine R.condF rfl rfl ?_
          refine R.reg rfl <| R.u 1 rfl <| R.nil ?_
          exact R.rv rfl Try.results3 rfl (rB (by (first | rfl | (exfalso; omega))))

end Go.Proofs.Ytmbhcpaaaeobmaa
