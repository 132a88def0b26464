/-
  The walk of a law of the realm: a thing is there just as long as a writ is of it; notes wait just at ports that are there, not too many.
-/
import Derived.Test.YtmbhcpaaaeobmaaActsW
import Derived.Test.YtmbhcpaaaeobmaaTopFacts
namespace Go.Proofs.Ytmbhcpaaaeobmaa
open Go Go.RowKit
set_option linter.unusedVariables false
set_option linter.unusedSimpArgs false
set_option maxRecDepth 100000

theorem alive_law {r : Realm} (h : Inv r) : r.Things.map Thing.ID = thingsL r.Writs := by
  refine rise_eq _ _ (List.pairwise_map.2 h.trise) ?_ fun x => ?_
  · show (Lib.compact (sortI (r.Writs.map Writ.Thing))).Pairwise _
    rw [things_eq h.tree]; exact (thingsTo_is r.Writs 999).1
  · rw [mem_things h.tree, List.mem_map]
    constructor
    · rintro ⟨t, ht, rfl⟩; obtain ⟨w, hw, e⟩ := h.used t ht; exact ⟨w, hw, e⟩
    · rintro ⟨w, hw, rfl⟩; obtain ⟨t, ht, e⟩ := h.thing w hw; exact ⟨t, ht, e⟩
theorem map_take {l : List Thing} {k : Nat} {x : Thing} (h : l[k]? = some x) : (l.take (k + 1)).map Thing.ID = (l.take k).map Thing.ID ++ [x.ID] := by
  rw [List.take_add_one, h]; simp
theorem any_take {α : Type} {p : α → Bool} {l : List α} {k : Nat} {x : α} (h : l[k]? = some x) : (l.take (k + 1)).any p = ((l.take k).any p || p x) := by
  rw [List.take_add_one, h]; simp
theorem at_one' {α : Type} {l : List α} {k : Nat} {x y : α} (hx : l[k]? = some x) (hy : l[k]? = some y) : x = y := by rw [hx] at hy; injection hy
def isPort (q : Int) (t : Thing) : Bool := decide (t.ID = q) && decide (t.Kind = 2)
theorem port_any {r : Realm} (h : Inv r) {n : Note} (hn : n ∈ r.Notes) : r.Things.any (isPort n.Port) = true := by
  obtain ⟨t, ht, e1, e2⟩ := h.port n hn
  exact List.any_eq_true.2 ⟨t, ht, by simp [isPort, e1, e2]⟩
set_option maxRecDepth 100000 in
theorem topAlive_any (v_l : Value) (l : List Deed) (w : World) (s_l : Sl w v_l l) (c_l : ∀ x ∈ l, Sl w x.cv x.Changes) : Calls Try.prog 4 #[v_l] w fun e w' => e = .returned (.bool true) ∧ Ext w w' := by
  have b_l := s_l.lenle
  refine R.enter (n := 137) (vs := [v_l]) [] [(0, v_l)] Try.func4 rfl rfl rfl rfl ?_
  refine R.oldL s_l ?_
  refine R.oldF (r := Res.acts l) c_l (acts_lt c_l) ?_
  refine R.reg rfl <| R.u 1 rfl <| R.nil ?_
  refine R.reg rfl <| R.c (q.call eg_14 rfl rfl (fun w hw => (made_any  w  ))) rfl <| R.u 1 rfl <| R.nil ?_
  refine R.reg rfl <| R.u 2 rfl <| R.nil ?_
  refine R.condF rfl rfl ?_
  refine R.reg rfl <| R.u 1 rfl <| ?_
  refine R.s (B' := (fun g_ : Value × Value × Value × Value => [])) (F' := (fun g_ : Value × Value × Value × Value => [Res.ls g_.1 ((((grownR l)).1).Writs : List Writ), Res.ls g_.2.1 ((((grownR l)).1).Things : List Thing), Res.ls g_.2.2.1 ((((grownR l)).1).Held : List Held), Res.ls g_.2.2.2 ((((grownR l)).1).Notes : List Note), Res.acts l, Res.ls v_l (l : List Deed)])) rfl (s.callV (B0 := []) (Br := []) (F0 := [Res.ls v_l (l : List Deed), Res.acts l]) [] [1, 0] (fun g_ : Value × Value × Value × Value => .tuple #[.agg #[g_.1, g_.2.1, g_.2.2.1, g_.2.2.2, .int .i64 ((((grownR l)).1).NextWrit), .int .i64 ((((grownR l)).1).NextThing)], .bool (((grownR l)).2)]) (fun g_ : Value × Value × Value × Value => []) (fun g_ : Value × Value × Value × Value => [Res.ls g_.1 ((((grownR l)).1).Writs : List Writ), Res.ls g_.2.1 ((((grownR l)).1).Things : List Thing), Res.ls g_.2.2.1 ((((grownR l)).1).Held : List Held), Res.ls g_.2.2.2 ((((grownR l)).1).Notes : List Note)]) rfl rfl rfl eg_15 rfl rfl (fun w own hw H => grown_any v_l (l) w own H ) rfl) ?_
  rintro ⟨z1, z2, z3, z4⟩
  dsimp only
  refine R.u 3 rfl <| ?_
  refine R.s rfl (s.alloc (cs := [.slice none 0 0, .slice none 0 0, .slice none 0 0, .slice none 0 0, .int .i64 0, .int .i64 0]) tZero_29 rfl rfl) fun b1 => ?_
  refine R.s rfl (s.stV (us := [z1, z2, z3, z4, .int .i64 (((grownR l).1).NextWrit), .int .i64 (((grownR l).1).NextThing)]) (cs' := [z1, z2, z3, z4, .int .i64 (((grownR l).1).NextWrit), .int .i64 (((grownR l).1).NextThing)]) 0 _ rfl rfl rfl (fun _ _ => rfl) (.inl tAgg_29) (fun w hw => (one_cons (Sl.one ((fun _ => Wd.fls 0 rfl) w hw)) (one_cons (Sl.one ((fun _ => Wd.fls 1 rfl) w hw)) (one_cons (Sl.one ((fun _ => Wd.fls 2 rfl) w hw)) (one_cons (Sl.one ((fun _ => Wd.fls 3 rfl) w hw)) (one_cons rfl (one_cons rfl one_nil))))))) rfl rfl rfl) fun _ => ?_
  refine R.u 1 rfl <| R.nil ?_
  refine R.reg rfl <| R.u 1 rfl <| R.q (q.not rfl) rfl <| R.nil ?_
  refine R.cond rfl rfl (fun h1 => ?_) (fun h1 => ?_)
  · refine R.reg rfl <| R.u 1 rfl <| R.nil ?_
    exact R.rv rfl Try.results4 rfl (rB (by (first | rfl | (exfalso; omega))))
  · have hg := grown_facts (show (grownR l).2 = true from by first | assumption | (have hq := ‹(!(grownR l).2) = false›; simpa using hq)); have hI := hg.1; have hz := hg.2; have hk : Ok (grownR l).1 := hz.ok (by decide); have bw := hk.wl; have bt := hk.tl; have bh := hk.hl; have bn := hk.nl
    refine R.reg rfl <| R.u 1 rfl <| R.nil ?_
    refine R.reg rfl <| R.u 1 rfl <| R.nil ?_
    refine R.row0 (α := Int) 3 ?_
    refine R.loop (fun g_ : Nat × Value × (List Int) => [(4, .pointer (some ⟨b1, 0, none⟩)), (5, g_.2.1), (6, .int .i64 (g_.1 : Int))]) (fun g_ : Nat × Value × (List Int) => [Res.row 3 g_.2.1 (g_.2.2 : List Int), Res.box b1 [z1, z2, z3, z4, .int .i64 (((grownR l).1).NextWrit), .int .i64 (((grownR l).1).NextThing)] 29]) (fun g_ : Nat × Value × (List Int) => [Res.ls z1 (((grownR l).1).Writs : List Writ), Res.ls z2 (((grownR l).1).Things : List Thing), Res.ls z3 (((grownR l).1).Held : List Held), Res.ls z4 (((grownR l).1).Notes : List Note), Res.acts l, Res.ls v_l (l : List Deed)]) (fun g_ : Nat × Value × (List Int) => g_.1 ≤ (((grownR l).1).Things).length ∧ g_.2.2 = ((((grownR l).1).Things).take g_.1).map Thing.ID) (fun g_ : Nat × Value × (List Int) => (((grownR l).1).Things).length - g_.1) (0, (.slice none 0 0), []) rfl (by exact ⟨by omega, rfl⟩) ⟨rfl, rfl, rfl, trivial⟩ (fun _ => Wd.pick [0, 1] [0, 1, 2, 3, 4, 5] rfl rfl rfl) ?_
    rintro ⟨k, u, ids⟩ ⟨hk1, HI⟩
    dsimp only at *
    refine R.reg rfl <| R.u 1 rfl <| R.q (q.fld (off' := 1) rfl tFld_29_1 rfl) rfl <| R.q (q.ld 1 rfl rfl tOne_25 rfl) rfl <| R.q (q.len' (fun _ => Wd.fls 1 rfl) rfl Try.underlying25) rfl <| ?_
    by_cases h2 : k < (((grownR l).1).Things).length
    · refine R.q (q.lss rfl rfl (decide_eq_true (by omega))) rfl <| R.nil ?_
      refine R.condT rfl rfl ?_
      refine R.reg rfl <| R.u 1 rfl <| R.q (q.fld (off' := 1) rfl tFld_29_1 rfl) rfl <| R.q (q.ld 1 rfl rfl tOne_25 rfl) rfl <| R.u 1 rfl <| ?_
      obtain ⟨x1, hx1⟩ : ∃ z, (((grownR l).1).Things)[k]? = some z := ⟨_, List.getElem?_eq_getElem (by omega)⟩
      refine R.q (q.idx (i := k) (fun _ => Wd.fls 1 rfl) rfl rfl tSl_25 rfl hx1) rfl <| R.q (q.fldE (j' := 0) (fun _ => Wd.fls 1 rfl) hx1 rfl tFld_43_0 rfl) rfl <| R.q (q.ldE (fun _ => Wd.fls 1 rfl) hx1 rfl tOne_3 rfl) rfl <| ?_
      refine R.s rfl (s.bs (l := ([x1.ID] : List Int)) tSl_45 tZero_3 rfl rfl rfl rfl rfl rfl rfl) fun b2 => ?_
      refine R.s rfl (s.app (l2 := [x1.ID]) 1 _ rfl rfl rfl (fun _ => Wd.row 0 rfl) tApp_45 (by first | omega | (simp; omega) | (rw [HI]; simp; omega)) (by first | omega | (simp; omega) | (rw [HI]; simp; omega)) (fun _ => rfl) rfl) fun v1 => ?_
      refine R.u 1 rfl <| R.nil ?_
      refine R.reg rfl <| R.u 1 rfl <| R.q (q.add (r := ((k + 1 : Nat) : Int)) rfl rfl (wr (by omega))) rfl <| R.u 1 rfl <| R.nil ?_
      refine R.back ((k + 1), v1, (ids ++ ([x1.ID]))) rfl (by (exact ⟨by omega, by rw [HI, map_take hx1]⟩)) (by dsimp only; omega) ⟨rfl, rfl, rfl, trivial⟩ (fun _ => Wd.pik [1, 2] [0, 1, 2, 3, 4, 5] rfl rfl rfl)
    · refine R.q (q.lss rfl rfl (decide_eq_false (by omega))) rfl <| R.nil ?_
      refine R.condF rfl rfl ?_
      have fa : decide (ids = thingsL (((grownR l).1).Writs)) = true := decide_eq_true (by rw [HI, List.take_of_length_le (by omega)]; exact alive_law hI); have fl := hI.tmax; have fm : ids.length ≤ 10 := by rw [HI, List.length_map, List.length_take]; omega
      refine R.reg rfl <| R.u 1 rfl <| R.q (q.fld (off' := 0) rfl tFld_29_0 rfl) rfl <| R.q (q.ld 1 rfl rfl tOne_24 rfl) rfl <| ?_
      refine R.s rfl (s.callO eg_19 rfl rfl (fun w hw => thingsL_any _ (((grownR l).1).Writs) w ((fun _ => Wd.fls 0 rfl) w hw) (by first | omega | assumption)) rfl) fun v2 => ?_
      refine R.c (q.call eg_18 rfl rfl (fun w hw => (cv (congrArg Value.bool fa) (sameNumbers_any _ (ids) _ ((thingsL (((grownR l).1).Writs))) w ((fun _ => Wd.row 1 rfl) w hw) ((fun _ => Wd.row 0 rfl) w hw) )))) rfl <| R.u 3 rfl <| R.qg rfl (q.len' (fun _ => Wd.row 1 rfl) rfl Try.underlying45) rfl <| R.qg rfl (q.gtr rfl rfl (decide_eq_false (by omega))) rfl <| R.u 1 rfl <| R.nil ?_
      refine R.condF rfl rfl ?_
      refine R.reg rfl <| R.u 1 rfl <| R.nil ?_
      refine R.loop (fun k2 : Nat => [(4, .pointer (some ⟨b1, 0, none⟩)), (7, .int .i64 (k2 : Int))]) (fun k2 : Nat => [Res.row 3 v2 ((thingsL (((grownR l).1).Writs)) : List Int), Res.row 3 u (ids : List Int), Res.box b1 [z1, z2, z3, z4, .int .i64 (((grownR l).1).NextWrit), .int .i64 (((grownR l).1).NextThing)] 29]) (fun k2 : Nat => [Res.ls z1 (((grownR l).1).Writs : List Writ), Res.ls z2 (((grownR l).1).Things : List Thing), Res.ls z3 (((grownR l).1).Held : List Held), Res.ls z4 (((grownR l).1).Notes : List Note), Res.acts l, Res.ls v_l (l : List Deed)]) (fun k2 : Nat => k2 ≤ (((grownR l).1).Notes).length) (fun k2 : Nat => (((grownR l).1).Notes).length - k2) 0 rfl (by omega) ⟨rfl, rfl, trivial⟩ (fun _ => Wd.pick [0, 1, 2] [0, 1, 2, 3, 4, 5] rfl rfl rfl) ?_
      rintro k2 hk2
      refine R.reg rfl <| R.u 1 rfl <| R.q (q.fld (off' := 3) rfl tFld_29_3 rfl) rfl <| R.q (q.ld 2 rfl rfl tOne_27 rfl) rfl <| R.q (q.len' (fun _ => Wd.fls 3 rfl) rfl Try.underlying27) rfl <| ?_
      by_cases h3 : k2 < (((grownR l).1).Notes).length
      · refine R.q (q.lss rfl rfl (decide_eq_true (by omega))) rfl <| R.nil ?_
        refine R.condT rfl rfl ?_
        refine R.reg rfl <| R.u 1 rfl <| R.nil ?_
        refine R.reg rfl <| R.u 1 rfl <| R.nil ?_
        refine R.reg rfl <| R.u 1 rfl <| R.nil ?_
        refine R.loop (fun g_ : Nat × Bool => [(4, .pointer (some ⟨b1, 0, none⟩)), (7, .int .i64 (k2 : Int)), (8, .bool g_.2), (9, .int .i64 0), (10, .int .i64 (g_.1 : Int))]) (fun g_ : Nat × Bool => [Res.row 3 v2 ((thingsL (((grownR l).1).Writs)) : List Int), Res.row 3 u (ids : List Int), Res.box b1 [z1, z2, z3, z4, .int .i64 (((grownR l).1).NextWrit), .int .i64 (((grownR l).1).NextThing)] 29]) (fun g_ : Nat × Bool => [Res.ls z1 (((grownR l).1).Writs : List Writ), Res.ls z2 (((grownR l).1).Things : List Thing), Res.ls z3 (((grownR l).1).Held : List Held), Res.ls z4 (((grownR l).1).Notes : List Note), Res.acts l, Res.ls v_l (l : List Deed)]) (fun g_ : Nat × Bool => g_.1 ≤ (((grownR l).1).Things).length ∧ ∀ y, (((grownR l).1).Notes)[k2]? = some y → g_.2 = ((((grownR l).1).Things).take g_.1).any (isPort y.Port)) (fun g_ : Nat × Bool => (((grownR l).1).Things).length - g_.1) (0, false) rfl (by exact ⟨by omega, fun y hy => rfl⟩) ⟨rfl, rfl, rfl, rfl, rfl, trivial⟩ (fun _ => Wd.pick [0, 1, 2] [0, 1, 2, 3, 4, 5] rfl rfl rfl) ?_
        rintro ⟨m, b⟩ ⟨hm1, HB⟩
        dsimp only at *
        refine R.reg rfl <| R.u 1 rfl <| R.q (q.fld (off' := 1) rfl tFld_29_1 rfl) rfl <| R.q (q.ld 2 rfl rfl tOne_25 rfl) rfl <| R.q (q.len' (fun _ => Wd.fls 1 rfl) rfl Try.underlying25) rfl <| ?_
        by_cases h4 : m < (((grownR l).1).Things).length
        · refine R.q (q.lss rfl rfl (decide_eq_true (by omega))) rfl <| R.nil ?_
          refine R.condT rfl rfl ?_
          cases b
          · obtain ⟨x2, hx2⟩ : ∃ z, (((grownR l).1).Things)[m]? = some z := ⟨_, List.getElem?_eq_getElem (by omega)⟩
            obtain ⟨x3, hx3⟩ : ∃ z, (((grownR l).1).Notes)[k2]? = some z := ⟨_, List.getElem?_eq_getElem (by omega)⟩
            by_cases h5 : x2.ID = x3.Port
            · by_cases h6 : x2.Kind = 2
              · refine R.regQ rfl mixed (by kernel_rfl) <| Q.u 2 rfl <| Q.qg rfl (q.fld (off' := 1) rfl tFld_29_1 rfl) rfl <| Q.qg rfl (q.ld 2 rfl rfl tOne_25 rfl) rfl <| Q.u 1 rfl <| Q.qg rfl (q.idx (i := m) (fun _ => Wd.fls 1 rfl) rfl rfl tSl_25 rfl hx2) rfl <| Q.qg rfl (q.fldE (j' := 0) (fun _ => Wd.fls 1 rfl) hx2 rfl tFld_43_0 rfl) rfl <| Q.qg rfl (q.ldE (fun _ => Wd.fls 1 rfl) hx2 rfl tOne_3 rfl) rfl <| Q.qg rfl (q.fld (off' := 3) rfl tFld_29_3 rfl) rfl <| Q.qg rfl (q.ld 2 rfl rfl tOne_27 rfl) rfl <| Q.u 1 rfl <| Q.qg rfl (q.idx (i := k2) (fun _ => Wd.fls 3 rfl) rfl rfl tSl_27 rfl hx3) rfl <| Q.qg rfl (q.fldE (j' := 0) (fun _ => Wd.fls 3 rfl) hx3 rfl tFld_40_0 rfl) rfl <| Q.qg rfl (q.ldE (fun _ => Wd.fls 3 rfl) hx3 rfl tOne_3 rfl) rfl <| Q.qg rfl (q.eql rfl rfl (beq_iff_eq.2 (by omega))) rfl <| Q.u 1 rfl <| Q.qg rfl (q.fld (off' := 1) rfl tFld_29_1 rfl) rfl <| Q.qg rfl (q.ld 2 rfl rfl tOne_25 rfl) rfl <| Q.u 1 rfl <| Q.qg rfl (q.idx (i := m) (fun _ => Wd.fls 1 rfl) rfl rfl tSl_25 rfl hx2) rfl <| Q.qg rfl (q.fldE (j' := 1) (fun _ => Wd.fls 1 rfl) hx2 rfl tFld_43_1 rfl) rfl <| Q.qg rfl (q.ldE (fun _ => Wd.fls 1 rfl) hx2 rfl tOne_3 rfl) rfl <| Q.qg rfl (q.eql rfl rfl (beq_iff_eq.2 (by omega))) rfl <| Q.u 3 rfl <| Q.nil ?_
                refine R.reg rfl <| R.u 1 rfl <| R.q (q.add (r := ((m + 1 : Nat) : Int)) rfl rfl (wr (by omega))) rfl <| R.u 1 rfl <| R.nil ?_
                refine R.back ((m + 1), true) rfl (by (exact ⟨by omega, fun y hy => by obtain ⟨t7, ht7⟩ : ∃ t, (((grownR l).1).Things)[m]? = some t := ⟨_, List.getElem?_eq_getElem (by omega)⟩; rw [any_take ht7, ← HB y hy]; first | rfl | (have e0 := at_one' hx3 hy; have e1 := at_one' hx2 ht7; subst e0; subst e1; unfold isPort; rw [decide_eq_true (by omega), decide_eq_true (by omega)]; rfl) | (have e0 := at_one' hx3 hy; have e1 := at_one' hx2 ht7; subst e0; subst e1; unfold isPort; rw [decide_eq_false (by omega)]; first | rfl | simp) | (have e0 := at_one' hx3 hy; have e1 := at_one' hx2 ht7; subst e0; subst e1; unfold isPort; rw [decide_eq_true (by omega), decide_eq_false (by omega)]; rfl)⟩)) (by dsimp only; omega) ⟨rfl, rfl, rfl, rfl, rfl, trivial⟩ (fun _ => Wd.pik [0, 1, 2] [0, 1, 2, 3, 4, 5] rfl rfl rfl)
              · refine R.regQ rfl mixed (by kernel_rfl) <| Q.u 2 rfl <| Q.qg rfl (q.fld (off' := 1) rfl tFld_29_1 rfl) rfl <| Q.qg rfl (q.ld 2 rfl rfl tOne_25 rfl) rfl <| Q.u 1 rfl <| Q.qg rfl (q.idx (i := m) (fun _ => Wd.fls 1 rfl) rfl rfl tSl_25 rfl hx2) rfl <| Q.qg rfl (q.fldE (j' := 0) (fun _ => Wd.fls 1 rfl) hx2 rfl tFld_43_0 rfl) rfl <| Q.qg rfl (q.ldE (fun _ => Wd.fls 1 rfl) hx2 rfl tOne_3 rfl) rfl <| Q.qg rfl (q.fld (off' := 3) rfl tFld_29_3 rfl) rfl <| Q.qg rfl (q.ld 2 rfl rfl tOne_27 rfl) rfl <| Q.u 1 rfl <| Q.qg rfl (q.idx (i := k2) (fun _ => Wd.fls 3 rfl) rfl rfl tSl_27 rfl hx3) rfl <| Q.qg rfl (q.fldE (j' := 0) (fun _ => Wd.fls 3 rfl) hx3 rfl tFld_40_0 rfl) rfl <| Q.qg rfl (q.ldE (fun _ => Wd.fls 3 rfl) hx3 rfl tOne_3 rfl) rfl <| Q.qg rfl (q.eql rfl rfl (beq_iff_eq.2 (by omega))) rfl <| Q.u 1 rfl <| Q.qg rfl (q.fld (off' := 1) rfl tFld_29_1 rfl) rfl <| Q.qg rfl (q.ld 2 rfl rfl tOne_25 rfl) rfl <| Q.u 1 rfl <| Q.qg rfl (q.idx (i := m) (fun _ => Wd.fls 1 rfl) rfl rfl tSl_25 rfl hx2) rfl <| Q.qg rfl (q.fldE (j' := 1) (fun _ => Wd.fls 1 rfl) hx2 rfl tFld_43_1 rfl) rfl <| Q.qg rfl (q.ldE (fun _ => Wd.fls 1 rfl) hx2 rfl tOne_3 rfl) rfl <| Q.qg rfl (q.eql rfl rfl (beq_eq_false_iff_ne.2 (by omega))) rfl <| Q.u 3 rfl <| Q.nil ?_
                refine R.reg rfl <| R.u 1 rfl <| R.q (q.add (r := ((m + 1 : Nat) : Int)) rfl rfl (wr (by omega))) rfl <| R.u 1 rfl <| R.nil ?_
                refine R.back ((m + 1), false) rfl (by (exact ⟨by omega, fun y hy => by obtain ⟨t7, ht7⟩ : ∃ t, (((grownR l).1).Things)[m]? = some t := ⟨_, List.getElem?_eq_getElem (by omega)⟩; rw [any_take ht7, ← HB y hy]; first | rfl | (have e0 := at_one' hx3 hy; have e1 := at_one' hx2 ht7; subst e0; subst e1; unfold isPort; rw [decide_eq_true (by omega), decide_eq_true (by omega)]; rfl) | (have e0 := at_one' hx3 hy; have e1 := at_one' hx2 ht7; subst e0; subst e1; unfold isPort; rw [decide_eq_false (by omega)]; first | rfl | simp) | (have e0 := at_one' hx3 hy; have e1 := at_one' hx2 ht7; subst e0; subst e1; unfold isPort; rw [decide_eq_true (by omega), decide_eq_false (by omega)]; rfl)⟩)) (by dsimp only; omega) ⟨rfl, rfl, rfl, rfl, rfl, trivial⟩ (fun _ => Wd.pik [0, 1, 2] [0, 1, 2, 3, 4, 5] rfl rfl rfl)
            · refine R.regQ rfl mixed (by kernel_rfl) <| Q.u 2 rfl <| Q.qg rfl (q.fld (off' := 1) rfl tFld_29_1 rfl) rfl <| Q.qg rfl (q.ld 2 rfl rfl tOne_25 rfl) rfl <| Q.u 1 rfl <| Q.qg rfl (q.idx (i := m) (fun _ => Wd.fls 1 rfl) rfl rfl tSl_25 rfl hx2) rfl <| Q.qg rfl (q.fldE (j' := 0) (fun _ => Wd.fls 1 rfl) hx2 rfl tFld_43_0 rfl) rfl <| Q.qg rfl (q.ldE (fun _ => Wd.fls 1 rfl) hx2 rfl tOne_3 rfl) rfl <| Q.qg rfl (q.fld (off' := 3) rfl tFld_29_3 rfl) rfl <| Q.qg rfl (q.ld 2 rfl rfl tOne_27 rfl) rfl <| Q.u 1 rfl <| Q.qg rfl (q.idx (i := k2) (fun _ => Wd.fls 3 rfl) rfl rfl tSl_27 rfl hx3) rfl <| Q.qg rfl (q.fldE (j' := 0) (fun _ => Wd.fls 3 rfl) hx3 rfl tFld_40_0 rfl) rfl <| Q.qg rfl (q.ldE (fun _ => Wd.fls 3 rfl) hx3 rfl tOne_3 rfl) rfl <| Q.qg rfl (q.eql rfl rfl (beq_eq_false_iff_ne.2 (by omega))) rfl <| Q.u 11 rfl <| Q.nil ?_
              refine R.reg rfl <| R.u 1 rfl <| R.q (q.add (r := ((m + 1 : Nat) : Int)) rfl rfl (wr (by omega))) rfl <| R.u 1 rfl <| R.nil ?_
              refine R.back ((m + 1), false) rfl (by (exact ⟨by omega, fun y hy => by obtain ⟨t7, ht7⟩ : ∃ t, (((grownR l).1).Things)[m]? = some t := ⟨_, List.getElem?_eq_getElem (by omega)⟩; rw [any_take ht7, ← HB y hy]; first | rfl | (have e0 := at_one' hx3 hy; have e1 := at_one' hx2 ht7; subst e0; subst e1; unfold isPort; rw [decide_eq_true (by omega), decide_eq_true (by omega)]; rfl) | (have e0 := at_one' hx3 hy; have e1 := at_one' hx2 ht7; subst e0; subst e1; unfold isPort; rw [decide_eq_false (by omega)]; first | rfl | simp) | (have e0 := at_one' hx3 hy; have e1 := at_one' hx2 ht7; subst e0; subst e1; unfold isPort; rw [decide_eq_true (by omega), decide_eq_false (by omega)]; rfl)⟩)) (by dsimp only; omega) ⟨rfl, rfl, rfl, rfl, rfl, trivial⟩ (fun _ => Wd.pik [0, 1, 2] [0, 1, 2, 3, 4, 5] rfl rfl rfl)
          · refine R.regQ rfl mixed (by kernel_rfl) <| Q.u 26 rfl <| Q.nil ?_
            refine R.reg rfl <| R.u 1 rfl <| R.q (q.add (r := ((m + 1 : Nat) : Int)) rfl rfl (wr (by omega))) rfl <| R.u 1 rfl <| R.nil ?_
            refine R.back ((m + 1), true) rfl (by (exact ⟨by omega, fun y hy => by obtain ⟨t7, ht7⟩ : ∃ t, (((grownR l).1).Things)[m]? = some t := ⟨_, List.getElem?_eq_getElem (by omega)⟩; rw [any_take ht7, ← HB y hy]; first | rfl | (have e0 := at_one' rfl hy; have e1 := at_one' rfl ht7; subst e0; subst e1; unfold isPort; rw [decide_eq_true (by omega), decide_eq_true (by omega)]; rfl) | (have e0 := at_one' rfl hy; have e1 := at_one' rfl ht7; subst e0; subst e1; unfold isPort; rw [decide_eq_false (by omega)]; first | rfl | simp) | (have e0 := at_one' rfl hy; have e1 := at_one' rfl ht7; subst e0; subst e1; unfold isPort; rw [decide_eq_true (by omega), decide_eq_false (by omega)]; rfl)⟩)) (by dsimp only; omega) ⟨rfl, rfl, rfl, rfl, rfl, trivial⟩ (fun _ => Wd.pik [0, 1, 2] [0, 1, 2, 3, 4, 5] rfl rfl rfl)
        · refine R.q (q.lss rfl rfl (decide_eq_false (by omega))) rfl <| R.nil ?_
          refine R.condF rfl rfl ?_
          refine R.reg rfl <| R.u 1 rfl <| R.nil ?_
          refine R.loop (fun g_ : Nat × Nat => [(4, .pointer (some ⟨b1, 0, none⟩)), (7, .int .i64 (k2 : Int)), (8, .bool b), (9, .int .i64 (g_.2 : Int)), (11, .int .i64 (g_.1 : Int))]) (fun g_ : Nat × Nat => [Res.row 3 v2 ((thingsL (((grownR l).1).Writs)) : List Int), Res.row 3 u (ids : List Int), Res.box b1 [z1, z2, z3, z4, .int .i64 (((grownR l).1).NextWrit), .int .i64 (((grownR l).1).NextThing)] 29]) (fun g_ : Nat × Nat => [Res.ls z1 (((grownR l).1).Writs : List Writ), Res.ls z2 (((grownR l).1).Things : List Thing), Res.ls z3 (((grownR l).1).Held : List Held), Res.ls z4 (((grownR l).1).Notes : List Note), Res.acts l, Res.ls v_l (l : List Deed)]) (fun g_ : Nat × Nat => g_.1 ≤ (((grownR l).1).Notes).length ∧ g_.2 ≤ g_.1 ∧ ∀ y, (((grownR l).1).Notes)[k2]? = some y → g_.2 = waitN ((((grownR l).1).Notes).take g_.1) y.Port) (fun g_ : Nat × Nat => (((grownR l).1).Notes).length - g_.1) (0, 0) rfl (by exact ⟨by omega, by omega, fun y hy => by simp [waitN]⟩) ⟨rfl, rfl, rfl, rfl, rfl, trivial⟩ (fun _ => Wd.pick [0, 1, 2] [0, 1, 2, 3, 4, 5] rfl rfl rfl) ?_
          rintro ⟨m2, c⟩ ⟨hn1, hn2, HW⟩
          dsimp only at *
          refine R.reg rfl <| R.u 1 rfl <| R.q (q.fld (off' := 3) rfl tFld_29_3 rfl) rfl <| R.q (q.ld 2 rfl rfl tOne_27 rfl) rfl <| R.q (q.len' (fun _ => Wd.fls 3 rfl) rfl Try.underlying27) rfl <| ?_
          by_cases h7 : m2 < (((grownR l).1).Notes).length
          · refine R.q (q.lss rfl rfl (decide_eq_true (by omega))) rfl <| R.nil ?_
            refine R.condT rfl rfl ?_
            obtain ⟨x4, hx4⟩ : ∃ z, (((grownR l).1).Notes)[m2]? = some z := ⟨_, List.getElem?_eq_getElem (by omega)⟩
            obtain ⟨x5, hx5⟩ : ∃ z, (((grownR l).1).Notes)[k2]? = some z := ⟨_, List.getElem?_eq_getElem (by omega)⟩
            by_cases h8 : x4.Port = x5.Port
            · refine R.regQ rfl mixed (by kernel_rfl) <| Q.q (q.fld (off' := 3) rfl tFld_29_3 rfl) rfl <| Q.q (q.ld 2 rfl rfl tOne_27 rfl) rfl <| Q.u 1 rfl <| Q.q (q.idx (i := m2) (fun _ => Wd.fls 3 rfl) rfl rfl tSl_27 rfl hx4) rfl <| Q.q (q.fldE (j' := 0) (fun _ => Wd.fls 3 rfl) hx4 rfl tFld_40_0 rfl) rfl <| Q.q (q.ldE (fun _ => Wd.fls 3 rfl) hx4 rfl tOne_3 rfl) rfl <| Q.q (q.fld (off' := 3) rfl tFld_29_3 rfl) rfl <| Q.q (q.ld 2 rfl rfl tOne_27 rfl) rfl <| Q.u 1 rfl <| Q.q (q.idx (i := k2) (fun _ => Wd.fls 3 rfl) rfl rfl tSl_27 rfl hx5) rfl <| Q.q (q.fldE (j' := 0) (fun _ => Wd.fls 3 rfl) hx5 rfl tFld_40_0 rfl) rfl <| Q.q (q.ldE (fun _ => Wd.fls 3 rfl) hx5 rfl tOne_3 rfl) rfl <| Q.q (q.eql rfl rfl (beq_iff_eq.2 (by omega))) rfl <| Q.nil ?_
              refine R.condT rfl rfl ?_
              refine R.reg rfl <| R.u 1 rfl <| R.q (q.add (r := ((c + 1 : Nat) : Int)) rfl rfl (wr (by omega))) rfl <| R.u 1 rfl <| R.nil ?_
              refine R.reg rfl <| R.u 1 rfl <| R.q (q.add (r := ((m2 + 1 : Nat) : Int)) rfl rfl (wr (by omega))) rfl <| R.u 1 rfl <| R.nil ?_
              refine R.back ((m2 + 1), (c + 1)) rfl (by (exact ⟨by omega, by omega, fun y hy => by have e0 := at_one' hx5 hy; rw [wait_hit hx4 (by rw [← e0]; omega)]; have := HW y hy; omega⟩)) (by dsimp only; omega) ⟨rfl, rfl, rfl, rfl, rfl, trivial⟩ (fun _ => Wd.pik [0, 1, 2] [0, 1, 2, 3, 4, 5] rfl rfl rfl)
            · refine R.regQ rfl mixed (by kernel_rfl) <| Q.q (q.fld (off' := 3) rfl tFld_29_3 rfl) rfl <| Q.q (q.ld 2 rfl rfl tOne_27 rfl) rfl <| Q.u 1 rfl <| Q.q (q.idx (i := m2) (fun _ => Wd.fls 3 rfl) rfl rfl tSl_27 rfl hx4) rfl <| Q.q (q.fldE (j' := 0) (fun _ => Wd.fls 3 rfl) hx4 rfl tFld_40_0 rfl) rfl <| Q.q (q.ldE (fun _ => Wd.fls 3 rfl) hx4 rfl tOne_3 rfl) rfl <| Q.q (q.fld (off' := 3) rfl tFld_29_3 rfl) rfl <| Q.q (q.ld 2 rfl rfl tOne_27 rfl) rfl <| Q.u 1 rfl <| Q.q (q.idx (i := k2) (fun _ => Wd.fls 3 rfl) rfl rfl tSl_27 rfl hx5) rfl <| Q.q (q.fldE (j' := 0) (fun _ => Wd.fls 3 rfl) hx5 rfl tFld_40_0 rfl) rfl <| Q.q (q.ldE (fun _ => Wd.fls 3 rfl) hx5 rfl tOne_3 rfl) rfl <| Q.q (q.eql rfl rfl (beq_eq_false_iff_ne.2 (by omega))) rfl <| Q.nil ?_
              refine R.condF rfl rfl ?_
              refine R.reg rfl <| R.u 1 rfl <| R.q (q.add (r := ((m2 + 1 : Nat) : Int)) rfl rfl (wr (by omega))) rfl <| R.u 1 rfl <| R.nil ?_
              refine R.back ((m2 + 1), c) rfl (by (exact ⟨by omega, by omega, fun y hy => by have e0 := at_one' hx5 hy; rw [wait_miss hx4 (by rw [← e0]; omega)]; have := HW y hy; omega⟩)) (by dsimp only; omega) ⟨rfl, rfl, rfl, rfl, rfl, trivial⟩ (fun _ => Wd.pik [0, 1, 2] [0, 1, 2, 3, 4, 5] rfl rfl rfl)
          · refine R.q (q.lss rfl rfl (decide_eq_false (by omega))) rfl <| R.nil ?_
            refine R.condF rfl rfl ?_
            cases b
            · refine R.regQ rfl mixed (by kernel_rfl) <| Q.u 27 rfl <| Q.nil ?_
              refine R.condT rfl rfl ?_
              refine R.reg rfl <| R.u 1 rfl <| R.nil ?_
              exact R.rv rfl Try.results4 rfl (rB (by (exfalso; obtain ⟨y, hy⟩ : ∃ y, (((grownR l).1).Notes)[k2]? = some y := ⟨_, List.getElem?_eq_getElem (by omega)⟩; have q1 := HW y hy; rw [List.take_of_length_le (by omega)] at q1; have q2 := hI.wait y.Port; first | omega | (have q3 := HB y hy; rw [List.take_of_length_le (by omega), port_any hI (List.mem_of_getElem? hy)] at q3; exact Bool.false_ne_true q3) | (have e0 := at_one' rfl hy; subst e0; obtain ⟨w5, hw5, e5⟩ := hI.nthere _ (List.mem_of_getElem? hy) (by omega); first | omega | exact c1n w5 hw5 e5 | exact c2n w5 hw5 e5 | exact c3n w5 hw5 e5))))
            · by_cases h9 : 3 < c
              · refine R.regQ rfl mixed (by kernel_rfl) <| Q.u 4 rfl <| Q.qg rfl (q.gtr rfl rfl (decide_eq_true (by omega))) rfl <| Q.u 22 rfl <| Q.nil ?_
                refine R.condT rfl rfl ?_
                refine R.reg rfl <| R.u 1 rfl <| R.nil ?_
                exact R.rv rfl Try.results4 rfl (rB (by (exfalso; obtain ⟨y, hy⟩ : ∃ y, (((grownR l).1).Notes)[k2]? = some y := ⟨_, List.getElem?_eq_getElem (by omega)⟩; have q1 := HW y hy; rw [List.take_of_length_le (by omega)] at q1; have q2 := hI.wait y.Port; first | omega | (have q3 := HB y hy; rw [List.take_of_length_le (by omega), port_any hI (List.mem_of_getElem? hy)] at q3; exact Bool.false_ne_true q3) | (have e0 := at_one' rfl hy; subst e0; obtain ⟨w5, hw5, e5⟩ := hI.nthere _ (List.mem_of_getElem? hy) (by omega); first | omega | exact c1n w5 hw5 e5 | exact c2n w5 hw5 e5 | exact c3n w5 hw5 e5))))
              · obtain ⟨x6, hx6⟩ : ∃ z, (((grownR l).1).Notes)[k2]? = some z := ⟨_, List.getElem?_eq_getElem (by omega)⟩
                by_cases h10 : 0 < x6.Writ
                · rcases findW_cases (((grownR l).1).Writs) x6.Writ with ⟨c1f, c1n⟩ | ⟨c1j, c1h, c1f, c1e, c1m⟩
                  · refine R.regQ rfl mixed (by kernel_rfl) <| Q.u 4 rfl <| Q.qg rfl (q.gtr rfl rfl (decide_eq_false (by omega))) rfl <| Q.u 2 rfl <| Q.qg rfl (q.fld (off' := 3) rfl tFld_29_3 rfl) rfl <| Q.qg rfl (q.ld 2 rfl rfl tOne_27 rfl) rfl <| Q.u 1 rfl <| Q.qg rfl (q.idx (i := k2) (fun _ => Wd.fls 3 rfl) rfl rfl tSl_27 rfl hx6) rfl <| Q.qg rfl (q.fldE (j' := 3) (fun _ => Wd.fls 3 rfl) hx6 rfl tFld_40_3 rfl) rfl <| Q.qg rfl (q.ldE (fun _ => Wd.fls 3 rfl) hx6 rfl tOne_3 rfl) rfl <| Q.qg rfl (q.gtr rfl rfl (decide_eq_true (by omega))) rfl <| Q.u 1 rfl <| Q.qg rfl (q.fld (off' := 0) rfl tFld_29_0 rfl) rfl <| Q.qg rfl (q.ld 2 rfl rfl tOne_24 rfl) rfl <| Q.qg rfl (q.fld (off' := 3) rfl tFld_29_3 rfl) rfl <| Q.qg rfl (q.ld 2 rfl rfl tOne_27 rfl) rfl <| Q.u 1 rfl <| Q.qg rfl (q.idx (i := k2) (fun _ => Wd.fls 3 rfl) rfl rfl tSl_27 rfl hx6) rfl <| Q.qg rfl (q.fldE (j' := 3) (fun _ => Wd.fls 3 rfl) hx6 rfl tFld_40_3 rfl) rfl <| Q.qg rfl (q.ldE (fun _ => Wd.fls 3 rfl) hx6 rfl tOne_3 rfl) rfl <| Q.cg rfl (q.call eg_17 rfl rfl (fun w hw => (cv (congrArg (Value.int .i64) c1f) (find_any _ (((grownR l).1).Writs) (x6.Writ) w ((fun _ => Wd.fls 0 rfl) w hw) )))) rfl <| Q.qg rfl (q.lss (b := true) rfl rfl (by decide)) rfl <| Q.u 2 rfl <| Q.nil ?_
                    refine R.condT rfl rfl ?_
                    refine R.reg rfl <| R.u 1 rfl <| R.nil ?_
                    exact R.rv rfl Try.results4 rfl (rB (by (exfalso; obtain ⟨y, hy⟩ : ∃ y, (((grownR l).1).Notes)[k2]? = some y := ⟨_, List.getElem?_eq_getElem (by omega)⟩; have q1 := HW y hy; rw [List.take_of_length_le (by omega)] at q1; have q2 := hI.wait y.Port; first | omega | (have q3 := HB y hy; rw [List.take_of_length_le (by omega), port_any hI (List.mem_of_getElem? hy)] at q3; exact Bool.false_ne_true q3) | (have e0 := at_one' hx6 hy; subst e0; obtain ⟨w5, hw5, e5⟩ := hI.nthere _ (List.mem_of_getElem? hy) (by omega); first | omega | exact c1n w5 hw5 e5 | exact c2n w5 hw5 e5 | exact c3n w5 hw5 e5))))
                  · refine R.regQ rfl mixed (by kernel_rfl) <| Q.u 4 rfl <| Q.qg rfl (q.gtr rfl rfl (decide_eq_false (by omega))) rfl <| Q.u 2 rfl <| Q.qg rfl (q.fld (off' := 3) rfl tFld_29_3 rfl) rfl <| Q.qg rfl (q.ld 2 rfl rfl tOne_27 rfl) rfl <| Q.u 1 rfl <| Q.qg rfl (q.idx (i := k2) (fun _ => Wd.fls 3 rfl) rfl rfl tSl_27 rfl hx6) rfl <| Q.qg rfl (q.fldE (j' := 3) (fun _ => Wd.fls 3 rfl) hx6 rfl tFld_40_3 rfl) rfl <| Q.qg rfl (q.ldE (fun _ => Wd.fls 3 rfl) hx6 rfl tOne_3 rfl) rfl <| Q.qg rfl (q.gtr rfl rfl (decide_eq_true (by omega))) rfl <| Q.u 1 rfl <| Q.qg rfl (q.fld (off' := 0) rfl tFld_29_0 rfl) rfl <| Q.qg rfl (q.ld 2 rfl rfl tOne_24 rfl) rfl <| Q.qg rfl (q.fld (off' := 3) rfl tFld_29_3 rfl) rfl <| Q.qg rfl (q.ld 2 rfl rfl tOne_27 rfl) rfl <| Q.u 1 rfl <| Q.qg rfl (q.idx (i := k2) (fun _ => Wd.fls 3 rfl) rfl rfl tSl_27 rfl hx6) rfl <| Q.qg rfl (q.fldE (j' := 3) (fun _ => Wd.fls 3 rfl) hx6 rfl tFld_40_3 rfl) rfl <| Q.qg rfl (q.ldE (fun _ => Wd.fls 3 rfl) hx6 rfl tOne_3 rfl) rfl <| Q.cg rfl (q.call eg_17 rfl rfl (fun w hw => (cv (congrArg (Value.int .i64) c1f) (find_any _ (((grownR l).1).Writs) (x6.Writ) w ((fun _ => Wd.fls 0 rfl) w hw) )))) rfl <| Q.qg rfl (q.lss rfl rfl (decide_eq_false (by omega))) rfl <| Q.u 2 rfl <| Q.nil ?_
                    refine R.condF rfl rfl ?_
                    refine R.reg rfl <| R.u 1 rfl <| R.q (q.add (r := ((k2 + 1 : Nat) : Int)) rfl rfl (wr (by omega))) rfl <| R.u 1 rfl <| R.nil ?_
                    refine R.back (k2 + 1) rfl (by (omega)) (by omega) ⟨rfl, rfl, trivial⟩ (fun _ => Wd.pik [0, 1, 2] [0, 1, 2, 3, 4, 5] rfl rfl rfl)
                · refine R.regQ rfl mixed (by kernel_rfl) <| Q.u 4 rfl <| Q.qg rfl (q.gtr rfl rfl (decide_eq_false (by omega))) rfl <| Q.u 2 rfl <| Q.qg rfl (q.fld (off' := 3) rfl tFld_29_3 rfl) rfl <| Q.qg rfl (q.ld 2 rfl rfl tOne_27 rfl) rfl <| Q.u 1 rfl <| Q.qg rfl (q.idx (i := k2) (fun _ => Wd.fls 3 rfl) rfl rfl tSl_27 rfl hx6) rfl <| Q.qg rfl (q.fldE (j' := 3) (fun _ => Wd.fls 3 rfl) hx6 rfl tFld_40_3 rfl) rfl <| Q.qg rfl (q.ldE (fun _ => Wd.fls 3 rfl) hx6 rfl tOne_3 rfl) rfl <| Q.qg rfl (q.gtr rfl rfl (decide_eq_false (by omega))) rfl <| Q.u 13 rfl <| Q.nil ?_
                  refine R.condF rfl rfl ?_
                  refine R.reg rfl <| R.u 1 rfl <| R.q (q.add (r := ((k2 + 1 : Nat) : Int)) rfl rfl (wr (by omega))) rfl <| R.u 1 rfl <| R.nil ?_
                  refine R.back (k2 + 1) rfl (by (omega)) (by omega) ⟨rfl, rfl, trivial⟩ (fun _ => Wd.pik [0, 1, 2] [0, 1, 2, 3, 4, 5] rfl rfl rfl)
      · refine R.q (q.lss rfl rfl (decide_eq_false (by omega))) rfl <| R.nil ?_
        refine R.condF rfl rfl ?_
        refine R.reg rfl <| R.u 1 rfl <| R.nil ?_
        exact R.rv rfl Try.results4 rfl (rB (by (first | rfl | (exfalso; omega))))

end Go.Proofs.Ytmbhcpaaaeobmaa
