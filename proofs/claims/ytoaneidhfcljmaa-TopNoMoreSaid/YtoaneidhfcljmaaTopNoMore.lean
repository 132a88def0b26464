/-
  The walk of a law of the realm: nobody gets more.
-/
import Derived.Test.YtoaneidhfcljmaaActsW
import Derived.Test.YtoaneidhfcljmaaTopFacts8
namespace Go.Proofs.Ytoaneidhfcljmaa
open Go Go.RowKit
set_option linter.unusedVariables false
set_option linter.unusedSimpArgs false
set_option maxRecDepth 100000

set_option maxRecDepth 100000 in
theorem topNoMore_any (v_l : Value) (l : List Deed) (w : World) (s_l : Sl w v_l l) (c_l : ∀ x ∈ l, Sl w x.cv x.Changes) : Calls Try.prog 4 #[v_l] w fun e w' => e = .returned (.bool true) ∧ Ext w w' := by
  have b_l := s_l.lenle
  refine R.enter (n := 83) (vs := [v_l]) [] [(0, v_l)] Try.func4 rfl rfl rfl rfl ?_
  refine R.oldL s_l ?_
  refine R.oldF (r := Res.acts l) c_l (acts_lt c_l) ?_
  refine R.reg rfl <| R.u 1 rfl <| R.nil ?_
  refine R.reg rfl <| R.c (q.call eg_6 rfl rfl (fun w hw => (made_any  w  ))) rfl <| R.u 1 rfl <| R.nil ?_
  refine R.reg rfl <| R.u 2 rfl <| R.nil ?_
  refine R.condF rfl rfl ?_
  refine R.reg rfl <| R.u 1 rfl <| ?_
  refine R.s (B' := (fun g_ : Value × Value × Value × Value => [])) (F' := (fun g_ : Value × Value × Value × Value => [Res.ls g_.1 ((((grownR l)).1).Writs : List Writ), Res.ls g_.2.1 ((((grownR l)).1).Things : List Thing), Res.ls g_.2.2.1 ((((grownR l)).1).Held : List Held), Res.ls g_.2.2.2 ((((grownR l)).1).Notes : List Note), Res.acts l, Res.ls v_l (l : List Deed)])) rfl (s.callV (B0 := []) (Br := []) (F0 := [Res.ls v_l (l : List Deed), Res.acts l]) [] [1, 0] (fun g_ : Value × Value × Value × Value => .tuple #[.agg #[g_.1, g_.2.1, g_.2.2.1, g_.2.2.2, .int .i64 ((((grownR l)).1).NextWrit), .int .i64 ((((grownR l)).1).NextThing)], .bool (((grownR l)).2)]) (fun g_ : Value × Value × Value × Value => []) (fun g_ : Value × Value × Value × Value => [Res.ls g_.1 ((((grownR l)).1).Writs : List Writ), Res.ls g_.2.1 ((((grownR l)).1).Things : List Thing), Res.ls g_.2.2.1 ((((grownR l)).1).Held : List Held), Res.ls g_.2.2.2 ((((grownR l)).1).Notes : List Note)]) rfl rfl rfl eg_7 rfl rfl (fun w own hw H => grown_any v_l (l) w own H ) rfl) ?_
  rintro ⟨z1, z2, z3, z4⟩
  dsimp only
  refine R.u 3 rfl <| ?_
  refine R.s rfl (s.alloc (cs := [.slice none 0 0, .slice none 0 0, .slice none 0 0, .slice none 0 0, .int .i64 0, .int .i64 0]) tZero_31 rfl rfl) fun b1 => ?_
  refine R.s rfl (s.stV (us := [z1, z2, z3, z4, .int .i64 (((grownR l).1).NextWrit), .int .i64 (((grownR l).1).NextThing)]) (cs' := [z1, z2, z3, z4, .int .i64 (((grownR l).1).NextWrit), .int .i64 (((grownR l).1).NextThing)]) 0 _ rfl rfl rfl (fun _ _ => rfl) (.inl tAgg_31) (fun w hw => (one_cons (Sl.one ((fun _ => Wd.fls 0 rfl) w hw)) (one_cons (Sl.one ((fun _ => Wd.fls 1 rfl) w hw)) (one_cons (Sl.one ((fun _ => Wd.fls 2 rfl) w hw)) (one_cons (Sl.one ((fun _ => Wd.fls 3 rfl) w hw)) (one_cons rfl (one_cons rfl one_nil))))))) rfl rfl rfl) fun _ => ?_
  refine R.u 1 rfl <| R.nil ?_
  refine R.reg rfl <| R.u 1 rfl <| R.q (q.not rfl) rfl <| R.nil ?_
  refine R.cond rfl rfl (fun h1 => ?_) (fun h1 => ?_)
  · refine R.reg rfl <| R.u 1 rfl <| R.nil ?_
    exact R.rv rfl Try.results4 rfl (rB (by (first | rfl | (exfalso; omega))))
  · have hg := grown_facts (show (grownR l).2 = true from by first | assumption | (have hq := ‹(!(grownR l).2) = false›; simpa using hq)); have hI := hg.1; have hz := hg.2; have hk : Ok (grownR l).1 := hz.ok (by decide); have bw := hk.wl; have bt := hk.tl; have bh := hk.hl; have bn := hk.nl
    have hT : TreeOk (((grownR l).1).Writs) := hI.tree; have hT0 : treeFault (((grownR l).1).Writs) = 0 := hI.tree
    refine R.reg rfl <| R.q (q.fld (off' := 0) rfl tFld_31_0 rfl) rfl <| R.q (q.ld 0 rfl rfl tOne_26 rfl) rfl <| R.c (q.call eg_12 rfl rfl (fun w hw => (treeCheck_any _ (((grownR l).1).Writs) w ((fun _ => Wd.fls 0 rfl) w hw) ))) rfl <| R.q (q.neqE0 rfl rfl Try.underlying37 (by omega)) rfl <| R.nil ?_
    refine R.condF rfl rfl ?_
    refine R.reg rfl <| R.u 1 rfl <| R.nil ?_
    refine R.loop (fun k : Nat => [(4, .pointer (some ⟨b1, 0, none⟩)), (5, .int .i64 (k : Int))]) (fun k : Nat => [Res.box b1 [z1, z2, z3, z4, .int .i64 (((grownR l).1).NextWrit), .int .i64 (((grownR l).1).NextThing)] 31]) (fun k : Nat => [Res.ls z1 (((grownR l).1).Writs : List Writ), Res.ls z2 (((grownR l).1).Things : List Thing), Res.ls z3 (((grownR l).1).Held : List Held), Res.ls z4 (((grownR l).1).Notes : List Note), Res.acts l, Res.ls v_l (l : List Deed)]) (fun k : Nat => k ≤ (((grownR l).1).Writs).length) (fun k : Nat => (((grownR l).1).Writs).length - k) 0 rfl (by omega) ⟨rfl, rfl, trivial⟩ (fun _ => Wd.pick [0] [0, 1, 2, 3, 4, 5] rfl rfl rfl) ?_
    rintro k hk1
    refine R.reg rfl <| R.u 1 rfl <| R.q (q.fld (off' := 0) rfl tFld_31_0 rfl) rfl <| R.q (q.ld 0 rfl rfl tOne_26 rfl) rfl <| R.q (q.len' (fun _ => Wd.fls 0 rfl) rfl Try.underlying26) rfl <| ?_
    by_cases h2 : k < (((grownR l).1).Writs).length
    · refine R.q (q.lss rfl rfl (decide_eq_true (by omega))) rfl <| R.nil ?_
      refine R.condT rfl rfl ?_
      refine R.reg rfl <| R.q (q.fld (off' := 0) rfl tFld_31_0 rfl) rfl <| R.q (q.ld 0 rfl rfl tOne_26 rfl) rfl <| R.u 1 rfl <| ?_
      obtain ⟨x1, hx1⟩ : ∃ z, (((grownR l).1).Writs)[k]? = some z := ⟨_, List.getElem?_eq_getElem (by omega)⟩
      have ix1 := List.mem_of_getElem? hx1; have wx1 := hT.mem ix1; have rx1 := wx1.ri0; have sx1 := wx1.ri7; have alx1 := above_len hT x1.ID
      refine R.q (q.idx (i := k) (fun _ => Wd.fls 0 rfl) rfl rfl tSl_26 rfl hx1) rfl <| R.q (q.ldES (ds := [.int .i64 x1.ID, .int .i64 x1.Thing, .int .i64 x1.Rights, .int .i64 x1.Badge, .int .i64 x1.From]) (fun _ => Wd.fls 0 rfl) hx1 rfl tAgg_35 rfl) rfl <| ?_
      refine R.s rfl (s.alloc (cs := [.int .i64 0, .int .i64 0, .int .i64 0, .int .i64 0, .int .i64 0]) tZero_35 rfl rfl) fun b2 => ?_
      refine R.s rfl (s.st (us := [.int .i64 x1.ID, .int .i64 x1.Thing, .int .i64 x1.Rights, .int .i64 x1.Badge, .int .i64 x1.From]) (cs' := [.int .i64 x1.ID, .int .i64 x1.Thing, .int .i64 x1.Rights, .int .i64 x1.Badge, .int .i64 x1.From]) 0 _ rfl rfl rfl rfl (.inl tAgg_35) rfl rfl rfl rfl) fun _ => ?_
      refine R.nil ?_
      refine R.reg rfl <| R.q (q.fld (off' := 0) rfl tFld_31_0 rfl) rfl <| R.q (q.ld 1 rfl rfl tOne_26 rfl) rfl <| R.q (q.fld (off' := 0) rfl tFld_35_0 rfl) rfl <| R.q (q.ld 0 rfl rfl tOne_3 rfl) rfl <| ?_
      refine R.s rfl (s.callO eg_10 rfl rfl (fun w hw => above_any _ (((grownR l).1).Writs) (x1.ID) w ((fun _ => Wd.fls 0 rfl) w hw) (by assumption)) rfl) fun v1 => ?_
      refine R.u 1 rfl <| R.nil ?_
      refine R.reg rfl <| R.u 1 rfl <| R.nil ?_
      refine R.loop (fun m : Nat => [(4, .pointer (some ⟨b1, 0, none⟩)), (5, .int .i64 (k : Int)), (6, .pointer (some ⟨b2, 0, none⟩)), (7, v1), (8, .int .i64 (m : Int))]) (fun m : Nat => [Res.row 3 v1 ((above (((grownR l).1).Writs) x1.ID) : List Int), Res.box b2 [.int .i64 x1.ID, .int .i64 x1.Thing, .int .i64 x1.Rights, .int .i64 x1.Badge, .int .i64 x1.From] 35, Res.box b1 [z1, z2, z3, z4, .int .i64 (((grownR l).1).NextWrit), .int .i64 (((grownR l).1).NextThing)] 31]) (fun m : Nat => [Res.ls z1 (((grownR l).1).Writs : List Writ), Res.ls z2 (((grownR l).1).Things : List Thing), Res.ls z3 (((grownR l).1).Held : List Held), Res.ls z4 (((grownR l).1).Notes : List Note), Res.acts l, Res.ls v_l (l : List Deed)]) (fun m : Nat => m ≤ (above (((grownR l).1).Writs) x1.ID).length) (fun m : Nat => (above (((grownR l).1).Writs) x1.ID).length - m) 0 rfl (by omega) ⟨rfl, rfl, rfl, rfl, rfl, trivial⟩ (fun _ => Wd.pick [0, 1, 2] [0, 1, 2, 3, 4, 5] rfl rfl rfl) ?_
      rintro m hm1
      refine R.reg rfl <| R.u 2 rfl <| R.q (q.len' (fun _ => Wd.row 0 rfl) rfl Try.underlying42) rfl <| ?_
      by_cases h3 : m < (above (((grownR l).1).Writs) x1.ID).length
      · refine R.q (q.lss rfl rfl (decide_eq_true (by omega))) rfl <| R.nil ?_
        refine R.condT rfl rfl ?_
        obtain ⟨x2, hx2⟩ : ∃ z, (above (((grownR l).1).Writs) x1.ID)[m]? = some z := ⟨_, List.getElem?_eq_getElem (by omega)⟩
        obtain ⟨f3, x3, hx3, i3, n3⟩ := above_at hT ix1 (List.mem_of_getElem? hx2); have t3 := n3.thing; have g3 := n3.badge; have w3 := hT.mem i3; have r3 := w3.ri0; have s3 := w3.ri7
        refine R.regD (fuel := 13) (Wd w [] [Res.row 3 v1 ((above (((grownR l).1).Writs) x1.ID) : List Int), Res.box b2 [.int .i64 x1.ID, .int .i64 x1.Thing, .int .i64 x1.Rights, .int .i64 x1.Badge, .int .i64 x1.From] 35, Res.box b1 [z1, z2, z3, z4, .int .i64 (((grownR l).1).NextWrit), .int .i64 (((grownR l).1).NextThing)] 31] [Res.ls z1 (((grownR l).1).Writs : List Writ), Res.ls z2 (((grownR l).1).Things : List Thing), Res.ls z3 (((grownR l).1).Held : List Held), Res.ls z4 (((grownR l).1).Notes : List Note), Res.acts l, Res.ls v_l (l : List Deed)]) rfl mixed rfl ?_
        refine D.q (i := 0) rfl (by kernel_rfl) (fun _ => Wd.pik [0, 1, 2] [0, 1, 2, 3, 4, 5] rfl rfl rfl) rfl (q.fld (off' := 0) rfl tFld_31_0 rfl) rfl <| D.q (i := 1) rfl (by kernel_rfl) (fun _ => Wd.pik [0, 1, 2] [0, 1, 2, 3, 4, 5] rfl rfl rfl) rfl (q.ld 2 rfl rfl tOne_26 rfl) rfl <| D.q (i := 2) rfl (by kernel_rfl) (fun _ => Wd.pik [0, 1, 2] [0, 1, 2, 3, 4, 5] rfl rfl rfl) rfl (q.fld (off' := 0) rfl tFld_31_0 rfl) rfl <| D.q (i := 3) rfl (by kernel_rfl) (fun _ => Wd.pik [0, 1, 2] [0, 1, 2, 3, 4, 5] rfl rfl rfl) rfl (q.ld 2 rfl rfl tOne_26 rfl) rfl <| D.q (i := 4) rfl (by kernel_rfl) (fun _ => Wd.pik [0, 1, 2] [0, 1, 2, 3, 4, 5] rfl rfl rfl) rfl (q.mv rfl) rfl <| D.q (i := 5) rfl (by kernel_rfl) (fun _ => Wd.pik [0, 1, 2] [0, 1, 2, 3, 4, 5] rfl rfl rfl) rfl (q.mv rfl) rfl <| D.q (i := 6) rfl (by kernel_rfl) (fun _ => Wd.pik [0, 1, 2] [0, 1, 2, 3, 4, 5] rfl rfl rfl) rfl (q.idx (i := m) (fun _ => Wd.row 0 rfl) rfl rfl tSl_42 rfl hx2) rfl <| D.q (i := 7) rfl (by kernel_rfl) (fun _ => Wd.pik [0, 1, 2] [0, 1, 2, 3, 4, 5] rfl rfl rfl) rfl (q.ldE (fun _ => Wd.row 0 rfl) hx2 rfl tOne_3 rfl) rfl <| ?_
        refine D.two (i := 8) (j := 11) (by kernel_rfl) rfl rfl ?_ ?_
        · refine Do.s (s.c (q.call eg_11 rfl rfl (fun w hw => (find_any _ (((grownR l).1).Writs) (x2) w ((fun _ => Wd.fls 0 rfl) w hw) ))) rfl) (fun _ => (fun _ => Wd.pik [0, 1, 2] [0, 1, 2, 3, 4, 5] rfl rfl rfl)) rfl fun _ => ?_
          refine D.q (i := 9) rfl (by kernel_rfl) (fun _ => Wd.pik [0, 1, 2] [0, 1, 2, 3, 4, 5] rfl rfl rfl) rfl (q.idx (i := (findW (((grownR l).1).Writs) x2).toNat) (fun _ => Wd.fls 0 rfl) rfl rfl tSl_26 (by omega) hx3) rfl <| D.q (i := 10) rfl (by kernel_rfl) (fun _ => Wd.pik [0, 1, 2] [0, 1, 2, 3, 4, 5] rfl rfl rfl) rfl (q.ldES (ds := [.int .i64 x3.ID, .int .i64 x3.Thing, .int .i64 x3.Rights, .int .i64 x3.Badge, .int .i64 x3.From]) (fun _ => Wd.fls 0 rfl) hx3 rfl tAgg_35 rfl) rfl <| ?_
          refine D.one (i := 11) (by kernel_rfl) rfl ?_
          refine Do.s (s.alloc (cs := [.int .i64 0, .int .i64 0, .int .i64 0, .int .i64 0, .int .i64 0]) tZero_35 rfl rfl) (fun _ => (fun _ => Wd.pik [1, 2, 3] [0, 1, 2, 3, 4, 5] rfl rfl rfl)) rfl fun b3 => ?_
          refine D.one (i := 12) (by kernel_rfl) rfl ?_
          refine Do.s (s.st (us := [.int .i64 x3.ID, .int .i64 x3.Thing, .int .i64 x3.Rights, .int .i64 x3.Badge, .int .i64 x3.From]) (cs' := [.int .i64 x3.ID, .int .i64 x3.Thing, .int .i64 x3.Rights, .int .i64 x3.Badge, .int .i64 x3.From]) 0 _ rfl rfl rfl rfl (.inl tAgg_35) rfl rfl rfl rfl) (fun _ => (fun _ => Wd.pik [1, 2, 3] [0, 1, 2, 3, 4, 5] rfl rfl rfl)) rfl fun _ => ?_
          refine D.done (by kernel_rfl) <| ?_
          refine R.reg rfl <| R.q (q.fld (off' := 2) rfl tFld_35_2 rfl) rfl <| R.q (q.ld 0 rfl rfl tOne_3 rfl) rfl <| R.q (q.fld (off' := 2) rfl tFld_35_2 rfl) rfl <| R.q (q.ld 2 rfl rfl tOne_3 rfl) rfl <| R.c (q.call eg_13 rfl rfl (fun w hw => (cv (congrArg Value.bool n3.has) (rightHas_any (x3.Rights) (x1.Rights) w  (by omega) (by omega))))) rfl <| R.u 2 rfl <| R.qg rfl (q.fld (off' := 1) rfl tFld_35_1 rfl) rfl <| R.qg rfl (q.ld 0 rfl rfl tOne_3 rfl) rfl <| R.qg rfl (q.fld (off' := 1) rfl tFld_35_1 rfl) rfl <| R.qg rfl (q.ld 2 rfl rfl tOne_3 rfl) rfl <| R.qg rfl (q.neq rfl rfl (bne_eq_false_iff_eq.2 (by omega))) rfl <| R.u 2 rfl <| R.qg rfl (q.fld (off' := 3) rfl tFld_35_3 rfl) rfl <| R.qg rfl (q.ld 0 rfl rfl tOne_3 rfl) rfl <| ?_
          by_cases h4 : x3.Badge = 0
          · refine R.qg rfl (q.neq rfl rfl (bne_eq_false_iff_eq.2 (by omega))) rfl <| R.u 8 rfl <| R.nil ?_
            refine R.condF rfl rfl ?_
            refine R.reg rfl <| R.u 1 rfl <| R.q (q.add (r := ((m + 1 : Nat) : Int)) rfl rfl (wr (by omega))) rfl <| R.u 1 rfl <| R.nil ?_
            refine R.back (m + 1) rfl (by (omega)) (by omega) ⟨rfl, rfl, rfl, rfl, rfl, trivial⟩ (fun _ => Wd.pik [1, 2, 3] [0, 1, 2, 3, 4, 5] rfl rfl rfl)
          · refine R.qg rfl (q.neq rfl rfl (bne_iff_ne.2 (by omega))) rfl <| R.u 1 rfl <| R.qg rfl (q.fld (off' := 3) rfl tFld_35_3 rfl) rfl <| R.qg rfl (q.ld 0 rfl rfl tOne_3 rfl) rfl <| R.qg rfl (q.fld (off' := 3) rfl tFld_35_3 rfl) rfl <| R.qg rfl (q.ld 2 rfl rfl tOne_3 rfl) rfl <| ?_
            by_cases h5 : x3.Badge = x1.Badge
            · refine R.qg rfl (q.neq rfl rfl (bne_eq_false_iff_eq.2 (by omega))) rfl <| R.u 2 rfl <| R.nil ?_
              refine R.condF rfl rfl ?_
              refine R.reg rfl <| R.u 1 rfl <| R.q (q.add (r := ((m + 1 : Nat) : Int)) rfl rfl (wr (by omega))) rfl <| R.u 1 rfl <| R.nil ?_
              refine R.back (m + 1) rfl (by (omega)) (by omega) ⟨rfl, rfl, rfl, rfl, rfl, trivial⟩ (fun _ => Wd.pik [1, 2, 3] [0, 1, 2, 3, 4, 5] rfl rfl rfl)
            · refine R.qg rfl (q.neq rfl rfl (bne_iff_ne.2 (by omega))) rfl <| R.u 2 rfl <| R.nil ?_
              refine R.condT rfl rfl ?_
              refine R.reg rfl <| R.u 1 rfl <| R.nil ?_
              exact R.rv rfl Try.results4 rfl (rB (by (first | rfl | (exfalso; omega))))
        · refine Do.s (s.alloc (cs := [.int .i64 0, .int .i64 0, .int .i64 0, .int .i64 0, .int .i64 0]) tZero_35 rfl rfl) (fun _ => (fun _ => Wd.pik [1, 2, 3] [0, 1, 2, 3, 4, 5] rfl rfl rfl)) rfl fun b4 => ?_
          refine D.one (i := 8) (by kernel_rfl) rfl ?_
          refine Do.s (s.c (q.call eg_11 rfl rfl (fun w hw => (find_any _ (((grownR l).1).Writs) (x2) w ((fun _ => Wd.fls 0 rfl) w hw) ))) rfl) (fun _ => (fun _ => Wd.pik [1, 2, 3] [0, 1, 2, 3, 4, 5] rfl rfl rfl)) rfl fun _ => ?_
          refine D.q (i := 9) rfl (by kernel_rfl) (fun _ => Wd.pik [1, 2, 3] [0, 1, 2, 3, 4, 5] rfl rfl rfl) rfl (q.idx (i := (findW (((grownR l).1).Writs) x2).toNat) (fun _ => Wd.fls 0 rfl) rfl rfl tSl_26 (by omega) hx3) rfl <| D.q (i := 10) rfl (by kernel_rfl) (fun _ => Wd.pik [1, 2, 3] [0, 1, 2, 3, 4, 5] rfl rfl rfl) rfl (q.ldES (ds := [.int .i64 x3.ID, .int .i64 x3.Thing, .int .i64 x3.Rights, .int .i64 x3.Badge, .int .i64 x3.From]) (fun _ => Wd.fls 0 rfl) hx3 rfl tAgg_35 rfl) rfl <| ?_
          refine D.one (i := 12) (by kernel_rfl) rfl ?_
          refine Do.s (s.st (us := [.int .i64 x3.ID, .int .i64 x3.Thing, .int .i64 x3.Rights, .int .i64 x3.Badge, .int .i64 x3.From]) (cs' := [.int .i64 x3.ID, .int .i64 x3.Thing, .int .i64 x3.Rights, .int .i64 x3.Badge, .int .i64 x3.From]) 0 _ rfl rfl rfl rfl (.inl tAgg_35) rfl rfl rfl rfl) (fun _ => (fun _ => Wd.pik [1, 2, 3] [0, 1, 2, 3, 4, 5] rfl rfl rfl)) rfl fun _ => ?_
          refine D.done (by kernel_rfl) <| ?_
          refine R.reg rfl <| R.q (q.fld (off' := 2) rfl tFld_35_2 rfl) rfl <| R.q (q.ld 0 rfl rfl tOne_3 rfl) rfl <| R.q (q.fld (off' := 2) rfl tFld_35_2 rfl) rfl <| R.q (q.ld 2 rfl rfl tOne_3 rfl) rfl <| R.c (q.call eg_13 rfl rfl (fun w hw => (cv (congrArg Value.bool n3.has) (rightHas_any (x3.Rights) (x1.Rights) w  (by omega) (by omega))))) rfl <| R.u 2 rfl <| R.qg rfl (q.fld (off' := 1) rfl tFld_35_1 rfl) rfl <| R.qg rfl (q.ld 0 rfl rfl tOne_3 rfl) rfl <| R.qg rfl (q.fld (off' := 1) rfl tFld_35_1 rfl) rfl <| R.qg rfl (q.ld 2 rfl rfl tOne_3 rfl) rfl <| R.qg rfl (q.neq rfl rfl (bne_eq_false_iff_eq.2 (by omega))) rfl <| R.u 2 rfl <| R.qg rfl (q.fld (off' := 3) rfl tFld_35_3 rfl) rfl <| R.qg rfl (q.ld 0 rfl rfl tOne_3 rfl) rfl <| ?_
          by_cases h6 : x3.Badge = 0
          · refine R.qg rfl (q.neq rfl rfl (bne_eq_false_iff_eq.2 (by omega))) rfl <| R.u 8 rfl <| R.nil ?_
            refine R.condF rfl rfl ?_
            refine R.reg rfl <| R.u 1 rfl <| R.q (q.add (r := ((m + 1 : Nat) : Int)) rfl rfl (wr (by omega))) rfl <| R.u 1 rfl <| R.nil ?_
            refine R.back (m + 1) rfl (by (omega)) (by omega) ⟨rfl, rfl, rfl, rfl, rfl, trivial⟩ (fun _ => Wd.pik [1, 2, 3] [0, 1, 2, 3, 4, 5] rfl rfl rfl)
          · refine R.qg rfl (q.neq rfl rfl (bne_iff_ne.2 (by omega))) rfl <| R.u 1 rfl <| R.qg rfl (q.fld (off' := 3) rfl tFld_35_3 rfl) rfl <| R.qg rfl (q.ld 0 rfl rfl tOne_3 rfl) rfl <| R.qg rfl (q.fld (off' := 3) rfl tFld_35_3 rfl) rfl <| R.qg rfl (q.ld 2 rfl rfl tOne_3 rfl) rfl <| ?_
            by_cases h7 : x3.Badge = x1.Badge
            · refine R.qg rfl (q.neq rfl rfl (bne_eq_false_iff_eq.2 (by omega))) rfl <| R.u 2 rfl <| R.nil ?_
              refine R.condF rfl rfl ?_
              refine R.reg rfl <| R.u 1 rfl <| R.q (q.add (r := ((m + 1 : Nat) : Int)) rfl rfl (wr (by omega))) rfl <| R.u 1 rfl <| R.nil ?_
              refine R.back (m + 1) rfl (by (omega)) (by omega) ⟨rfl, rfl, rfl, rfl, rfl, trivial⟩ (fun _ => Wd.pik [1, 2, 3] [0, 1, 2, 3, 4, 5] rfl rfl rfl)
            · refine R.qg rfl (q.neq rfl rfl (bne_iff_ne.2 (by omega))) rfl <| R.u 2 rfl <| R.nil ?_
              refine R.condT rfl rfl ?_
              refine R.reg rfl <| R.u 1 rfl <| R.nil ?_
              exact R.rv rfl Try.results4 rfl (rB (by (first | rfl | (exfalso; omega))))
      · refine R.q (q.lss rfl rfl (decide_eq_false (by omega))) rfl <| R.nil ?_
        refine R.condF rfl rfl ?_
        refine R.reg rfl <| R.u 1 rfl <| R.q (q.add (r := ((k + 1 : Nat) : Int)) rfl rfl (wr (by omega))) rfl <| R.u 1 rfl <| R.nil ?_
        refine R.back (k + 1) rfl (by (omega)) (by omega) ⟨rfl, rfl, trivial⟩ (fun _ => Wd.pik [2] [0, 1, 2, 3, 4, 5] rfl rfl rfl)
    · refine R.q (q.lss rfl rfl (decide_eq_false (by omega))) rfl <| R.nil ?_
      refine R.condF rfl rfl ?_
      refine R.reg rfl <| R.u 1 rfl <| R.nil ?_
      exact R.rv rfl Try.results4 rfl (rB (by (first | rfl | (exfalso; omega))))

end Go.Proofs.Ytoaneidhfcljmaa
