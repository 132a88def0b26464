/-
  The walk of a law of the realm: cells.
-/
import Derived.Test.YtmbhcpaaaeobmaaActsW
import Derived.Test.YtmbhcpaaaeobmaaTopFacts3
namespace Go.Proofs.Ytmbhcpaaaeobmaa
open Go Go.RowKit
set_option linter.unusedVariables false
set_option linter.unusedSimpArgs false
set_option maxRecDepth 100000

set_option maxRecDepth 100000 in
theorem topCell_any (v_l : Value) (l : List Deed) (p : Place) (p2 : Place) (d : ByteArray) (w : World) (s_l : Sl w v_l l) (c_l : ∀ x ∈ l, Sl w x.cv x.Changes) : Calls Try.prog 12 #[v_l, .agg #[.int .i64 p.Holder, .int .i64 p.Slot], .agg #[.int .i64 p2.Holder, .int .i64 p2.Slot], .string d] w fun e w' => e = .returned (.bool true) ∧ Ext w w' := by
  have b_l := s_l.lenle
  refine R.enter (n := 137) (vs := [v_l, .agg #[.int .i64 p.Holder, .int .i64 p.Slot], .agg #[.int .i64 p2.Holder, .int .i64 p2.Slot], .string d]) [] [(0, v_l), (1, .agg #[.int .i64 p.Holder, .int .i64 p.Slot]), (2, .agg #[.int .i64 p2.Holder, .int .i64 p2.Slot]), (3, .string d)] Try.func12 rfl rfl rfl rfl ?_
  refine R.oldL s_l ?_
  refine R.oldF (r := Res.acts l) c_l (acts_lt c_l) ?_
  refine R.reg rfl <| ?_
  refine R.s rfl (s.box (cs := [.int .i64 p.Holder, .int .i64 p.Slot]) rfl rfl rfl) fun b1 => ?_
  refine R.s rfl (s.box (cs := [.int .i64 p2.Holder, .int .i64 p2.Slot]) rfl rfl rfl) fun b2 => ?_
  refine R.u 1 rfl <| R.nil ?_
  refine R.reg rfl <| R.c (q.call eg_14 rfl rfl (fun w hw => (made_any  w  ))) rfl <| R.u 1 rfl <| R.nil ?_
  refine R.reg rfl <| R.u 2 rfl <| R.nil ?_
  refine R.condF rfl rfl ?_
  refine R.reg rfl <| R.u 1 rfl <| ?_
  refine R.s (B' := (fun g_ : Value × Value × Value × Value => [Res.box b2 [.int .i64 p2.Holder, .int .i64 p2.Slot] 34, Res.box b1 [.int .i64 p.Holder, .int .i64 p.Slot] 34])) (F' := (fun g_ : Value × Value × Value × Value => [Res.ls g_.1 ((((grownR l)).1).Writs : List Writ), Res.ls g_.2.1 ((((grownR l)).1).Things : List Thing), Res.ls g_.2.2.1 ((((grownR l)).1).Held : List Held), Res.ls g_.2.2.2 ((((grownR l)).1).Notes : List Note), Res.acts l, Res.ls v_l (l : List Deed)])) rfl (s.callV (B0 := []) (Br := [Res.box b2 [.int .i64 p2.Holder, .int .i64 p2.Slot] 34, Res.box b1 [.int .i64 p.Holder, .int .i64 p.Slot] 34]) (F0 := [Res.ls v_l (l : List Deed), Res.acts l]) [0, 1] [1, 0] (fun g_ : Value × Value × Value × Value => .tuple #[.agg #[g_.1, g_.2.1, g_.2.2.1, g_.2.2.2, .int .i64 ((((grownR l)).1).NextWrit), .int .i64 ((((grownR l)).1).NextThing)], .bool (((grownR l)).2)]) (fun g_ : Value × Value × Value × Value => []) (fun g_ : Value × Value × Value × Value => [Res.ls g_.1 ((((grownR l)).1).Writs : List Writ), Res.ls g_.2.1 ((((grownR l)).1).Things : List Thing), Res.ls g_.2.2.1 ((((grownR l)).1).Held : List Held), Res.ls g_.2.2.2 ((((grownR l)).1).Notes : List Note)]) rfl rfl rfl eg_15 rfl rfl (fun w own hw H => grown_any v_l (l) w own H ) rfl) ?_
  rintro ⟨z1, z2, z3, z4⟩
  dsimp only
  refine R.u 3 rfl <| ?_
  refine R.s rfl (s.alloc (cs := [.slice none 0 0, .slice none 0 0, .slice none 0 0, .slice none 0 0, .int .i64 0, .int .i64 0]) tZero_29 rfl rfl) fun b3 => ?_
  refine R.s rfl (s.stV (us := [z1, z2, z3, z4, .int .i64 (((grownR l).1).NextWrit), .int .i64 (((grownR l).1).NextThing)]) (cs' := [z1, z2, z3, z4, .int .i64 (((grownR l).1).NextWrit), .int .i64 (((grownR l).1).NextThing)]) 0 _ rfl rfl rfl (fun _ _ => rfl) (.inl tAgg_29) (fun w hw => (one_cons (Sl.one ((fun _ => Wd.fls 0 rfl) w hw)) (one_cons (Sl.one ((fun _ => Wd.fls 1 rfl) w hw)) (one_cons (Sl.one ((fun _ => Wd.fls 2 rfl) w hw)) (one_cons (Sl.one ((fun _ => Wd.fls 3 rfl) w hw)) (one_cons rfl (one_cons rfl one_nil))))))) rfl rfl rfl) fun _ => ?_
  refine R.u 1 rfl <| R.nil ?_
  refine R.reg rfl <| R.u 1 rfl <| R.q (q.not rfl) rfl <| R.u 1 rfl <| ?_
  rcases Bool.eq_false_or_eq_true ((grownR l).2) with h1 | h1
  · rw [h1]
    refine R.u 1 rfl <| R.qg rfl (q.lenS rfl Try.underlying9) rfl <| ?_
    by_cases h2 : 20 < d.size
    · refine R.qg rfl (q.gtr rfl rfl (decide_eq_true (by omega))) rfl <| R.u 1 rfl <| R.nil ?_
      refine R.condT rfl rfl ?_
      refine R.reg rfl <| R.u 1 rfl <| R.nil ?_
      exact R.rv rfl Try.results12 rfl (rB (by (first | rfl | (exfalso; omega))))
    · refine R.qg rfl (q.gtr rfl rfl (decide_eq_false (by omega))) rfl <| R.u 1 rfl <| R.nil ?_
      refine R.condF rfl rfl ?_
      have hg := grown_facts (show (grownR l).2 = true from by first | assumption | (have hq := ‹(!(grownR l).2) = false›; simpa using hq)); have hI := hg.1; have hz := hg.2; have hk : Ok (grownR l).1 := hz.ok (by decide); have bw := hk.wl; have bt := hk.tl; have bh := hk.hl; have bn := hk.nl
      refine R.reg rfl <| R.q (q.ldS 0 rfl rfl tAgg_29) rfl <| R.q (q.ldS 2 rfl rfl tAgg_34) rfl <| R.c (q.call eg_20 rfl rfl (fun w hw => (get_any _ _ _ _ (((grownR l).1)) (p) w ((fun _ => Wd.fls 0 rfl) w hw) ((fun _ => Wd.fls 1 rfl) w hw) ((fun _ => Wd.fls 2 rfl) w hw) ((fun _ => Wd.fls 3 rfl) w hw) (by assumption)))) rfl <| R.u 3 rfl <| ?_
      refine R.s rfl (s.alloc (cs := [.int .i64 0, .int .i64 0, .int .i64 0, .int .i64 0, .int .i64 0]) tZero_38 rfl rfl) fun b4 => ?_
      refine R.s rfl (s.st (us := [.int .i64 (((getR ((grownR l).1) p).1).ID), .int .i64 (((getR ((grownR l).1) p).1).Thing), .int .i64 (((getR ((grownR l).1) p).1).Rights), .int .i64 (((getR ((grownR l).1) p).1).Badge), .int .i64 (((getR ((grownR l).1) p).1).From)]) (cs' := [.int .i64 (((getR ((grownR l).1) p).1).ID), .int .i64 (((getR ((grownR l).1) p).1).Thing), .int .i64 (((getR ((grownR l).1) p).1).Rights), .int .i64 (((getR ((grownR l).1) p).1).Badge), .int .i64 (((getR ((grownR l).1) p).1).From)]) 0 _ rfl rfl rfl rfl (.inl tAgg_38) rfl rfl rfl rfl) fun _ => ?_
      refine R.u 1 rfl <| R.nil ?_
      refine R.reg rfl <| R.q (q.ldS 1 rfl rfl tAgg_29) rfl <| R.q (q.ldS 2 rfl rfl tAgg_34) rfl <| R.c (q.call eg_20 rfl rfl (fun w hw => (get_any _ _ _ _ (((grownR l).1)) (p2) w ((fun _ => Wd.fls 0 rfl) w hw) ((fun _ => Wd.fls 1 rfl) w hw) ((fun _ => Wd.fls 2 rfl) w hw) ((fun _ => Wd.fls 3 rfl) w hw) (by assumption)))) rfl <| R.u 3 rfl <| ?_
      refine R.s rfl (s.alloc (cs := [.int .i64 0, .int .i64 0, .int .i64 0, .int .i64 0, .int .i64 0]) tZero_38 rfl rfl) fun b5 => ?_
      refine R.s rfl (s.st (us := [.int .i64 (((getR ((grownR l).1) p2).1).ID), .int .i64 (((getR ((grownR l).1) p2).1).Thing), .int .i64 (((getR ((grownR l).1) p2).1).Rights), .int .i64 (((getR ((grownR l).1) p2).1).Badge), .int .i64 (((getR ((grownR l).1) p2).1).From)]) (cs' := [.int .i64 (((getR ((grownR l).1) p2).1).ID), .int .i64 (((getR ((grownR l).1) p2).1).Thing), .int .i64 (((getR ((grownR l).1) p2).1).Rights), .int .i64 (((getR ((grownR l).1) p2).1).Badge), .int .i64 (((getR ((grownR l).1) p2).1).From)]) 0 _ rfl rfl rfl rfl (.inl tAgg_38) rfl rfl rfl rfl) fun _ => ?_
      refine R.u 1 rfl <| R.nil ?_
      refine R.reg rfl <| R.q (q.ldS 2 rfl rfl tAgg_29) rfl <| R.q (q.ldS 4 rfl rfl tAgg_34) rfl <| R.u 1 rfl <| ?_
      refine R.s (B' := (fun g_ : Value × Value × Value × Value => [Res.box b5 [.int .i64 (((getR ((grownR l).1) p2).1).ID), .int .i64 (((getR ((grownR l).1) p2).1).Thing), .int .i64 (((getR ((grownR l).1) p2).1).Rights), .int .i64 (((getR ((grownR l).1) p2).1).Badge), .int .i64 (((getR ((grownR l).1) p2).1).From)] 38, Res.box b4 [.int .i64 (((getR ((grownR l).1) p).1).ID), .int .i64 (((getR ((grownR l).1) p).1).Thing), .int .i64 (((getR ((grownR l).1) p).1).Rights), .int .i64 (((getR ((grownR l).1) p).1).Badge), .int .i64 (((getR ((grownR l).1) p).1).From)] 38, Res.box b3 [z1, z2, z3, z4, .int .i64 (((grownR l).1).NextWrit), .int .i64 (((grownR l).1).NextThing)] 29, Res.box b2 [.int .i64 p2.Holder, .int .i64 p2.Slot] 34, Res.box b1 [.int .i64 p.Holder, .int .i64 p.Slot] 34])) (F' := (fun g_ : Value × Value × Value × Value => [Res.ls g_.1 ((((writeR ((grownR l).1) p d)).1).Writs : List Writ), Res.ls g_.2.1 ((((writeR ((grownR l).1) p d)).1).Things : List Thing), Res.ls g_.2.2.1 ((((writeR ((grownR l).1) p d)).1).Held : List Held), Res.ls g_.2.2.2 ((((writeR ((grownR l).1) p d)).1).Notes : List Note), Res.ls z1 (((grownR l).1).Writs : List Writ), Res.ls z2 (((grownR l).1).Things : List Thing), Res.ls z3 (((grownR l).1).Held : List Held), Res.ls z4 (((grownR l).1).Notes : List Note), Res.acts l, Res.ls v_l (l : List Deed)])) rfl (s.callV (B0 := []) (Br := [Res.box b5 [.int .i64 (((getR ((grownR l).1) p2).1).ID), .int .i64 (((getR ((grownR l).1) p2).1).Thing), .int .i64 (((getR ((grownR l).1) p2).1).Rights), .int .i64 (((getR ((grownR l).1) p2).1).Badge), .int .i64 (((getR ((grownR l).1) p2).1).From)] 38, Res.box b4 [.int .i64 (((getR ((grownR l).1) p).1).ID), .int .i64 (((getR ((grownR l).1) p).1).Thing), .int .i64 (((getR ((grownR l).1) p).1).Rights), .int .i64 (((getR ((grownR l).1) p).1).Badge), .int .i64 (((getR ((grownR l).1) p).1).From)] 38, Res.box b3 [z1, z2, z3, z4, .int .i64 (((grownR l).1).NextWrit), .int .i64 (((grownR l).1).NextThing)] 29, Res.box b2 [.int .i64 p2.Holder, .int .i64 p2.Slot] 34, Res.box b1 [.int .i64 p.Holder, .int .i64 p.Slot] 34]) (F0 := [Res.ls z1 (((grownR l).1).Writs : List Writ), Res.ls z2 (((grownR l).1).Things : List Thing), Res.ls z3 (((grownR l).1).Held : List Held), Res.ls z4 (((grownR l).1).Notes : List Note)]) [0, 1, 2, 3, 4] [0, 1, 2, 3] (fun g_ : Value × Value × Value × Value => .tuple #[.agg #[g_.1, g_.2.1, g_.2.2.1, g_.2.2.2, .int .i64 ((((writeR ((grownR l).1) p d)).1).NextWrit), .int .i64 ((((writeR ((grownR l).1) p d)).1).NextThing)], errv (((writeR ((grownR l).1) p d)).2)]) (fun g_ : Value × Value × Value × Value => []) (fun g_ : Value × Value × Value × Value => [Res.ls g_.1 ((((writeR ((grownR l).1) p d)).1).Writs : List Writ), Res.ls g_.2.1 ((((writeR ((grownR l).1) p d)).1).Things : List Thing), Res.ls g_.2.2.1 ((((writeR ((grownR l).1) p d)).1).Held : List Held), Res.ls g_.2.2.2 ((((writeR ((grownR l).1) p d)).1).Notes : List Note)]) rfl rfl rfl eg_39 rfl rfl (fun w own hw H => writeR_any z1 z2 z3 z4 (((grownR l).1)) (p) (d) w own H (by assumption)) rfl) ?_
      rintro ⟨z5, z6, z7, z8⟩
      dsimp only
      refine R.u 3 rfl <| ?_
      refine R.s rfl (s.alloc (cs := [.slice none 0 0, .slice none 0 0, .slice none 0 0, .slice none 0 0, .int .i64 0, .int .i64 0]) tZero_29 rfl rfl) fun b6 => ?_
      refine R.s rfl (s.stV (us := [z5, z6, z7, z8, .int .i64 (((writeR ((grownR l).1) p d).1).NextWrit), .int .i64 (((writeR ((grownR l).1) p d).1).NextThing)]) (cs' := [z5, z6, z7, z8, .int .i64 (((writeR ((grownR l).1) p d).1).NextWrit), .int .i64 (((writeR ((grownR l).1) p d).1).NextThing)]) 0 _ rfl rfl rfl (fun _ _ => rfl) (.inl tAgg_29) (fun w hw => (one_cons (Sl.one ((fun _ => Wd.fls 0 rfl) w hw)) (one_cons (Sl.one ((fun _ => Wd.fls 1 rfl) w hw)) (one_cons (Sl.one ((fun _ => Wd.fls 2 rfl) w hw)) (one_cons (Sl.one ((fun _ => Wd.fls 3 rfl) w hw)) (one_cons rfl (one_cons rfl one_nil))))))) rfl rfl rfl) fun _ => ?_
      refine R.u 1 rfl <| R.nil ?_
      refine R.reg rfl <| R.u 1 rfl <| ?_
      by_cases h3 : (writeR ((grownR l).1) p d).2 = 0
      · obtain ⟨w1, w2, w3⟩ := write_law h3; obtain ⟨c1, c2, c3, c4⟩ := cell_law (q := p2) h3; have c6 := decide_eq_true c1; have hk2 : Ok (writeR ((grownR l).1) p d).1 := (write_sz hz p d).ok (by decide); have gw := hk.get w1
        refine R.q (q.eqlE0 rfl rfl Try.underlying49 (by omega)) rfl <| R.u 2 rfl <| R.qg rfl (q.neqE0 rfl rfl Try.underlying49 (by omega)) rfl <| R.u 1 rfl <| R.qg rfl (q.fld (off' := 2) rfl tFld_38_2 rfl) rfl <| R.qg rfl (q.ld 2 rfl rfl tOne_3 rfl) rfl <| R.cg rfl (q.call eg_28 rfl rfl (fun w hw => (cv (congrArg Value.bool w2) (rightHas_any (((getR ((grownR l).1) p).1).Rights) (2) w  (by omega) (by omega))))) rfl <| R.u 4 rfl <| R.qg rfl (q.lenS rfl Try.underlying9) rfl <| R.qg rfl (q.gtr rfl rfl (decide_eq_false (by omega))) rfl <| R.u 2 rfl <| R.nil ?_
        refine R.condF rfl rfl ?_
        refine R.reg rfl <| R.q (q.ldS 3 rfl rfl tAgg_29) rfl <| R.q (q.ldS 4 rfl rfl tAgg_34) rfl <| R.c (q.call eg_40 rfl rfl (fun w hw => (readR_any _ _ _ _ (((grownR l).1)) (p2) w ((fun _ => Wd.fls 4 rfl) w hw) ((fun _ => Wd.fls 5 rfl) w hw) ((fun _ => Wd.fls 6 rfl) w hw) ((fun _ => Wd.fls 7 rfl) w hw) (by assumption)))) rfl <| R.u 5 rfl <| R.nil ?_
        refine R.reg rfl <| R.u 1 rfl <| ?_
        by_cases h4 : (readR ((grownR l).1) p2).2 = 0
        · obtain ⟨r1, r2⟩ := read_law h4; have gr := hk.get r1
          try (obtain ⟨c8, c9⟩ := c4 h4)
          refine R.q (q.eqlE0 rfl rfl Try.underlying49 (by omega)) rfl <| R.u 2 rfl <| R.qg rfl (q.neqE0 rfl rfl Try.underlying49 (by omega)) rfl <| R.u 1 rfl <| R.qg rfl (q.fld (off' := 2) rfl tFld_38_2 rfl) rfl <| R.qg rfl (q.ld 1 rfl rfl tOne_3 rfl) rfl <| R.cg rfl (q.call eg_28 rfl rfl (fun w hw => (cv (congrArg Value.bool r2) (rightHas_any (((getR ((grownR l).1) p2).1).Rights) (1) w  (by omega) (by omega))))) rfl <| R.u 3 rfl <| R.nil ?_
          refine R.condF rfl rfl ?_
          refine R.reg rfl <| R.u 1 rfl <| R.q (q.neqE0 rfl rfl Try.underlying49 (by omega)) rfl <| R.nil ?_
          refine R.condF rfl rfl ?_
          refine R.reg rfl <| R.q (q.ldS 0 rfl rfl tAgg_29) rfl <| R.q (q.ldS 4 rfl rfl tAgg_34) rfl <| R.c (q.call eg_40 rfl rfl (fun w hw => (readR_any _ _ _ _ (((writeR ((grownR l).1) p d).1)) (p2) w ((fun _ => Wd.fls 0 rfl) w hw) ((fun _ => Wd.fls 1 rfl) w hw) ((fun _ => Wd.fls 2 rfl) w hw) ((fun _ => Wd.fls 3 rfl) w hw) (by assumption)))) rfl <| R.u 5 rfl <| R.nil ?_
          refine R.reg rfl <| R.u 1 rfl <| R.c (q.call eg_22 rfl rfl (fun w hw => (number_any ((readR ((grownR l).1) p2).2) w  ))) rfl <| R.u 1 rfl <| R.c (q.call eg_22 rfl rfl (fun w hw => (number_any ((readR ((writeR ((grownR l).1) p d).1) p2).2) w  ))) rfl <| R.q (q.neq rfl rfl (bne_eq_false_iff_eq.2 (by omega))) rfl <| R.u 1 rfl <| R.qg rfl (q.fld (off' := 0) rfl tFld_29_0 rfl) rfl <| R.qg rfl (q.ld 0 rfl rfl tOne_24 rfl) rfl <| R.qg rfl (q.fld (off' := 0) rfl tFld_29_0 rfl) rfl <| R.qg rfl (q.ld 3 rfl rfl tOne_24 rfl) rfl <| R.cg rfl (q.call eg_41 rfl rfl (fun w hw => (cv (congrArg Value.bool c6) (sameWrits_any _ (((writeR ((grownR l).1) p d).1).Writs) _ (((grownR l).1).Writs) w ((fun _ => Wd.fls 0 rfl) w hw) ((fun _ => Wd.fls 4 rfl) w hw) )))) rfl <| R.u 2 rfl <| R.nil ?_
          refine R.condF rfl rfl ?_
          refine R.reg rfl <| R.u 1 rfl <| R.q (q.neqE0 rfl rfl Try.underlying49 (by omega)) rfl <| R.nil ?_
          refine R.condF rfl rfl ?_
          refine R.reg rfl <| R.q (q.fld (off' := 1) rfl tFld_38_1 rfl) rfl <| R.q (q.ld 2 rfl rfl tOne_3 rfl) rfl <| R.q (q.fld (off' := 1) rfl tFld_38_1 rfl) rfl <| R.q (q.ld 1 rfl rfl tOne_3 rfl) rfl <| ?_
          by_cases h5 : ((getR ((grownR l).1) p).1).Thing = ((getR ((grownR l).1) p2).1).Thing
          · have c10 := c8 h5
            refine R.q (q.eql rfl rfl (beq_iff_eq.2 (by omega))) rfl <| R.u 3 rfl <| R.qg rfl (q.eqlS1 rfl rfl ‹_›) rfl <| R.u 14 rfl <| R.nil ?_
            exact R.rv rfl Try.results12 rfl (rB (by (first | rfl | (exfalso; omega))))
          · have c10 := c9 h5
            refine R.q (q.eql rfl rfl (beq_eq_false_iff_ne.2 (by omega))) rfl <| R.u 6 rfl <| R.qg rfl (q.fld (off' := 1) rfl tFld_38_1 rfl) rfl <| R.qg rfl (q.ld 2 rfl rfl tOne_3 rfl) rfl <| R.qg rfl (q.fld (off' := 1) rfl tFld_38_1 rfl) rfl <| R.qg rfl (q.ld 1 rfl rfl tOne_3 rfl) rfl <| R.qg rfl (q.neq rfl rfl (bne_iff_ne.2 (by omega))) rfl <| R.u 3 rfl <| R.qg rfl (q.eqlS1 rfl rfl ‹_›) rfl <| R.u 3 rfl <| R.nil ?_
            exact R.rv rfl Try.results12 rfl (rB (by (first | rfl | (exfalso; omega))))
        · try (have c7 := c3 h4)
          refine R.q (q.eqlE1 rfl rfl Try.underlying49 (by omega)) rfl <| R.u 10 rfl <| R.nil ?_
          refine R.condF rfl rfl ?_
          refine R.reg rfl <| R.u 1 rfl <| R.q (q.neqE0 rfl rfl Try.underlying49 (by omega)) rfl <| R.nil ?_
          refine R.condF rfl rfl ?_
          refine R.reg rfl <| R.q (q.ldS 0 rfl rfl tAgg_29) rfl <| R.q (q.ldS 4 rfl rfl tAgg_34) rfl <| R.c (q.call eg_40 rfl rfl (fun w hw => (readR_any _ _ _ _ (((writeR ((grownR l).1) p d).1)) (p2) w ((fun _ => Wd.fls 0 rfl) w hw) ((fun _ => Wd.fls 1 rfl) w hw) ((fun _ => Wd.fls 2 rfl) w hw) ((fun _ => Wd.fls 3 rfl) w hw) (by assumption)))) rfl <| R.u 5 rfl <| R.nil ?_
          refine R.reg rfl <| R.u 1 rfl <| R.c (q.call eg_22 rfl rfl (fun w hw => (number_any ((readR ((grownR l).1) p2).2) w  ))) rfl <| R.u 1 rfl <| R.c (q.call eg_22 rfl rfl (fun w hw => (number_any ((readR ((writeR ((grownR l).1) p d).1) p2).2) w  ))) rfl <| R.q (q.neq rfl rfl (bne_eq_false_iff_eq.2 (by omega))) rfl <| R.u 1 rfl <| R.qg rfl (q.fld (off' := 0) rfl tFld_29_0 rfl) rfl <| R.qg rfl (q.ld 0 rfl rfl tOne_24 rfl) rfl <| R.qg rfl (q.fld (off' := 0) rfl tFld_29_0 rfl) rfl <| R.qg rfl (q.ld 3 rfl rfl tOne_24 rfl) rfl <| R.cg rfl (q.call eg_41 rfl rfl (fun w hw => (cv (congrArg Value.bool c6) (sameWrits_any _ (((writeR ((grownR l).1) p d).1).Writs) _ (((grownR l).1).Writs) w ((fun _ => Wd.fls 0 rfl) w hw) ((fun _ => Wd.fls 4 rfl) w hw) )))) rfl <| R.u 2 rfl <| R.nil ?_
          refine R.condF rfl rfl ?_
          refine R.reg rfl <| R.u 1 rfl <| R.q (q.neqE1 rfl rfl Try.underlying49 (by omega)) rfl <| R.nil ?_
          refine R.condT rfl rfl ?_
          refine R.reg rfl <| R.u 1 rfl <| R.q (q.eqlS1 rfl rfl ‹_›) rfl <| R.u 1 rfl <| R.nil ?_
          exact R.rv rfl Try.results12 rfl (rB (by (first | rfl | (exfalso; omega))))
      · refine R.q (q.eqlE1 rfl rfl Try.underlying49 (by omega)) rfl <| R.u 15 rfl <| R.nil ?_
        refine R.condF rfl rfl ?_
        refine R.reg rfl <| R.q (q.ldS 3 rfl rfl tAgg_29) rfl <| R.q (q.ldS 4 rfl rfl tAgg_34) rfl <| R.c (q.call eg_40 rfl rfl (fun w hw => (readR_any _ _ _ _ (((grownR l).1)) (p2) w ((fun _ => Wd.fls 4 rfl) w hw) ((fun _ => Wd.fls 5 rfl) w hw) ((fun _ => Wd.fls 6 rfl) w hw) ((fun _ => Wd.fls 7 rfl) w hw) (by assumption)))) rfl <| R.u 5 rfl <| R.nil ?_
        refine R.reg rfl <| R.u 1 rfl <| ?_
        by_cases h6 : (readR ((grownR l).1) p2).2 = 0
        · obtain ⟨r1, r2⟩ := read_law h6; have gr := hk.get r1
          try (obtain ⟨c8, c9⟩ := c4 h6)
          refine R.q (q.eqlE0 rfl rfl Try.underlying49 (by omega)) rfl <| R.u 2 rfl <| R.qg rfl (q.neqE0 rfl rfl Try.underlying49 (by omega)) rfl <| R.u 1 rfl <| R.qg rfl (q.fld (off' := 2) rfl tFld_38_2 rfl) rfl <| R.qg rfl (q.ld 1 rfl rfl tOne_3 rfl) rfl <| R.cg rfl (q.call eg_28 rfl rfl (fun w hw => (cv (congrArg Value.bool r2) (rightHas_any (((getR ((grownR l).1) p2).1).Rights) (1) w  (by omega) (by omega))))) rfl <| R.u 3 rfl <| R.nil ?_
          refine R.condF rfl rfl ?_
          refine R.reg rfl <| R.u 1 rfl <| R.q (q.neqE1 rfl rfl Try.underlying49 (by omega)) rfl <| R.nil ?_
          refine R.condT rfl rfl ?_
          refine R.reg rfl <| R.u 1 rfl <| R.nil ?_
          exact R.rv rfl Try.results12 rfl (rB (by (first | rfl | (exfalso; omega))))
        · try (have c7 := c3 h6)
          refine R.q (q.eqlE1 rfl rfl Try.underlying49 (by omega)) rfl <| R.u 10 rfl <| R.nil ?_
          refine R.condF rfl rfl ?_
          refine R.reg rfl <| R.u 1 rfl <| R.q (q.neqE1 rfl rfl Try.underlying49 (by omega)) rfl <| R.nil ?_
          refine R.condT rfl rfl ?_
          refine R.reg rfl <| R.u 1 rfl <| R.nil ?_
          exact R.rv rfl Try.results12 rfl (rB (by (first | rfl | (exfalso; omega))))
  · rw [h1]
    refine R.u 4 rfl <| R.nil ?_
    refine R.condT rfl rfl ?_
    refine R.reg rfl <| R.u 1 rfl <| R.nil ?_
    exact R.rv rfl Try.results12 rfl (rB (by (first | rfl | (exfalso; omega))))

end Go.Proofs.Ytmbhcpaaaeobmaa
