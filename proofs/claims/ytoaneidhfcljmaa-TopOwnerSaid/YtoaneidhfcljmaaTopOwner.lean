/-
  The walk of a law of the realm: who made it takes it back.
-/
import Derived.Test.YtoaneidhfcljmaaActsW
import Derived.Test.YtoaneidhfcljmaaTopFacts8
namespace Go.Proofs.Ytoaneidhfcljmaa
open Go Go.RowKit
set_option linter.unusedVariables false
set_option linter.unusedSimpArgs false
set_option maxRecDepth 100000

set_option maxRecDepth 100000 in
theorem topOwner_any (v_l : Value) (l : List Deed) (p : Place) (w : World) (s_l : Sl w v_l l) (c_l : ∀ x ∈ l, Sl w x.cv x.Changes) : Calls Try.prog 3 #[v_l, .agg #[.int .i64 p.Holder, .int .i64 p.Slot]] w fun e w' => e = .returned (.bool true) ∧ Ext w w' := by
  have b_l := s_l.lenle
  refine R.enter (n := 103) (vs := [v_l, .agg #[.int .i64 p.Holder, .int .i64 p.Slot]]) [] [(0, v_l), (1, .agg #[.int .i64 p.Holder, .int .i64 p.Slot])] Try.func3 rfl rfl rfl rfl ?_
  refine R.oldL s_l ?_
  refine R.oldF (r := Res.acts l) c_l (acts_lt c_l) ?_
  refine R.reg rfl <| ?_
  refine R.s rfl (s.box (cs := [.int .i64 p.Holder, .int .i64 p.Slot]) rfl rfl rfl) fun b1 => ?_
  refine R.u 1 rfl <| R.nil ?_
  refine R.reg rfl <| R.c (q.call eg_6 rfl rfl (fun w hw => (made_any  w  ))) rfl <| R.u 1 rfl <| R.nil ?_
  refine R.reg rfl <| R.u 2 rfl <| R.nil ?_
  refine R.condF rfl rfl ?_
  refine R.reg rfl <| R.u 1 rfl <| ?_
  refine R.s (B' := (fun g_ : Value × Value × Value × Value => [Res.box b1 [.int .i64 p.Holder, .int .i64 p.Slot] 24])) (F' := (fun g_ : Value × Value × Value × Value => [Res.ls g_.1 ((((grownR l)).1).Writs : List Writ), Res.ls g_.2.1 ((((grownR l)).1).Things : List Thing), Res.ls g_.2.2.1 ((((grownR l)).1).Held : List Held), Res.ls g_.2.2.2 ((((grownR l)).1).Notes : List Note), Res.acts l, Res.ls v_l (l : List Deed)])) rfl (s.callV (B0 := []) (Br := [Res.box b1 [.int .i64 p.Holder, .int .i64 p.Slot] 24]) (F0 := [Res.ls v_l (l : List Deed), Res.acts l]) [0] [1, 0] (fun g_ : Value × Value × Value × Value => .tuple #[.agg #[g_.1, g_.2.1, g_.2.2.1, g_.2.2.2, .int .i64 ((((grownR l)).1).NextWrit), .int .i64 ((((grownR l)).1).NextThing)], .bool (((grownR l)).2)]) (fun g_ : Value × Value × Value × Value => []) (fun g_ : Value × Value × Value × Value => [Res.ls g_.1 ((((grownR l)).1).Writs : List Writ), Res.ls g_.2.1 ((((grownR l)).1).Things : List Thing), Res.ls g_.2.2.1 ((((grownR l)).1).Held : List Held), Res.ls g_.2.2.2 ((((grownR l)).1).Notes : List Note)]) rfl rfl rfl eg_7 rfl rfl (fun w own hw H => grown_any v_l (l) w own H ) rfl) ?_
  rintro ⟨z1, z2, z3, z4⟩
  dsimp only
  refine R.u 3 rfl <| ?_
  refine R.s rfl (s.alloc (cs := [.slice none 0 0, .slice none 0 0, .slice none 0 0, .slice none 0 0, .int .i64 0, .int .i64 0]) tZero_31 rfl rfl) fun b2 => ?_
  refine R.s rfl (s.stV (us := [z1, z2, z3, z4, .int .i64 (((grownR l).1).NextWrit), .int .i64 (((grownR l).1).NextThing)]) (cs' := [z1, z2, z3, z4, .int .i64 (((grownR l).1).NextWrit), .int .i64 (((grownR l).1).NextThing)]) 0 _ rfl rfl rfl (fun _ _ => rfl) (.inl tAgg_31) (fun w hw => (one_cons (Sl.one ((fun _ => Wd.fls 0 rfl) w hw)) (one_cons (Sl.one ((fun _ => Wd.fls 1 rfl) w hw)) (one_cons (Sl.one ((fun _ => Wd.fls 2 rfl) w hw)) (one_cons (Sl.one ((fun _ => Wd.fls 3 rfl) w hw)) (one_cons rfl (one_cons rfl one_nil))))))) rfl rfl rfl) fun _ => ?_
  refine R.u 1 rfl <| R.nil ?_
  refine R.reg rfl <| R.u 1 rfl <| R.q (q.not rfl) rfl <| R.nil ?_
  refine R.cond rfl rfl (fun h1 => ?_) (fun h1 => ?_)
  · refine R.reg rfl <| R.u 1 rfl <| R.nil ?_
    exact R.rv rfl Try.results3 rfl (rB (by (first | rfl | (exfalso; omega))))
  · have hg := grown_facts (show (grownR l).2 = true from by first | assumption | (have hq := ‹(!(grownR l).2) = false›; simpa using hq)); have hI := hg.1; have hz := hg.2; have hk : Ok (grownR l).1 := hz.ok (by decide); have bw := hk.wl; have bt := hk.tl; have bh := hk.hl; have bn := hk.nl
    refine R.reg rfl <| R.q (q.ldS 0 rfl rfl tAgg_31) rfl <| R.q (q.ldS 1 rfl rfl tAgg_24) rfl <| R.c (q.call eg_8 rfl rfl (fun w hw => (get_any _ _ _ _ (((grownR l).1)) (p) w ((fun _ => Wd.fls 0 rfl) w hw) ((fun _ => Wd.fls 1 rfl) w hw) ((fun _ => Wd.fls 2 rfl) w hw) ((fun _ => Wd.fls 3 rfl) w hw) (by assumption)))) rfl <| R.u 3 rfl <| ?_
    refine R.s rfl (s.alloc (cs := [.int .i64 0, .int .i64 0, .int .i64 0, .int .i64 0, .int .i64 0]) tZero_35 rfl rfl) fun b3 => ?_
    refine R.s rfl (s.st (us := [.int .i64 (((getR ((grownR l).1) p).1).ID), .int .i64 (((getR ((grownR l).1) p).1).Thing), .int .i64 (((getR ((grownR l).1) p).1).Rights), .int .i64 (((getR ((grownR l).1) p).1).Badge), .int .i64 (((getR ((grownR l).1) p).1).From)]) (cs' := [.int .i64 (((getR ((grownR l).1) p).1).ID), .int .i64 (((getR ((grownR l).1) p).1).Thing), .int .i64 (((getR ((grownR l).1) p).1).Rights), .int .i64 (((getR ((grownR l).1) p).1).Badge), .int .i64 (((getR ((grownR l).1) p).1).From)]) 0 _ rfl rfl rfl rfl (.inl tAgg_35) rfl rfl rfl rfl) fun _ => ?_
    refine R.u 1 rfl <| R.nil ?_
    refine R.reg rfl <| R.u 1 rfl <| ?_
    by_cases h2 : (getR ((grownR l).1) p).2 = 0
    · have fd : (revokeR ((grownR l).1) p).2 = 0 := by unfold revokeR; rw [if_pos h2]
      obtain ⟨f1, f2, f3⟩ := revoke_law hI fd; have f4 := revoke_there hI fd; have jI := hI.revoke fd; have hT : TreeOk (((revokeR ((grownR l).1) p).1).Writs) := jI.tree; have hk2 : Ok (revokeR ((grownR l).1) p).1 := (revoke_sz hz p).ok (by decide); have bw2 := hk2.wl; have bh2 := hk2.hl; have bn2 := hk2.nl
      refine R.q (q.neqE0 rfl rfl Try.underlying37 (by omega)) rfl <| R.u 1 rfl <| R.qg rfl (q.fld (off' := 4) rfl tFld_35_4 rfl) rfl <| R.qg rfl (q.ld 0 rfl rfl tOne_3 rfl) rfl <| ?_
      by_cases h3 : ((getR ((grownR l).1) p).1).From = 0
      · refine R.qg rfl (q.neq rfl rfl (bne_eq_false_iff_eq.2 (by omega))) rfl <| R.u 1 rfl <| R.nil ?_
        refine R.condF rfl rfl ?_
        refine R.reg rfl <| R.q (q.ldS 1 rfl rfl tAgg_31) rfl <| R.q (q.ldS 2 rfl rfl tAgg_24) rfl <| ?_
        refine R.s (B' := (fun g_ : Value × Value × Value × Value => [Res.box b3 [.int .i64 (((getR ((grownR l).1) p).1).ID), .int .i64 (((getR ((grownR l).1) p).1).Thing), .int .i64 (((getR ((grownR l).1) p).1).Rights), .int .i64 (((getR ((grownR l).1) p).1).Badge), .int .i64 (((getR ((grownR l).1) p).1).From)] 35, Res.box b2 [z1, z2, z3, z4, .int .i64 (((grownR l).1).NextWrit), .int .i64 (((grownR l).1).NextThing)] 31, Res.box b1 [.int .i64 p.Holder, .int .i64 p.Slot] 24])) (F' := (fun g_ : Value × Value × Value × Value => [Res.ls g_.1 ((((revokeR ((grownR l).1) p)).1).Writs : List Writ), Res.ls g_.2.1 ((((revokeR ((grownR l).1) p)).1).Things : List Thing), Res.ls g_.2.2.1 ((((revokeR ((grownR l).1) p)).1).Held : List Held), Res.ls g_.2.2.2 ((((revokeR ((grownR l).1) p)).1).Notes : List Note), Res.ls z1 (((grownR l).1).Writs : List Writ), Res.ls z2 (((grownR l).1).Things : List Thing), Res.ls z3 (((grownR l).1).Held : List Held), Res.ls z4 (((grownR l).1).Notes : List Note), Res.acts l, Res.ls v_l (l : List Deed)])) rfl (s.callV (B0 := []) (Br := [Res.box b3 [.int .i64 (((getR ((grownR l).1) p).1).ID), .int .i64 (((getR ((grownR l).1) p).1).Thing), .int .i64 (((getR ((grownR l).1) p).1).Rights), .int .i64 (((getR ((grownR l).1) p).1).Badge), .int .i64 (((getR ((grownR l).1) p).1).From)] 35, Res.box b2 [z1, z2, z3, z4, .int .i64 (((grownR l).1).NextWrit), .int .i64 (((grownR l).1).NextThing)] 31, Res.box b1 [.int .i64 p.Holder, .int .i64 p.Slot] 24]) (F0 := [Res.ls z1 (((grownR l).1).Writs : List Writ), Res.ls z2 (((grownR l).1).Things : List Thing), Res.ls z3 (((grownR l).1).Held : List Held), Res.ls z4 (((grownR l).1).Notes : List Note)]) [0, 1, 2] [0, 1, 2, 3] (fun g_ : Value × Value × Value × Value => .tuple #[.agg #[g_.1, g_.2.1, g_.2.2.1, g_.2.2.2, .int .i64 ((((revokeR ((grownR l).1) p)).1).NextWrit), .int .i64 ((((revokeR ((grownR l).1) p)).1).NextThing)], errv (((revokeR ((grownR l).1) p)).2)]) (fun g_ : Value × Value × Value × Value => []) (fun g_ : Value × Value × Value × Value => [Res.ls g_.1 ((((revokeR ((grownR l).1) p)).1).Writs : List Writ), Res.ls g_.2.1 ((((revokeR ((grownR l).1) p)).1).Things : List Thing), Res.ls g_.2.2.1 ((((revokeR ((grownR l).1) p)).1).Held : List Held), Res.ls g_.2.2.2 ((((revokeR ((grownR l).1) p)).1).Notes : List Note)]) rfl rfl rfl eg_9 rfl rfl (fun w own hw H => revokeR_any z1 z2 z3 z4 (((grownR l).1)) (p) w own H (by assumption)) rfl) ?_
        rintro ⟨z5, z6, z7, z8⟩
        dsimp only
        refine R.u 3 rfl <| ?_
        refine R.s rfl (s.alloc (cs := [.slice none 0 0, .slice none 0 0, .slice none 0 0, .slice none 0 0, .int .i64 0, .int .i64 0]) tZero_31 rfl rfl) fun b4 => ?_
        refine R.s rfl (s.stV (us := [z5, z6, z7, z8, .int .i64 (((revokeR ((grownR l).1) p).1).NextWrit), .int .i64 (((revokeR ((grownR l).1) p).1).NextThing)]) (cs' := [z5, z6, z7, z8, .int .i64 (((revokeR ((grownR l).1) p).1).NextWrit), .int .i64 (((revokeR ((grownR l).1) p).1).NextThing)]) 0 _ rfl rfl rfl (fun _ _ => rfl) (.inl tAgg_31) (fun w hw => (one_cons (Sl.one ((fun _ => Wd.fls 0 rfl) w hw)) (one_cons (Sl.one ((fun _ => Wd.fls 1 rfl) w hw)) (one_cons (Sl.one ((fun _ => Wd.fls 2 rfl) w hw)) (one_cons (Sl.one ((fun _ => Wd.fls 3 rfl) w hw)) (one_cons rfl (one_cons rfl one_nil))))))) rfl rfl rfl) fun _ => ?_
        refine R.u 1 rfl <| R.nil ?_
        refine R.reg rfl <| R.u 1 rfl <| R.q (q.neqE0 rfl rfl Try.underlying37 (by omega)) rfl <| R.nil ?_
        refine R.condF rfl rfl ?_
        refine R.reg rfl <| R.u 1 rfl <| R.nil ?_
        refine R.loop (fun k : Nat => [(7, .pointer (some ⟨b3, 0, none⟩)), (9, .pointer (some ⟨b4, 0, none⟩)), (10, .int .i64 (k : Int))]) (fun k : Nat => [Res.box b4 [z5, z6, z7, z8, .int .i64 (((revokeR ((grownR l).1) p).1).NextWrit), .int .i64 (((revokeR ((grownR l).1) p).1).NextThing)] 31, Res.box b3 [.int .i64 (((getR ((grownR l).1) p).1).ID), .int .i64 (((getR ((grownR l).1) p).1).Thing), .int .i64 (((getR ((grownR l).1) p).1).Rights), .int .i64 (((getR ((grownR l).1) p).1).Badge), .int .i64 (((getR ((grownR l).1) p).1).From)] 35, Res.box b2 [z1, z2, z3, z4, .int .i64 (((grownR l).1).NextWrit), .int .i64 (((grownR l).1).NextThing)] 31, Res.box b1 [.int .i64 p.Holder, .int .i64 p.Slot] 24]) (fun k : Nat => [Res.ls z5 (((revokeR ((grownR l).1) p).1).Writs : List Writ), Res.ls z6 (((revokeR ((grownR l).1) p).1).Things : List Thing), Res.ls z7 (((revokeR ((grownR l).1) p).1).Held : List Held), Res.ls z8 (((revokeR ((grownR l).1) p).1).Notes : List Note), Res.ls z1 (((grownR l).1).Writs : List Writ), Res.ls z2 (((grownR l).1).Things : List Thing), Res.ls z3 (((grownR l).1).Held : List Held), Res.ls z4 (((grownR l).1).Notes : List Note), Res.acts l, Res.ls v_l (l : List Deed)]) (fun k : Nat => k ≤ (((revokeR ((grownR l).1) p).1).Writs).length) (fun k : Nat => (((revokeR ((grownR l).1) p).1).Writs).length - k) 0 rfl (by omega) ⟨rfl, rfl, rfl, trivial⟩ (fun _ => Wd.pick [0, 1, 2, 3] [0, 1, 2, 3, 4, 5, 6, 7, 8, 9] rfl rfl rfl) ?_
        rintro k hk1
        refine R.reg rfl <| R.u 1 rfl <| R.q (q.fld (off' := 0) rfl tFld_31_0 rfl) rfl <| R.q (q.ld 0 rfl rfl tOne_26 rfl) rfl <| R.q (q.len' (fun _ => Wd.fls 0 rfl) rfl Try.underlying26) rfl <| ?_
        by_cases h4 : k < (((revokeR ((grownR l).1) p).1).Writs).length
        · refine R.q (q.lss rfl rfl (decide_eq_true (by omega))) rfl <| R.nil ?_
          refine R.condT rfl rfl ?_
          refine R.reg rfl <| R.q (q.fld (off' := 0) rfl tFld_31_0 rfl) rfl <| R.q (q.ld 0 rfl rfl tOne_26 rfl) rfl <| R.u 1 rfl <| ?_
          obtain ⟨x1, hx1⟩ : ∃ z, (((revokeR ((grownR l).1) p).1).Writs)[k]? = some z := ⟨_, List.getElem?_eq_getElem (by omega)⟩
          have ix1 := List.mem_of_getElem? hx1; have alx1 := above_len hT x1.ID
          refine R.q (q.idx (i := k) (fun _ => Wd.fls 0 rfl) rfl rfl tSl_26 rfl hx1) rfl <| R.q (q.ldES (ds := [.int .i64 x1.ID, .int .i64 x1.Thing, .int .i64 x1.Rights, .int .i64 x1.Badge, .int .i64 x1.From]) (fun _ => Wd.fls 0 rfl) hx1 rfl tAgg_35 rfl) rfl <| ?_
          refine R.s rfl (s.alloc (cs := [.int .i64 0, .int .i64 0, .int .i64 0, .int .i64 0, .int .i64 0]) tZero_35 rfl rfl) fun b5 => ?_
          refine R.s rfl (s.st (us := [.int .i64 x1.ID, .int .i64 x1.Thing, .int .i64 x1.Rights, .int .i64 x1.Badge, .int .i64 x1.From]) (cs' := [.int .i64 x1.ID, .int .i64 x1.Thing, .int .i64 x1.Rights, .int .i64 x1.Badge, .int .i64 x1.From]) 0 _ rfl rfl rfl rfl (.inl tAgg_35) rfl rfl rfl rfl) fun _ => ?_
          refine R.nil ?_
          refine R.reg rfl <| R.q (q.fld (off' := 1) rfl tFld_35_1 rfl) rfl <| R.q (q.ld 0 rfl rfl tOne_3 rfl) rfl <| R.q (q.fld (off' := 1) rfl tFld_35_1 rfl) rfl <| R.q (q.ld 2 rfl rfl tOne_3 rfl) rfl <| ?_
          by_cases h5 : x1.Thing = ((getR ((grownR l).1) p).1).Thing
          · refine R.q (q.neq rfl rfl (bne_eq_false_iff_eq.2 (by omega))) rfl <| R.u 1 rfl <| R.qg rfl (q.fld (off' := 0) rfl tFld_35_0 rfl) rfl <| R.qg rfl (q.ld 0 rfl rfl tOne_3 rfl) rfl <| R.qg rfl (q.fld (off' := 0) rfl tFld_35_0 rfl) rfl <| R.qg rfl (q.ld 2 rfl rfl tOne_3 rfl) rfl <| ?_
            by_cases h6 : x1.ID = ((getR ((grownR l).1) p).1).ID
            · refine R.qg rfl (q.eql rfl rfl (beq_iff_eq.2 (by omega))) rfl <| R.u 1 rfl <| R.nil ?_
              refine R.condT rfl rfl ?_
              refine R.reg rfl <| R.u 1 rfl <| R.q (q.add (r := ((k + 1 : Nat) : Int)) rfl rfl (wr (by omega))) rfl <| R.u 1 rfl <| R.nil ?_
              refine R.back (k + 1) rfl (by (omega)) (by omega) ⟨rfl, rfl, rfl, trivial⟩ (fun _ => Wd.pik [1, 2, 3, 4] [0, 1, 2, 3, 4, 5, 6, 7, 8, 9] rfl rfl rfl)
            · refine R.qg rfl (q.eql rfl rfl (beq_eq_false_iff_ne.2 (by omega))) rfl <| R.u 1 rfl <| R.nil ?_
              refine R.condF rfl rfl ?_
              refine R.reg rfl <| R.q (q.fld (off' := 0) rfl tFld_31_0 rfl) rfl <| R.q (q.ld 1 rfl rfl tOne_26 rfl) rfl <| R.q (q.fld (off' := 0) rfl tFld_35_0 rfl) rfl <| R.q (q.ld 0 rfl rfl tOne_3 rfl) rfl <| ?_
              refine R.s rfl (s.callO eg_10 rfl rfl (fun w hw => above_any _ (((revokeR ((grownR l).1) p).1).Writs) (x1.ID) w ((fun _ => Wd.fls 0 rfl) w hw) (by assumption)) rfl) fun v1 => ?_
              refine R.u 1 rfl <| R.nil ?_
              by_cases h7 : (above (((revokeR ((grownR l).1) p).1).Writs) x1.ID).length = 0
              · by_cases h8 : x1.From = 0
                · by_cases h9 : 0 < (above (((revokeR ((grownR l).1) p).1).Writs) x1.ID).length
                  · obtain ⟨x2, hx2⟩ : ∃ z, (above (((revokeR ((grownR l).1) p).1).Writs) x1.ID)[((above (((revokeR ((grownR l).1) p).1).Writs) x1.ID).length - 1)]? = some z := ⟨_, List.getElem?_eq_getElem (by omega)⟩
                    by_cases h10 : x2 = ((getR ((grownR l).1) p).1).ID
                    · refine R.regQ rfl mixed (by kernel_rfl) <| Q.u 1 rfl <| Q.q (q.len' (fun _ => Wd.row 0 rfl) rfl Try.underlying42) rfl <| Q.q (q.eql rfl rfl (beq_iff_eq.2 (by omega))) rfl <| Q.u 1 rfl <| Q.qg rfl (q.fld (off' := 4) rfl tFld_35_4 rfl) rfl <| Q.qg rfl (q.ld 1 rfl rfl tOne_3 rfl) rfl <| Q.qg rfl (q.neq rfl rfl (bne_eq_false_iff_eq.2 (by omega))) rfl <| Q.u 3 rfl <| Q.qg rfl (q.len' (fun _ => Wd.row 0 rfl) rfl Try.underlying42) rfl <| Q.qg rfl (q.gtr rfl rfl (decide_eq_true (by omega))) rfl <| Q.u 3 rfl <| Q.qg rfl (q.len' (fun _ => Wd.row 0 rfl) rfl Try.underlying42) rfl <| Q.qg rfl (q.sub (r := (((above (((revokeR ((grownR l).1) p).1).Writs) x1.ID).length - 1 : Nat) : Int)) rfl rfl (wr (by omega))) rfl <| Q.qg rfl (q.idx (i := ((above (((revokeR ((grownR l).1) p).1).Writs) x1.ID).length - 1)) (fun _ => Wd.row 0 rfl) rfl rfl tSl_42 rfl hx2) rfl <| Q.qg rfl (q.ldE (fun _ => Wd.row 0 rfl) hx2 rfl tOne_3 rfl) rfl <| Q.qg rfl (q.fld (off' := 0) rfl tFld_35_0 rfl) rfl <| Q.qg rfl (q.ld 3 rfl rfl tOne_3 rfl) rfl <| Q.qg rfl (q.eql rfl rfl (beq_iff_eq.2 (by omega))) rfl <| Q.u 2 rfl <| Q.nil ?_
                      refine R.condT rfl rfl ?_
                      refine R.reg rfl <| R.u 1 rfl <| R.nil ?_
                      exact R.rv rfl Try.results3 rfl (rB (by (exfalso; first | omega | (have q := above_root hT ix1 (List.eq_nil_of_length_eq_zero (by omega)); omega) | (have q := List.mem_of_getElem? hx3; refine above_not hT f4 f1 ix1 ?_; first | exact q | (rw [show (getR ((grownR l).1) p).1.ID = x3 from by omega]; exact q)))))
                    · refine R.regQ rfl mixed (by kernel_rfl) <| Q.u 1 rfl <| Q.q (q.len' (fun _ => Wd.row 0 rfl) rfl Try.underlying42) rfl <| Q.q (q.eql rfl rfl (beq_iff_eq.2 (by omega))) rfl <| Q.u 1 rfl <| Q.qg rfl (q.fld (off' := 4) rfl tFld_35_4 rfl) rfl <| Q.qg rfl (q.ld 1 rfl rfl tOne_3 rfl) rfl <| Q.qg rfl (q.neq rfl rfl (bne_eq_false_iff_eq.2 (by omega))) rfl <| Q.u 3 rfl <| Q.qg rfl (q.len' (fun _ => Wd.row 0 rfl) rfl Try.underlying42) rfl <| Q.qg rfl (q.gtr rfl rfl (decide_eq_true (by omega))) rfl <| Q.u 3 rfl <| Q.qg rfl (q.len' (fun _ => Wd.row 0 rfl) rfl Try.underlying42) rfl <| Q.qg rfl (q.sub (r := (((above (((revokeR ((grownR l).1) p).1).Writs) x1.ID).length - 1 : Nat) : Int)) rfl rfl (wr (by omega))) rfl <| Q.qg rfl (q.idx (i := ((above (((revokeR ((grownR l).1) p).1).Writs) x1.ID).length - 1)) (fun _ => Wd.row 0 rfl) rfl rfl tSl_42 rfl hx2) rfl <| Q.qg rfl (q.ldE (fun _ => Wd.row 0 rfl) hx2 rfl tOne_3 rfl) rfl <| Q.qg rfl (q.fld (off' := 0) rfl tFld_35_0 rfl) rfl <| Q.qg rfl (q.ld 3 rfl rfl tOne_3 rfl) rfl <| Q.qg rfl (q.eql rfl rfl (beq_eq_false_iff_ne.2 (by omega))) rfl <| Q.u 2 rfl <| Q.nil ?_
                      refine R.condF rfl rfl ?_
                      refine R.reg rfl <| R.u 1 rfl <| R.q (q.add (r := ((k + 1 : Nat) : Int)) rfl rfl (wr (by omega))) rfl <| R.u 1 rfl <| R.nil ?_
                      refine R.back (k + 1) rfl (by (omega)) (by omega) ⟨rfl, rfl, rfl, trivial⟩ (fun _ => Wd.pik [2, 3, 4, 5] [0, 1, 2, 3, 4, 5, 6, 7, 8, 9] rfl rfl rfl)
                  · refine R.regQ rfl mixed (by kernel_rfl) <| Q.u 1 rfl <| Q.q (q.len' (fun _ => Wd.row 0 rfl) rfl Try.underlying42) rfl <| Q.q (q.eql rfl rfl (beq_iff_eq.2 (by omega))) rfl <| Q.u 1 rfl <| Q.qg rfl (q.fld (off' := 4) rfl tFld_35_4 rfl) rfl <| Q.qg rfl (q.ld 1 rfl rfl tOne_3 rfl) rfl <| Q.qg rfl (q.neq rfl rfl (bne_eq_false_iff_eq.2 (by omega))) rfl <| Q.u 3 rfl <| Q.qg rfl (q.len' (fun _ => Wd.row 0 rfl) rfl Try.underlying42) rfl <| Q.qg rfl (q.gtr rfl rfl (decide_eq_false (by omega))) rfl <| Q.u 12 rfl <| Q.nil ?_
                    refine R.condF rfl rfl ?_
                    refine R.reg rfl <| R.u 1 rfl <| R.q (q.add (r := ((k + 1 : Nat) : Int)) rfl rfl (wr (by omega))) rfl <| R.u 1 rfl <| R.nil ?_
                    refine R.back (k + 1) rfl (by (omega)) (by omega) ⟨rfl, rfl, rfl, trivial⟩ (fun _ => Wd.pik [2, 3, 4, 5] [0, 1, 2, 3, 4, 5, 6, 7, 8, 9] rfl rfl rfl)
                · refine R.regQ rfl mixed (by kernel_rfl) <| Q.u 1 rfl <| Q.q (q.len' (fun _ => Wd.row 0 rfl) rfl Try.underlying42) rfl <| Q.q (q.eql rfl rfl (beq_iff_eq.2 (by omega))) rfl <| Q.u 1 rfl <| Q.qg rfl (q.fld (off' := 4) rfl tFld_35_4 rfl) rfl <| Q.qg rfl (q.ld 1 rfl rfl tOne_3 rfl) rfl <| Q.qg rfl (q.neq rfl rfl (bne_iff_ne.2 (by omega))) rfl <| Q.u 17 rfl <| Q.nil ?_
                  refine R.condT rfl rfl ?_
                  refine R.reg rfl <| R.u 1 rfl <| R.nil ?_
                  exact R.rv rfl Try.results3 rfl (rB (by (exfalso; first | omega | (have q := above_root hT ix1 (List.eq_nil_of_length_eq_zero (by omega)); omega) | (have q := List.mem_of_getElem? hx3; refine above_not hT f4 f1 ix1 ?_; first | exact q | (rw [show (getR ((grownR l).1) p).1.ID = x3 from by omega]; exact q)))))
              · by_cases h11 : 0 < (above (((revokeR ((grownR l).1) p).1).Writs) x1.ID).length
                · obtain ⟨x3, hx3⟩ : ∃ z, (above (((revokeR ((grownR l).1) p).1).Writs) x1.ID)[((above (((revokeR ((grownR l).1) p).1).Writs) x1.ID).length - 1)]? = some z := ⟨_, List.getElem?_eq_getElem (by omega)⟩
                  by_cases h12 : x3 = ((getR ((grownR l).1) p).1).ID
                  · refine R.regQ rfl mixed (by kernel_rfl) <| Q.u 1 rfl <| Q.q (q.len' (fun _ => Wd.row 0 rfl) rfl Try.underlying42) rfl <| Q.q (q.eql rfl rfl (beq_eq_false_iff_ne.2 (by omega))) rfl <| Q.u 7 rfl <| Q.qg rfl (q.len' (fun _ => Wd.row 0 rfl) rfl Try.underlying42) rfl <| Q.qg rfl (q.gtr rfl rfl (decide_eq_true (by omega))) rfl <| Q.u 3 rfl <| Q.qg rfl (q.len' (fun _ => Wd.row 0 rfl) rfl Try.underlying42) rfl <| Q.qg rfl (q.sub (r := (((above (((revokeR ((grownR l).1) p).1).Writs) x1.ID).length - 1 : Nat) : Int)) rfl rfl (wr (by omega))) rfl <| Q.qg rfl (q.idx (i := ((above (((revokeR ((grownR l).1) p).1).Writs) x1.ID).length - 1)) (fun _ => Wd.row 0 rfl) rfl rfl tSl_42 rfl hx3) rfl <| Q.qg rfl (q.ldE (fun _ => Wd.row 0 rfl) hx3 rfl tOne_3 rfl) rfl <| Q.qg rfl (q.fld (off' := 0) rfl tFld_35_0 rfl) rfl <| Q.qg rfl (q.ld 3 rfl rfl tOne_3 rfl) rfl <| Q.qg rfl (q.eql rfl rfl (beq_iff_eq.2 (by omega))) rfl <| Q.u 2 rfl <| Q.nil ?_
                    refine R.condT rfl rfl ?_
                    refine R.reg rfl <| R.u 1 rfl <| R.nil ?_
                    exact R.rv rfl Try.results3 rfl (rB (by (exfalso; first | omega | (have q := above_root hT ix1 (List.eq_nil_of_length_eq_zero (by omega)); omega) | (have q := List.mem_of_getElem? hx3; refine above_not hT f4 f1 ix1 ?_; first | exact q | (rw [show (getR ((grownR l).1) p).1.ID = x3 from by omega]; exact q)))))
                  · refine R.regQ rfl mixed (by kernel_rfl) <| Q.u 1 rfl <| Q.q (q.len' (fun _ => Wd.row 0 rfl) rfl Try.underlying42) rfl <| Q.q (q.eql rfl rfl (beq_eq_false_iff_ne.2 (by omega))) rfl <| Q.u 7 rfl <| Q.qg rfl (q.len' (fun _ => Wd.row 0 rfl) rfl Try.underlying42) rfl <| Q.qg rfl (q.gtr rfl rfl (decide_eq_true (by omega))) rfl <| Q.u 3 rfl <| Q.qg rfl (q.len' (fun _ => Wd.row 0 rfl) rfl Try.underlying42) rfl <| Q.qg rfl (q.sub (r := (((above (((revokeR ((grownR l).1) p).1).Writs) x1.ID).length - 1 : Nat) : Int)) rfl rfl (wr (by omega))) rfl <| Q.qg rfl (q.idx (i := ((above (((revokeR ((grownR l).1) p).1).Writs) x1.ID).length - 1)) (fun _ => Wd.row 0 rfl) rfl rfl tSl_42 rfl hx3) rfl <| Q.qg rfl (q.ldE (fun _ => Wd.row 0 rfl) hx3 rfl tOne_3 rfl) rfl <| Q.qg rfl (q.fld (off' := 0) rfl tFld_35_0 rfl) rfl <| Q.qg rfl (q.ld 3 rfl rfl tOne_3 rfl) rfl <| Q.qg rfl (q.eql rfl rfl (beq_eq_false_iff_ne.2 (by omega))) rfl <| Q.u 2 rfl <| Q.nil ?_
                    refine R.condF rfl rfl ?_
                    refine R.reg rfl <| R.u 1 rfl <| R.q (q.add (r := ((k + 1 : Nat) : Int)) rfl rfl (wr (by omega))) rfl <| R.u 1 rfl <| R.nil ?_
                    refine R.back (k + 1) rfl (by (omega)) (by omega) ⟨rfl, rfl, rfl, trivial⟩ (fun _ => Wd.pik [2, 3, 4, 5] [0, 1, 2, 3, 4, 5, 6, 7, 8, 9] rfl rfl rfl)
                · refine R.regQ rfl mixed (by kernel_rfl) <| Q.u 1 rfl <| Q.q (q.len' (fun _ => Wd.row 0 rfl) rfl Try.underlying42) rfl <| Q.q (q.eql rfl rfl (beq_eq_false_iff_ne.2 (by omega))) rfl <| Q.u 7 rfl <| Q.qg rfl (q.len' (fun _ => Wd.row 0 rfl) rfl Try.underlying42) rfl <| Q.qg rfl (q.gtr rfl rfl (decide_eq_false (by omega))) rfl <| Q.u 12 rfl <| Q.nil ?_
                  refine R.condF rfl rfl ?_
                  refine R.reg rfl <| R.u 1 rfl <| R.q (q.add (r := ((k + 1 : Nat) : Int)) rfl rfl (wr (by omega))) rfl <| R.u 1 rfl <| R.nil ?_
                  refine R.back (k + 1) rfl (by (omega)) (by omega) ⟨rfl, rfl, rfl, trivial⟩ (fun _ => Wd.pik [2, 3, 4, 5] [0, 1, 2, 3, 4, 5, 6, 7, 8, 9] rfl rfl rfl)
          · refine R.q (q.neq rfl rfl (bne_iff_ne.2 (by omega))) rfl <| R.u 7 rfl <| R.nil ?_
            refine R.condT rfl rfl ?_
            refine R.reg rfl <| R.u 1 rfl <| R.q (q.add (r := ((k + 1 : Nat) : Int)) rfl rfl (wr (by omega))) rfl <| R.u 1 rfl <| R.nil ?_
            refine R.back (k + 1) rfl (by (omega)) (by omega) ⟨rfl, rfl, rfl, trivial⟩ (fun _ => Wd.pik [1, 2, 3, 4] [0, 1, 2, 3, 4, 5, 6, 7, 8, 9] rfl rfl rfl)
        · refine R.q (q.lss rfl rfl (decide_eq_false (by omega))) rfl <| R.nil ?_
          refine R.condF rfl rfl ?_
          refine R.reg rfl <| R.q (q.fld (off' := 0) rfl tFld_31_0 rfl) rfl <| R.q (q.ld 0 rfl rfl tOne_26 rfl) rfl <| R.q (q.fld (off' := 0) rfl tFld_35_0 rfl) rfl <| R.q (q.ld 1 rfl rfl tOne_3 rfl) rfl <| ?_
          rcases findW_cases (((revokeR ((grownR l).1) p).1).Writs) (((getR ((grownR l).1) p).1).ID) with ⟨c1f, c1n⟩ | ⟨c1j, c1h, c1f, c1e, c1m⟩
          · refine R.c (q.call eg_11 rfl rfl (fun w hw => (cv (congrArg (Value.int .i64) c1f) (find_any _ (((revokeR ((grownR l).1) p).1).Writs) (((getR ((grownR l).1) p).1).ID) w ((fun _ => Wd.fls 0 rfl) w hw) )))) rfl <| R.q (q.geq (b := false) rfl rfl (by decide)) rfl <| R.u 1 rfl <| R.nil ?_
            exact R.rv rfl Try.results3 rfl (rB (by (first | rfl | (exfalso; omega))))
          · refine R.c (q.call eg_11 rfl rfl (fun w hw => (cv (congrArg (Value.int .i64) c1f) (find_any _ (((revokeR ((grownR l).1) p).1).Writs) (((getR ((grownR l).1) p).1).ID) w ((fun _ => Wd.fls 0 rfl) w hw) )))) rfl <| R.q (q.geq rfl rfl (decide_eq_true (by omega))) rfl <| R.u 1 rfl <| R.nil ?_
            exact R.rv rfl Try.results3 rfl (rB (by (first | rfl | (exfalso; omega))))
      · refine R.qg rfl (q.neq rfl rfl (bne_iff_ne.2 (by omega))) rfl <| R.u 1 rfl <| R.nil ?_
        refine R.condT rfl rfl ?_
        refine R.reg rfl <| R.u 1 rfl <| R.nil ?_
        exact R.rv rfl Try.results3 rfl (rB (by (first | rfl | (exfalso; omega))))
    · refine R.q (q.neqE1 rfl rfl Try.underlying37 (by omega)) rfl <| R.u 5 rfl <| R.nil ?_
      refine R.condT rfl rfl ?_
      refine R.reg rfl <| R.u 1 rfl <| R.nil ?_
      exact R.rv rfl Try.results3 rfl (rB (by (first | rfl | (exfalso; omega))))

end Go.Proofs.Ytoaneidhfcljmaa
