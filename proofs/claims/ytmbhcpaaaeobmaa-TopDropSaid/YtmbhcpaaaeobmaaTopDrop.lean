/-
  The walk of a law of the realm: what is dropped isn't held any more; what others hold stays.
-/
import Derived.Test.YtmbhcpaaaeobmaaActsW
import Derived.Test.YtmbhcpaaaeobmaaTopFacts2
namespace Go.Proofs.Ytmbhcpaaaeobmaa
open Go Go.RowKit
set_option linter.unusedVariables false
set_option linter.unusedSimpArgs false
set_option maxRecDepth 100000

set_option maxRecDepth 100000 in
theorem topDrop_any (v_l : Value) (l : List Deed) (p : Place) (w : World) (s_l : Sl w v_l l) (c_l : ∀ x ∈ l, Sl w x.cv x.Changes) : Calls Try.prog 5 #[v_l, .agg #[.int .i64 p.Holder, .int .i64 p.Slot]] w fun e w' => e = .returned (.bool true) ∧ Ext w w' := by
  have b_l := s_l.lenle
  refine R.enter (n := 107) (vs := [v_l, .agg #[.int .i64 p.Holder, .int .i64 p.Slot]]) [] [(0, v_l), (1, .agg #[.int .i64 p.Holder, .int .i64 p.Slot])] Try.func5 rfl rfl rfl rfl ?_
  refine R.oldL s_l ?_
  refine R.oldF (r := Res.acts l) c_l (acts_lt c_l) ?_
  refine R.reg rfl <| ?_
  refine R.s rfl (s.box (cs := [.int .i64 p.Holder, .int .i64 p.Slot]) rfl rfl rfl) fun b1 => ?_
  refine R.u 1 rfl <| R.nil ?_
  refine R.reg rfl <| R.c (q.call eg_14 rfl rfl (fun w hw => (made_any  w  ))) rfl <| R.u 1 rfl <| R.nil ?_
  refine R.reg rfl <| R.u 2 rfl <| R.nil ?_
  refine R.condF rfl rfl ?_
  refine R.reg rfl <| R.u 1 rfl <| ?_
  refine R.s (B' := (fun g_ : Value × Value × Value × Value => [Res.box b1 [.int .i64 p.Holder, .int .i64 p.Slot] 34])) (F' := (fun g_ : Value × Value × Value × Value => [Res.ls g_.1 ((((grownR l)).1).Writs : List Writ), Res.ls g_.2.1 ((((grownR l)).1).Things : List Thing), Res.ls g_.2.2.1 ((((grownR l)).1).Held : List Held), Res.ls g_.2.2.2 ((((grownR l)).1).Notes : List Note), Res.acts l, Res.ls v_l (l : List Deed)])) rfl (s.callV (B0 := []) (Br := [Res.box b1 [.int .i64 p.Holder, .int .i64 p.Slot] 34]) (F0 := [Res.ls v_l (l : List Deed), Res.acts l]) [0] [1, 0] (fun g_ : Value × Value × Value × Value => .tuple #[.agg #[g_.1, g_.2.1, g_.2.2.1, g_.2.2.2, .int .i64 ((((grownR l)).1).NextWrit), .int .i64 ((((grownR l)).1).NextThing)], .bool (((grownR l)).2)]) (fun g_ : Value × Value × Value × Value => []) (fun g_ : Value × Value × Value × Value => [Res.ls g_.1 ((((grownR l)).1).Writs : List Writ), Res.ls g_.2.1 ((((grownR l)).1).Things : List Thing), Res.ls g_.2.2.1 ((((grownR l)).1).Held : List Held), Res.ls g_.2.2.2 ((((grownR l)).1).Notes : List Note)]) rfl rfl rfl eg_15 rfl rfl (fun w own hw H => grown_any v_l (l) w own H ) rfl) ?_
  rintro ⟨z1, z2, z3, z4⟩
  dsimp only
  refine R.u 3 rfl <| ?_
  refine R.s rfl (s.alloc (cs := [.slice none 0 0, .slice none 0 0, .slice none 0 0, .slice none 0 0, .int .i64 0, .int .i64 0]) tZero_29 rfl rfl) fun b2 => ?_
  refine R.s rfl (s.stV (us := [z1, z2, z3, z4, .int .i64 (((grownR l).1).NextWrit), .int .i64 (((grownR l).1).NextThing)]) (cs' := [z1, z2, z3, z4, .int .i64 (((grownR l).1).NextWrit), .int .i64 (((grownR l).1).NextThing)]) 0 _ rfl rfl rfl (fun _ _ => rfl) (.inl tAgg_29) (fun w hw => (one_cons (Sl.one ((fun _ => Wd.fls 0 rfl) w hw)) (one_cons (Sl.one ((fun _ => Wd.fls 1 rfl) w hw)) (one_cons (Sl.one ((fun _ => Wd.fls 2 rfl) w hw)) (one_cons (Sl.one ((fun _ => Wd.fls 3 rfl) w hw)) (one_cons rfl (one_cons rfl one_nil))))))) rfl rfl rfl) fun _ => ?_
  refine R.u 1 rfl <| R.nil ?_
  refine R.reg rfl <| R.u 1 rfl <| R.q (q.not rfl) rfl <| R.nil ?_
  refine R.cond rfl rfl (fun h1 => ?_) (fun h1 => ?_)
  · refine R.reg rfl <| R.u 1 rfl <| R.nil ?_
    exact R.rv rfl Try.results5 rfl (rB (by (first | rfl | (exfalso; omega))))
  · have hg := grown_facts (show (grownR l).2 = true from by first | assumption | (have hq := ‹(!(grownR l).2) = false›; simpa using hq)); have hI := hg.1; have hz := hg.2; have hk : Ok (grownR l).1 := hz.ok (by decide); have bw := hk.wl; have bt := hk.tl; have bh := hk.hl; have bn := hk.nl
    refine R.reg rfl <| R.q (q.ldS 0 rfl rfl tAgg_29) rfl <| R.q (q.ldS 1 rfl rfl tAgg_34) rfl <| R.c (q.call eg_20 rfl rfl (fun w hw => (get_any _ _ _ _ (((grownR l).1)) (p) w ((fun _ => Wd.fls 0 rfl) w hw) ((fun _ => Wd.fls 1 rfl) w hw) ((fun _ => Wd.fls 2 rfl) w hw) ((fun _ => Wd.fls 3 rfl) w hw) (by assumption)))) rfl <| R.u 3 rfl <| ?_
    refine R.s rfl (s.alloc (cs := [.int .i64 0, .int .i64 0, .int .i64 0, .int .i64 0, .int .i64 0]) tZero_38 rfl rfl) fun b3 => ?_
    refine R.s rfl (s.st (us := [.int .i64 (((getR ((grownR l).1) p).1).ID), .int .i64 (((getR ((grownR l).1) p).1).Thing), .int .i64 (((getR ((grownR l).1) p).1).Rights), .int .i64 (((getR ((grownR l).1) p).1).Badge), .int .i64 (((getR ((grownR l).1) p).1).From)]) (cs' := [.int .i64 (((getR ((grownR l).1) p).1).ID), .int .i64 (((getR ((grownR l).1) p).1).Thing), .int .i64 (((getR ((grownR l).1) p).1).Rights), .int .i64 (((getR ((grownR l).1) p).1).Badge), .int .i64 (((getR ((grownR l).1) p).1).From)]) 0 _ rfl rfl rfl rfl (.inl tAgg_38) rfl rfl rfl rfl) fun _ => ?_
    refine R.u 1 rfl <| R.nil ?_
    refine R.reg rfl <| R.q (q.ldS 1 rfl rfl tAgg_29) rfl <| R.q (q.ldS 2 rfl rfl tAgg_34) rfl <| ?_
    refine R.s (B' := (fun g_ : Value × Value × Value × Value => [Res.box b3 [.int .i64 (((getR ((grownR l).1) p).1).ID), .int .i64 (((getR ((grownR l).1) p).1).Thing), .int .i64 (((getR ((grownR l).1) p).1).Rights), .int .i64 (((getR ((grownR l).1) p).1).Badge), .int .i64 (((getR ((grownR l).1) p).1).From)] 38, Res.box b2 [z1, z2, z3, z4, .int .i64 (((grownR l).1).NextWrit), .int .i64 (((grownR l).1).NextThing)] 29, Res.box b1 [.int .i64 p.Holder, .int .i64 p.Slot] 34])) (F' := (fun g_ : Value × Value × Value × Value => [Res.ls g_.1 ((((dropR ((grownR l).1) p)).1).Writs : List Writ), Res.ls g_.2.1 ((((dropR ((grownR l).1) p)).1).Things : List Thing), Res.ls g_.2.2.1 ((((dropR ((grownR l).1) p)).1).Held : List Held), Res.ls g_.2.2.2 ((((dropR ((grownR l).1) p)).1).Notes : List Note), Res.ls z1 (((grownR l).1).Writs : List Writ), Res.ls z2 (((grownR l).1).Things : List Thing), Res.ls z3 (((grownR l).1).Held : List Held), Res.ls z4 (((grownR l).1).Notes : List Note), Res.acts l, Res.ls v_l (l : List Deed)])) rfl (s.callV (B0 := []) (Br := [Res.box b3 [.int .i64 (((getR ((grownR l).1) p).1).ID), .int .i64 (((getR ((grownR l).1) p).1).Thing), .int .i64 (((getR ((grownR l).1) p).1).Rights), .int .i64 (((getR ((grownR l).1) p).1).Badge), .int .i64 (((getR ((grownR l).1) p).1).From)] 38, Res.box b2 [z1, z2, z3, z4, .int .i64 (((grownR l).1).NextWrit), .int .i64 (((grownR l).1).NextThing)] 29, Res.box b1 [.int .i64 p.Holder, .int .i64 p.Slot] 34]) (F0 := [Res.ls z1 (((grownR l).1).Writs : List Writ), Res.ls z2 (((grownR l).1).Things : List Thing), Res.ls z3 (((grownR l).1).Held : List Held), Res.ls z4 (((grownR l).1).Notes : List Note)]) [0, 1, 2] [0, 1, 2, 3] (fun g_ : Value × Value × Value × Value => .tuple #[.agg #[g_.1, g_.2.1, g_.2.2.1, g_.2.2.2, .int .i64 ((((dropR ((grownR l).1) p)).1).NextWrit), .int .i64 ((((dropR ((grownR l).1) p)).1).NextThing)], errv (((dropR ((grownR l).1) p)).2)]) (fun g_ : Value × Value × Value × Value => []) (fun g_ : Value × Value × Value × Value => [Res.ls g_.1 ((((dropR ((grownR l).1) p)).1).Writs : List Writ), Res.ls g_.2.1 ((((dropR ((grownR l).1) p)).1).Things : List Thing), Res.ls g_.2.2.1 ((((dropR ((grownR l).1) p)).1).Held : List Held), Res.ls g_.2.2.2 ((((dropR ((grownR l).1) p)).1).Notes : List Note)]) rfl rfl rfl eg_21 rfl rfl (fun w own hw H => dropR_any z1 z2 z3 z4 (((grownR l).1)) (p) w own H (by assumption)) rfl) ?_
    rintro ⟨z5, z6, z7, z8⟩
    dsimp only
    refine R.u 3 rfl <| ?_
    refine R.s rfl (s.alloc (cs := [.slice none 0 0, .slice none 0 0, .slice none 0 0, .slice none 0 0, .int .i64 0, .int .i64 0]) tZero_29 rfl rfl) fun b4 => ?_
    refine R.s rfl (s.stV (us := [z5, z6, z7, z8, .int .i64 (((dropR ((grownR l).1) p).1).NextWrit), .int .i64 (((dropR ((grownR l).1) p).1).NextThing)]) (cs' := [z5, z6, z7, z8, .int .i64 (((dropR ((grownR l).1) p).1).NextWrit), .int .i64 (((dropR ((grownR l).1) p).1).NextThing)]) 0 _ rfl rfl rfl (fun _ _ => rfl) (.inl tAgg_29) (fun w hw => (one_cons (Sl.one ((fun _ => Wd.fls 0 rfl) w hw)) (one_cons (Sl.one ((fun _ => Wd.fls 1 rfl) w hw)) (one_cons (Sl.one ((fun _ => Wd.fls 2 rfl) w hw)) (one_cons (Sl.one ((fun _ => Wd.fls 3 rfl) w hw)) (one_cons rfl (one_cons rfl one_nil))))))) rfl rfl rfl) fun _ => ?_
    refine R.u 1 rfl <| R.nil ?_
    refine R.reg rfl <| R.u 1 rfl <| ?_
    by_cases h2 : (getR ((grownR l).1) p).2 = 0
    · have fd : (dropR ((grownR l).1) p).2 = 0 := by unfold dropR; rw [if_pos h2]
      obtain ⟨f1, f2, f3⟩ := drop_law hI fd; have hk2 : Ok (dropR ((grownR l).1) p).1 := (drop_sz hz p).ok (by decide); have bw2 := hk2.wl; have bh2 := hk2.hl
      refine R.q (q.neqE0 rfl rfl Try.underlying49 (by omega)) rfl <| R.nil ?_
      refine R.condF rfl rfl ?_
      refine R.reg rfl <| R.u 1 rfl <| R.q (q.neqE0 rfl rfl Try.underlying49 (by omega)) rfl <| R.u 1 rfl <| R.qg rfl (q.fld (off' := 0) rfl tFld_29_0 rfl) rfl <| R.qg rfl (q.ld 0 rfl rfl tOne_24 rfl) rfl <| R.qg rfl (q.fld (off' := 0) rfl tFld_38_0 rfl) rfl <| R.qg rfl (q.ld 1 rfl rfl tOne_3 rfl) rfl <| ?_
      rcases findW_cases (((dropR ((grownR l).1) p).1).Writs) (((getR ((grownR l).1) p).1).ID) with ⟨c1f, c1n⟩ | ⟨c1j, c1h, c1f, c1e, c1m⟩
      · refine R.cg rfl (q.call eg_17 rfl rfl (fun w hw => (cv (congrArg (Value.int .i64) c1f) (find_any _ (((dropR ((grownR l).1) p).1).Writs) (((getR ((grownR l).1) p).1).ID) w ((fun _ => Wd.fls 0 rfl) w hw) )))) rfl <| R.qg rfl (q.geq (b := false) rfl rfl (by decide)) rfl <| R.u 2 rfl <| R.qg rfl (q.fld (off' := 2) rfl tFld_29_2 rfl) rfl <| R.qg rfl (q.ld 0 rfl rfl tOne_26 rfl) rfl <| R.qg rfl (q.ldS 3 rfl rfl tAgg_34) rfl <| R.cg rfl (q.call eg_23 rfl rfl (fun w hw => (atPlace_any _ (((dropR ((grownR l).1) p).1).Held) (p) w ((fun _ => Wd.fls 2 rfl) w hw) (by first | omega | assumption | (simp; done) | (simp; omega))))) rfl <| R.qg rfl (q.neq rfl rfl (bne_eq_false_iff_eq.2 (by omega))) rfl <| R.u 1 rfl <| R.nil ?_
        refine R.condF rfl rfl ?_
        refine R.reg rfl <| R.u 1 rfl <| R.nil ?_
        refine R.loop (fun k : Nat => [(3, .pointer (some ⟨b1, 0, none⟩)), (6, .pointer (some ⟨b2, 0, none⟩)), (9, .pointer (some ⟨b4, 0, none⟩)), (11, .int .i64 (k : Int))]) (fun k : Nat => [Res.box b4 [z5, z6, z7, z8, .int .i64 (((dropR ((grownR l).1) p).1).NextWrit), .int .i64 (((dropR ((grownR l).1) p).1).NextThing)] 29, Res.box b3 [.int .i64 (((getR ((grownR l).1) p).1).ID), .int .i64 (((getR ((grownR l).1) p).1).Thing), .int .i64 (((getR ((grownR l).1) p).1).Rights), .int .i64 (((getR ((grownR l).1) p).1).Badge), .int .i64 (((getR ((grownR l).1) p).1).From)] 38, Res.box b2 [z1, z2, z3, z4, .int .i64 (((grownR l).1).NextWrit), .int .i64 (((grownR l).1).NextThing)] 29, Res.box b1 [.int .i64 p.Holder, .int .i64 p.Slot] 34]) (fun k : Nat => [Res.ls z5 (((dropR ((grownR l).1) p).1).Writs : List Writ), Res.ls z6 (((dropR ((grownR l).1) p).1).Things : List Thing), Res.ls z7 (((dropR ((grownR l).1) p).1).Held : List Held), Res.ls z8 (((dropR ((grownR l).1) p).1).Notes : List Note), Res.ls z1 (((grownR l).1).Writs : List Writ), Res.ls z2 (((grownR l).1).Things : List Thing), Res.ls z3 (((grownR l).1).Held : List Held), Res.ls z4 (((grownR l).1).Notes : List Note), Res.acts l, Res.ls v_l (l : List Deed)]) (fun k : Nat => k ≤ (((grownR l).1)).Held.length) (fun k : Nat => (((grownR l).1)).Held.length - k) 0 rfl (by omega) ⟨rfl, rfl, rfl, rfl, trivial⟩ (fun _ => Wd.pick [0, 1, 2, 3] [0, 1, 2, 3, 4, 5, 6, 7, 8, 9] rfl rfl rfl) ?_
        rintro k hk1
        refine R.reg rfl <| R.u 1 rfl <| R.q (q.fld (off' := 2) rfl tFld_29_2 rfl) rfl <| R.q (q.ld 2 rfl rfl tOne_26 rfl) rfl <| R.q (q.len' (fun _ => Wd.fls 6 rfl) rfl Try.underlying26) rfl <| ?_
        by_cases h3 : k < (((grownR l).1).Held).length
        · refine R.q (q.lss rfl rfl (decide_eq_true (by omega))) rfl <| R.nil ?_
          refine R.condT rfl rfl ?_
          refine R.reg rfl <| R.q (q.fld (off' := 2) rfl tFld_29_2 rfl) rfl <| R.q (q.ld 2 rfl rfl tOne_26 rfl) rfl <| R.u 1 rfl <| ?_
          obtain ⟨x1, hx1⟩ : ∃ z, (((grownR l).1).Held)[k]? = some z := ⟨_, List.getElem?_eq_getElem (by omega)⟩
          refine R.q (q.idx (i := k) (fun _ => Wd.fls 6 rfl) rfl rfl tSl_26 rfl hx1) rfl <| R.q (q.ldES (ds := [.int .i64 x1.Place.Holder, .int .i64 x1.Place.Slot, .int .i64 x1.Writ]) (fun _ => Wd.fls 6 rfl) hx1 rfl tAgg_36 rfl) rfl <| ?_
          refine R.s rfl (s.alloc (cs := [.int .i64 0, .int .i64 0, .int .i64 0]) tZero_36 rfl rfl) fun b5 => ?_
          refine R.s rfl (s.st (us := [.int .i64 x1.Place.Holder, .int .i64 x1.Place.Slot, .int .i64 x1.Writ]) (cs' := [.int .i64 x1.Place.Holder, .int .i64 x1.Place.Slot, .int .i64 x1.Writ]) 0 _ rfl rfl rfl rfl (.inl tAgg_36) rfl rfl rfl rfl) fun _ => ?_
          refine R.nil ?_
          refine R.reg rfl <| R.q (q.fld (off' := 0) rfl tFld_36_0 rfl) rfl <| R.q (q.ldP (ds := [.int .i64 x1.Place.Holder, .int .i64 x1.Place.Slot]) 0 rfl rfl tAgg_34 rfl) rfl <| R.q (q.ldS 4 rfl rfl tAgg_34) rfl <| ?_
          by_cases h4 : x1.Place = p
          · refine R.q (q.eqlT1 (x := x1.Place) (y := p) eq_34 rfl rfl h4) rfl <| R.nil ?_
            refine R.condT rfl rfl ?_
            refine R.reg rfl <| R.u 1 rfl <| R.q (q.add (r := ((k + 1 : Nat) : Int)) rfl rfl (wr (by omega))) rfl <| R.u 1 rfl <| R.nil ?_
            refine R.back (k + 1) rfl (by (omega)) (by omega) ⟨rfl, rfl, rfl, rfl, trivial⟩ (fun _ => Wd.pik [1, 2, 3, 4] [0, 1, 2, 3, 4, 5, 6, 7, 8, 9] rfl rfl rfl)
          · obtain ⟨e1, e2, e3⟩ := f3 x1 (List.mem_of_getElem? hx1) h4; have e4 := like_eq e3
            refine R.q (q.eqlT0 (x := x1.Place) (y := p) eq_34 rfl rfl h4) rfl <| R.nil ?_
            refine R.condF rfl rfl ?_
            refine R.reg rfl <| R.q (q.ldS 3 rfl rfl tAgg_29) rfl <| R.q (q.fld (off' := 0) rfl tFld_36_0 rfl) rfl <| R.q (q.ldP (ds := [.int .i64 x1.Place.Holder, .int .i64 x1.Place.Slot]) 0 rfl rfl tAgg_34 rfl) rfl <| R.c (q.call eg_20 rfl rfl (fun w hw => (get_any _ _ _ _ (((grownR l).1)) (x1.Place) w ((fun _ => Wd.fls 4 rfl) w hw) ((fun _ => Wd.fls 5 rfl) w hw) ((fun _ => Wd.fls 6 rfl) w hw) ((fun _ => Wd.fls 7 rfl) w hw) (by assumption)))) rfl <| R.u 3 rfl <| ?_
            refine R.s rfl (s.alloc (cs := [.int .i64 0, .int .i64 0, .int .i64 0, .int .i64 0, .int .i64 0]) tZero_38 rfl rfl) fun b6 => ?_
            refine R.s rfl (s.st (us := [.int .i64 (((getR ((grownR l).1) x1.Place).1).ID), .int .i64 (((getR ((grownR l).1) x1.Place).1).Thing), .int .i64 (((getR ((grownR l).1) x1.Place).1).Rights), .int .i64 (((getR ((grownR l).1) x1.Place).1).Badge), .int .i64 (((getR ((grownR l).1) x1.Place).1).From)]) (cs' := [.int .i64 (((getR ((grownR l).1) x1.Place).1).ID), .int .i64 (((getR ((grownR l).1) x1.Place).1).Thing), .int .i64 (((getR ((grownR l).1) x1.Place).1).Rights), .int .i64 (((getR ((grownR l).1) x1.Place).1).Badge), .int .i64 (((getR ((grownR l).1) x1.Place).1).From)]) 0 _ rfl rfl rfl rfl (.inl tAgg_38) rfl rfl rfl rfl) fun _ => ?_
            refine R.u 1 rfl <| R.nil ?_
            refine R.reg rfl <| R.q (q.ldS 2 rfl rfl tAgg_29) rfl <| R.q (q.fld (off' := 0) rfl tFld_36_0 rfl) rfl <| R.q (q.ldP (ds := [.int .i64 x1.Place.Holder, .int .i64 x1.Place.Slot]) 1 rfl rfl tAgg_34 rfl) rfl <| R.c (q.call eg_20 rfl rfl (fun w hw => (get_any _ _ _ _ (((dropR ((grownR l).1) p).1)) (x1.Place) w ((fun _ => Wd.fls 0 rfl) w hw) ((fun _ => Wd.fls 1 rfl) w hw) ((fun _ => Wd.fls 2 rfl) w hw) ((fun _ => Wd.fls 3 rfl) w hw) (by assumption)))) rfl <| R.u 3 rfl <| ?_
            refine R.s rfl (s.alloc (cs := [.int .i64 0, .int .i64 0, .int .i64 0, .int .i64 0, .int .i64 0]) tZero_38 rfl rfl) fun b7 => ?_
            refine R.s rfl (s.st (us := [.int .i64 (((getR ((dropR ((grownR l).1) p).1) x1.Place).1).ID), .int .i64 (((getR ((dropR ((grownR l).1) p).1) x1.Place).1).Thing), .int .i64 (((getR ((dropR ((grownR l).1) p).1) x1.Place).1).Rights), .int .i64 (((getR ((dropR ((grownR l).1) p).1) x1.Place).1).Badge), .int .i64 (((getR ((dropR ((grownR l).1) p).1) x1.Place).1).From)]) (cs' := [.int .i64 (((getR ((dropR ((grownR l).1) p).1) x1.Place).1).ID), .int .i64 (((getR ((dropR ((grownR l).1) p).1) x1.Place).1).Thing), .int .i64 (((getR ((dropR ((grownR l).1) p).1) x1.Place).1).Rights), .int .i64 (((getR ((dropR ((grownR l).1) p).1) x1.Place).1).Badge), .int .i64 (((getR ((dropR ((grownR l).1) p).1) x1.Place).1).From)]) 0 _ rfl rfl rfl rfl (.inl tAgg_38) rfl rfl rfl rfl) fun _ => ?_
            refine R.u 1 rfl <| R.nil ?_
            refine R.reg rfl <| R.q (q.fld (off' := 4) rfl tFld_38_4 rfl) rfl <| R.q (q.ld 0 rfl rfl tOne_3 rfl) rfl <| R.q (q.fld (off' := 4) rfl tFld_38_4 rfl) rfl <| ?_
            refine R.s rfl (s.st (us := [.int .i64 (((getR ((dropR ((grownR l).1) p).1) x1.Place).1).From)]) (cs' := [.int .i64 (((getR ((grownR l).1) x1.Place).1).ID), .int .i64 (((getR ((grownR l).1) x1.Place).1).Thing), .int .i64 (((getR ((grownR l).1) x1.Place).1).Rights), .int .i64 (((getR ((grownR l).1) x1.Place).1).Badge), .int .i64 (((getR ((dropR ((grownR l).1) p).1) x1.Place).1).From)]) 1 _ rfl rfl rfl rfl (.inr ⟨tOne_3, rfl⟩) rfl rfl rfl rfl) fun _ => ?_
            refine R.nil ?_
            refine R.reg rfl <| R.u 1 rfl <| R.q (q.neqE0 rfl rfl Try.underlying49 (by omega)) rfl <| R.u 2 rfl <| R.qg rfl (q.neqE0 rfl rfl Try.underlying49 (by omega)) rfl <| R.u 2 rfl <| R.qg rfl (q.ldS 1 rfl rfl tAgg_38) rfl <| R.qg rfl (q.ldS 0 rfl rfl tAgg_38) rfl <| R.qg rfl (q.neqT1 (x := (⟨((getR ((grownR l).1) x1.Place).1).ID, ((getR ((grownR l).1) x1.Place).1).Thing, ((getR ((grownR l).1) x1.Place).1).Rights, ((getR ((grownR l).1) x1.Place).1).Badge, ((getR ((dropR ((grownR l).1) p).1) x1.Place).1).From⟩ : Writ)) (y := ((getR ((dropR ((grownR l).1) p).1) x1.Place).1)) eq_38 rfl rfl ‹_›) rfl <| R.u 1 rfl <| R.nil ?_
            refine R.condF rfl rfl ?_
            refine R.reg rfl <| R.u 1 rfl <| R.q (q.add (r := ((k + 1 : Nat) : Int)) rfl rfl (wr (by omega))) rfl <| R.u 1 rfl <| R.nil ?_
            refine R.back (k + 1) rfl (by (omega)) (by omega) ⟨rfl, rfl, rfl, rfl, trivial⟩ (fun _ => Wd.pik [3, 4, 5, 6] [0, 1, 2, 3, 4, 5, 6, 7, 8, 9] rfl rfl rfl)
        · refine R.q (q.lss rfl rfl (decide_eq_false (by omega))) rfl <| R.nil ?_
          refine R.condF rfl rfl ?_
          refine R.reg rfl <| R.u 1 rfl <| R.nil ?_
          exact R.rv rfl Try.results5 rfl (rB (by (first | rfl | (exfalso; omega))))
      · refine R.cg rfl (q.call eg_17 rfl rfl (fun w hw => (cv (congrArg (Value.int .i64) c1f) (find_any _ (((dropR ((grownR l).1) p).1).Writs) (((getR ((grownR l).1) p).1).ID) w ((fun _ => Wd.fls 0 rfl) w hw) )))) rfl <| R.qg rfl (q.geq rfl rfl (decide_eq_true (by omega))) rfl <| R.u 8 rfl <| R.nil ?_
        refine R.condT rfl rfl ?_
        refine R.reg rfl <| R.u 1 rfl <| R.nil ?_
        exact R.rv rfl Try.results5 rfl (rB (by (first | rfl | (exfalso; omega))))
    · have fb : (dropR ((grownR l).1) p).2 = (getR ((grownR l).1) p).2 := by unfold dropR; rw [if_neg h2]
      refine R.q (q.neqE1 rfl rfl Try.underlying49 (by omega)) rfl <| R.nil ?_
      refine R.condT rfl rfl ?_
      refine R.reg rfl <| R.u 1 rfl <| R.c (q.call eg_22 rfl rfl (fun w hw => (number_any ((dropR ((grownR l).1) p).2) w  ))) rfl <| R.u 1 rfl <| R.c (q.call eg_22 rfl rfl (fun w hw => (number_any ((getR ((grownR l).1) p).2) w  ))) rfl <| R.q (q.eql rfl rfl (beq_iff_eq.2 (by omega))) rfl <| R.u 1 rfl <| R.nil ?_
      exact R.rv rfl Try.results5 rfl (rB (by (first | rfl | (exfalso; omega))))

end Go.Proofs.Ytmbhcpaaaeobmaa
