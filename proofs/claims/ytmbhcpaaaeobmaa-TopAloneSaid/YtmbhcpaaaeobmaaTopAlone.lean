/-
  The walk of a law of the realm: who is not given anything gets nothing.
-/
import Derived.Test.YtmbhcpaaaeobmaaActsW
import Derived.Test.YtmbhcpaaaeobmaaTopFacts5
namespace Go.Proofs.Ytmbhcpaaaeobmaa
open Go Go.RowKit
set_option linter.unusedVariables false
set_option linter.unusedSimpArgs false
set_option maxRecDepth 100000

theorem alone_cases {r x : Realm} {a : Deed} {p : Place} (h : Alone r x a p) (hne : ¬ atH x.Held p = atH r.Held p) :
    (atH x.Held p = 0 → a.Kind = sDrop ∨ a.Kind = sRevoke ∨ a.Kind = sMove ∧ p = a.P) ∧ (¬ atH x.Held p = 0 → atH r.Held p = 0 ∧ (a.Kind = sGive ∧ p = a.Q ∨ a.Kind = sMake ∧ p = a.P ∨ a.Kind = sMove ∧ p.Holder = a.P.Holder ∨ a.Kind = sTake ∧ p.Holder = a.P.Holder)) := by
  rcases h with h | ⟨h, k⟩ | ⟨h, k, m⟩
  · exact absurd h hne
  · exact ⟨fun _ => k, fun hh => absurd h hh⟩
  · exact ⟨fun hh => absurd hh h, fun _ => ⟨k, m⟩⟩
set_option maxRecDepth 100000 in
theorem topAlone_any (v_l : Value) (l : List Deed) (a : Deed) (p : Place) (w : World) (s_l : Sl w v_l l) (c_l : ∀ x ∈ l, Sl w x.cv x.Changes) (s_a : Sl w a.cv a.Changes) : Calls Try.prog 6 #[v_l, .agg #[.string a.Kind, .string a.S, .int .i64 a.P.Holder, .int .i64 a.P.Slot, .int .i64 a.Q.Holder, .int .i64 a.Q.Slot, .int .i64 a.A, .int .i64 a.B, .int .i64 a.N, .int .u64 a.K, a.cv], .agg #[.int .i64 p.Holder, .int .i64 p.Slot]] w fun e w' => e = .returned (.bool true) ∧ Ext w w' := by
  have b_l := s_l.lenle
  refine R.enter (n := 103) (vs := [v_l, .agg #[.string a.Kind, .string a.S, .int .i64 a.P.Holder, .int .i64 a.P.Slot, .int .i64 a.Q.Holder, .int .i64 a.Q.Slot, .int .i64 a.A, .int .i64 a.B, .int .i64 a.N, .int .u64 a.K, a.cv], .agg #[.int .i64 p.Holder, .int .i64 p.Slot]]) [] [(0, v_l), (1, .agg #[.string a.Kind, .string a.S, .int .i64 a.P.Holder, .int .i64 a.P.Slot, .int .i64 a.Q.Holder, .int .i64 a.Q.Slot, .int .i64 a.A, .int .i64 a.B, .int .i64 a.N, .int .u64 a.K, a.cv]), (2, .agg #[.int .i64 p.Holder, .int .i64 p.Slot])] Try.func6 rfl rfl rfl rfl ?_
  refine R.oldL s_l ?_
  refine R.oldF (r := Res.acts l) c_l (acts_lt c_l) ?_
  refine R.oldL s_a ?_
  refine R.reg rfl <| ?_
  refine R.s rfl (s.box (cs := [.string a.Kind, .string a.S, .int .i64 a.P.Holder, .int .i64 a.P.Slot, .int .i64 a.Q.Holder, .int .i64 a.Q.Slot, .int .i64 a.A, .int .i64 a.B, .int .i64 a.N, .int .u64 a.K, a.cv]) rfl rfl rfl) fun b1 => ?_
  refine R.s rfl (s.box (cs := [.int .i64 p.Holder, .int .i64 p.Slot]) rfl rfl rfl) fun b2 => ?_
  refine R.u 1 rfl <| R.nil ?_
  refine R.reg rfl <| R.c (q.call eg_14 rfl rfl (fun w hw => (made_any  w  ))) rfl <| R.u 1 rfl <| R.nil ?_
  refine R.reg rfl <| R.u 2 rfl <| R.nil ?_
  refine R.condF rfl rfl ?_
  refine R.reg rfl <| R.u 1 rfl <| ?_
  refine R.s (B' := (fun g_ : Value × Value × Value × Value => [Res.box b2 [.int .i64 p.Holder, .int .i64 p.Slot] 34, Res.box b1 [.string a.Kind, .string a.S, .int .i64 a.P.Holder, .int .i64 a.P.Slot, .int .i64 a.Q.Holder, .int .i64 a.Q.Slot, .int .i64 a.A, .int .i64 a.B, .int .i64 a.N, .int .u64 a.K, a.cv] 60])) (F' := (fun g_ : Value × Value × Value × Value => [Res.ls g_.1 ((((grownR l)).1).Writs : List Writ), Res.ls g_.2.1 ((((grownR l)).1).Things : List Thing), Res.ls g_.2.2.1 ((((grownR l)).1).Held : List Held), Res.ls g_.2.2.2 ((((grownR l)).1).Notes : List Note), Res.ls a.cv (a.Changes : List Change), Res.acts l, Res.ls v_l (l : List Deed)])) rfl (s.callV (B0 := []) (Br := [Res.box b2 [.int .i64 p.Holder, .int .i64 p.Slot] 34, Res.box b1 [.string a.Kind, .string a.S, .int .i64 a.P.Holder, .int .i64 a.P.Slot, .int .i64 a.Q.Holder, .int .i64 a.Q.Slot, .int .i64 a.A, .int .i64 a.B, .int .i64 a.N, .int .u64 a.K, a.cv] 60]) (F0 := [Res.ls v_l (l : List Deed), Res.acts l]) [0, 1] [2, 1] (fun g_ : Value × Value × Value × Value => .tuple #[.agg #[g_.1, g_.2.1, g_.2.2.1, g_.2.2.2, .int .i64 ((((grownR l)).1).NextWrit), .int .i64 ((((grownR l)).1).NextThing)], .bool (((grownR l)).2)]) (fun g_ : Value × Value × Value × Value => []) (fun g_ : Value × Value × Value × Value => [Res.ls g_.1 ((((grownR l)).1).Writs : List Writ), Res.ls g_.2.1 ((((grownR l)).1).Things : List Thing), Res.ls g_.2.2.1 ((((grownR l)).1).Held : List Held), Res.ls g_.2.2.2 ((((grownR l)).1).Notes : List Note)]) rfl rfl rfl eg_15 rfl rfl (fun w own hw H => grown_any v_l (l) w own H ) rfl) ?_
  rintro ⟨z1, z2, z3, z4⟩
  dsimp only
  refine R.u 3 rfl <| ?_
  refine R.s rfl (s.alloc (cs := [.slice none 0 0, .slice none 0 0, .slice none 0 0, .slice none 0 0, .int .i64 0, .int .i64 0]) tZero_29 rfl rfl) fun b3 => ?_
  refine R.s rfl (s.stV (us := [z1, z2, z3, z4, .int .i64 (((grownR l).1).NextWrit), .int .i64 (((grownR l).1).NextThing)]) (cs' := [z1, z2, z3, z4, .int .i64 (((grownR l).1).NextWrit), .int .i64 (((grownR l).1).NextThing)]) 0 _ rfl rfl rfl (fun _ _ => rfl) (.inl tAgg_29) (fun w hw => (one_cons (Sl.one ((fun _ => Wd.fls 0 rfl) w hw)) (one_cons (Sl.one ((fun _ => Wd.fls 1 rfl) w hw)) (one_cons (Sl.one ((fun _ => Wd.fls 2 rfl) w hw)) (one_cons (Sl.one ((fun _ => Wd.fls 3 rfl) w hw)) (one_cons rfl (one_cons rfl one_nil))))))) rfl rfl rfl) fun _ => ?_
  refine R.u 1 rfl <| R.nil ?_
  refine R.reg rfl <| R.u 1 rfl <| R.q (q.not rfl) rfl <| R.u 1 rfl <| ?_
  rcases Bool.eq_false_or_eq_true ((grownR l).2) with h1 | h1
  · rw [h1]
    refine R.qg rfl (q.ldS 2 rfl rfl tAgg_60) rfl <| ?_
    refine R.s rfl (s.bs (l := ([a] : List Deed)) tSl_22 tZero_60 rfl rfl rfl rfl rfl rfl rfl) fun b4 => ?_
    rcases Bool.eq_false_or_eq_true (lightA ([a]) 1) with h2 | h2
    · refine R.cg rfl (q.call eg_24 rfl rfl (fun w hw => (cv (congrArg Value.bool h2) (lightA_any _ ([a]) (1) w ((fun _ => Wd.row 0 rfl) w hw) (acts_one ((fun _ => Wd.fls 4 rfl) w hw)) )))) rfl <| R.u 3 rfl <| R.qg rfl (q.ldS 2 rfl rfl tAgg_34) rfl <| R.cg rfl (q.call eg_25 rfl rfl (fun w hw => (placeCheck_any (p) w  ))) rfl <| ?_
      by_cases h3 : placeFault p = 0
      · refine R.qg rfl (q.neqE0 rfl rfl Try.underlying49 (by omega)) rfl <| R.u 1 rfl <| R.nil ?_
        refine R.condF rfl rfl ?_
        have hg := grown_facts (show (grownR l).2 = true from by first | assumption | (have hq := ‹(!(grownR l).2) = false›; simpa using hq)); have hI := hg.1; have hz := hg.2; have hk : Ok (grownR l).1 := hz.ok (by decide); have bw := hk.wl; have bt := hk.tl; have bh := hk.hl; have bn := hk.nl
        have hk2 : Ok (doR ((grownR l).1) a).1 := (do_sz hz a).ok (by decide); have bh2 := hk2.hl
        refine R.reg rfl <| R.q (q.ldS 1 rfl rfl tAgg_29) rfl <| R.q (q.ldS 3 rfl rfl tAgg_60) rfl <| ?_
        refine R.s (B' := (fun g_ : Value × Value × Value × Value => [Res.row 60 (.slice (some ⟨b4, 0, none⟩) 1 1) ([a] : List Deed), Res.box b3 [z1, z2, z3, z4, .int .i64 (((grownR l).1).NextWrit), .int .i64 (((grownR l).1).NextThing)] 29, Res.box b2 [.int .i64 p.Holder, .int .i64 p.Slot] 34, Res.box b1 [.string a.Kind, .string a.S, .int .i64 a.P.Holder, .int .i64 a.P.Slot, .int .i64 a.Q.Holder, .int .i64 a.Q.Slot, .int .i64 a.A, .int .i64 a.B, .int .i64 a.N, .int .u64 a.K, a.cv] 60])) (F' := (fun g_ : Value × Value × Value × Value => [Res.ls g_.1 ((((doR ((grownR l).1) a)).1).Writs : List Writ), Res.ls g_.2.1 ((((doR ((grownR l).1) a)).1).Things : List Thing), Res.ls g_.2.2.1 ((((doR ((grownR l).1) a)).1).Held : List Held), Res.ls g_.2.2.2 ((((doR ((grownR l).1) a)).1).Notes : List Note), Res.ls z1 (((grownR l).1).Writs : List Writ), Res.ls z2 (((grownR l).1).Things : List Thing), Res.ls z3 (((grownR l).1).Held : List Held), Res.ls z4 (((grownR l).1).Notes : List Note), Res.ls a.cv (a.Changes : List Change), Res.acts l, Res.ls v_l (l : List Deed)])) rfl (s.callV (B0 := []) (Br := [Res.row 60 (.slice (some ⟨b4, 0, none⟩) 1 1) ([a] : List Deed), Res.box b3 [z1, z2, z3, z4, .int .i64 (((grownR l).1).NextWrit), .int .i64 (((grownR l).1).NextThing)] 29, Res.box b2 [.int .i64 p.Holder, .int .i64 p.Slot] 34, Res.box b1 [.string a.Kind, .string a.S, .int .i64 a.P.Holder, .int .i64 a.P.Slot, .int .i64 a.Q.Holder, .int .i64 a.Q.Slot, .int .i64 a.A, .int .i64 a.B, .int .i64 a.N, .int .u64 a.K, a.cv] 60]) (F0 := [Res.ls z1 (((grownR l).1).Writs : List Writ), Res.ls z2 (((grownR l).1).Things : List Thing), Res.ls z3 (((grownR l).1).Held : List Held), Res.ls z4 (((grownR l).1).Notes : List Note)]) [0, 1, 2, 3] [0, 1, 2, 3] (fun g_ : Value × Value × Value × Value => .tuple #[.agg #[g_.1, g_.2.1, g_.2.2.1, g_.2.2.2, .int .i64 ((((doR ((grownR l).1) a)).1).NextWrit), .int .i64 ((((doR ((grownR l).1) a)).1).NextThing)], errv (((doR ((grownR l).1) a)).2)]) (fun g_ : Value × Value × Value × Value => []) (fun g_ : Value × Value × Value × Value => [Res.ls g_.1 ((((doR ((grownR l).1) a)).1).Writs : List Writ), Res.ls g_.2.1 ((((doR ((grownR l).1) a)).1).Things : List Thing), Res.ls g_.2.2.1 ((((doR ((grownR l).1) a)).1).Held : List Held), Res.ls g_.2.2.2 ((((doR ((grownR l).1) a)).1).Notes : List Note)]) rfl rfl rfl eg_26 rfl rfl (fun w own hw H => doR_any z1 z2 z3 z4 (((grownR l).1)) (a) w own H (by assumption)) rfl) ?_
        rintro ⟨z5, z6, z7, z8⟩
        dsimp only
        refine R.u 3 rfl <| ?_
        refine R.s rfl (s.alloc (cs := [.slice none 0 0, .slice none 0 0, .slice none 0 0, .slice none 0 0, .int .i64 0, .int .i64 0]) tZero_29 rfl rfl) fun b5 => ?_
        refine R.s rfl (s.stV (us := [z5, z6, z7, z8, .int .i64 (((doR ((grownR l).1) a).1).NextWrit), .int .i64 (((doR ((grownR l).1) a).1).NextThing)]) (cs' := [z5, z6, z7, z8, .int .i64 (((doR ((grownR l).1) a).1).NextWrit), .int .i64 (((doR ((grownR l).1) a).1).NextThing)]) 0 _ rfl rfl rfl (fun _ _ => rfl) (.inl tAgg_29) (fun w hw => (one_cons (Sl.one ((fun _ => Wd.fls 0 rfl) w hw)) (one_cons (Sl.one ((fun _ => Wd.fls 1 rfl) w hw)) (one_cons (Sl.one ((fun _ => Wd.fls 2 rfl) w hw)) (one_cons (Sl.one ((fun _ => Wd.fls 3 rfl) w hw)) (one_cons rfl (one_cons rfl one_nil))))))) rfl rfl rfl) fun _ => ?_
        refine R.u 1 rfl <| R.nil ?_
        by_cases h4 : (doR ((grownR l).1) a).2 = 0
        · by_cases h5 : atH (((doR ((grownR l).1) a).1).Held) p = atH (((grownR l).1).Held) p
          · refine R.regQ rfl mixed (by kernel_rfl) <| Q.u 1 rfl <| Q.q (q.neqE0 rfl rfl Try.underlying49 (by omega)) rfl <| Q.u 1 rfl <| Q.qg rfl (q.fld (off' := 2) rfl tFld_29_2 rfl) rfl <| Q.qg rfl (q.ld 0 rfl rfl tOne_26 rfl) rfl <| Q.qg rfl (q.ldS 3 rfl rfl tAgg_34) rfl <| Q.cg rfl (q.call eg_23 rfl rfl (fun w hw => (atPlace_any _ (((doR ((grownR l).1) a).1).Held) (p) w ((fun _ => Wd.fls 2 rfl) w hw) (by first | omega | assumption | (simp; done) | (simp; omega))))) rfl <| Q.qg rfl (q.fld (off' := 2) rfl tFld_29_2 rfl) rfl <| Q.qg rfl (q.ld 2 rfl rfl tOne_26 rfl) rfl <| Q.qg rfl (q.ldS 3 rfl rfl tAgg_34) rfl <| Q.cg rfl (q.call eg_23 rfl rfl (fun w hw => (atPlace_any _ (((grownR l).1).Held) (p) w ((fun _ => Wd.fls 6 rfl) w hw) (by first | omega | assumption | (simp; done) | (simp; omega))))) rfl <| Q.qg rfl (q.eql rfl rfl (beq_iff_eq.2 (by omega))) rfl <| Q.u 1 rfl <| Q.nil ?_
            refine R.condT rfl rfl ?_
            refine R.reg rfl <| R.u 1 rfl <| R.nil ?_
            exact R.rv rfl Try.results6 rfl (rB (by (first | rfl | (exfalso; omega))))
          · refine R.regQ rfl mixed (by kernel_rfl) <| Q.u 1 rfl <| Q.q (q.neqE0 rfl rfl Try.underlying49 (by omega)) rfl <| Q.u 1 rfl <| Q.qg rfl (q.fld (off' := 2) rfl tFld_29_2 rfl) rfl <| Q.qg rfl (q.ld 0 rfl rfl tOne_26 rfl) rfl <| Q.qg rfl (q.ldS 3 rfl rfl tAgg_34) rfl <| Q.cg rfl (q.call eg_23 rfl rfl (fun w hw => (atPlace_any _ (((doR ((grownR l).1) a).1).Held) (p) w ((fun _ => Wd.fls 2 rfl) w hw) (by first | omega | assumption | (simp; done) | (simp; omega))))) rfl <| Q.qg rfl (q.fld (off' := 2) rfl tFld_29_2 rfl) rfl <| Q.qg rfl (q.ld 2 rfl rfl tOne_26 rfl) rfl <| Q.qg rfl (q.ldS 3 rfl rfl tAgg_34) rfl <| Q.cg rfl (q.call eg_23 rfl rfl (fun w hw => (atPlace_any _ (((grownR l).1).Held) (p) w ((fun _ => Wd.fls 6 rfl) w hw) (by first | omega | assumption | (simp; done) | (simp; omega))))) rfl <| Q.qg rfl (q.eql rfl rfl (beq_eq_false_iff_ne.2 (by omega))) rfl <| Q.u 1 rfl <| Q.nil ?_
            refine R.condF rfl rfl ?_
            obtain ⟨L1, L2⟩ := alone_cases (alone_law hI ‹(doR ((grownR l).1) a).2 = 0› p) (by assumption)
            refine R.reg rfl <| R.q (q.fld (off' := 2) rfl tFld_29_2 rfl) rfl <| R.q (q.ld 0 rfl rfl tOne_26 rfl) rfl <| R.q (q.ldS 3 rfl rfl tAgg_34) rfl <| R.c (q.call eg_23 rfl rfl (fun w hw => (atPlace_any _ (((doR ((grownR l).1) a).1).Held) (p) w ((fun _ => Wd.fls 2 rfl) w hw) (by first | omega | assumption | (simp; done) | (simp; omega))))) rfl <| ?_
            by_cases h6 : atH (((doR ((grownR l).1) a).1).Held) p = 0
            · refine R.q (q.eql rfl rfl (beq_iff_eq.2 (by omega))) rfl <| R.nil ?_
              refine R.condT rfl rfl ?_
              refine R.reg rfl <| R.q (q.fld (off' := 0) rfl tFld_60_0 rfl) rfl <| R.q (q.ld 4 rfl rfl tOne_9 rfl) rfl <| ?_
              by_cases h7 : a.Kind = ⟨#[100, 114, 111, 112]⟩
              · refine R.q (q.eqlS1 rfl rfl h7) rfl <| R.u 17 rfl <| R.nil ?_
                exact R.rv rfl Try.results6 rfl (rB (by (first | rfl | (exfalso; rcases L1 (by assumption) with e | e | ⟨e, e2⟩ <;> first | exact absurd e (by assumption) | exact absurd e2 (by assumption)))))
              · refine R.q (q.eqlS0 rfl rfl h7) rfl <| R.u 1 rfl <| R.qg rfl (q.fld (off' := 0) rfl tFld_60_0 rfl) rfl <| R.qg rfl (q.ld 4 rfl rfl tOne_9 rfl) rfl <| ?_
                by_cases h8 : a.Kind = ⟨#[114, 101, 118, 111, 107, 101]⟩
                · refine R.qg rfl (q.eqlS1 rfl rfl h8) rfl <| R.u 13 rfl <| R.nil ?_
                  exact R.rv rfl Try.results6 rfl (rB (by (first | rfl | (exfalso; rcases L1 (by assumption) with e | e | ⟨e, e2⟩ <;> first | exact absurd e (by assumption) | exact absurd e2 (by assumption)))))
                · refine R.qg rfl (q.eqlS0 rfl rfl h8) rfl <| R.u 2 rfl <| R.qg rfl (q.fld (off' := 0) rfl tFld_60_0 rfl) rfl <| R.qg rfl (q.ld 4 rfl rfl tOne_9 rfl) rfl <| ?_
                  by_cases h9 : a.Kind = ⟨#[109, 111, 118, 101]⟩
                  · refine R.qg rfl (q.eqlS1 rfl rfl h9) rfl <| R.u 1 rfl <| R.qg rfl (q.ldS 3 rfl rfl tAgg_34) rfl <| R.qg rfl (q.fld (off' := 2) rfl tFld_60_2 rfl) rfl <| R.qg rfl (q.ldP (ds := [.int .i64 a.P.Holder, .int .i64 a.P.Slot]) 4 rfl rfl tAgg_34 rfl) rfl <| ?_
                    by_cases h10 : p = a.P
                    · refine R.qg rfl (q.eqlT1 (x := p) (y := a.P) eq_34 rfl rfl h10) rfl <| R.u 3 rfl <| R.nil ?_
                      exact R.rv rfl Try.results6 rfl (rB (by (first | rfl | (exfalso; rcases L1 (by assumption) with e | e | ⟨e, e2⟩ <;> first | exact absurd e (by assumption) | exact absurd e2 (by assumption)))))
                    · refine R.qg rfl (q.eqlT0 (x := p) (y := a.P) eq_34 rfl rfl h10) rfl <| R.u 3 rfl <| R.nil ?_
                      exact R.rv rfl Try.results6 rfl (rB (by (first | rfl | (exfalso; rcases L1 (by assumption) with e | e | ⟨e, e2⟩ <;> first | exact absurd e (by assumption) | exact absurd e2 (by assumption)))))
                  · refine R.qg rfl (q.eqlS0 rfl rfl h9) rfl <| R.u 8 rfl <| R.nil ?_
                    exact R.rv rfl Try.results6 rfl (rB (by (first | rfl | (exfalso; rcases L1 (by assumption) with e | e | ⟨e, e2⟩ <;> first | exact absurd e (by assumption) | exact absurd e2 (by assumption)))))
            · refine R.q (q.eql rfl rfl (beq_eq_false_iff_ne.2 (by omega))) rfl <| R.nil ?_
              refine R.condF rfl rfl ?_
              refine R.reg rfl <| R.q (q.fld (off' := 2) rfl tFld_29_2 rfl) rfl <| R.q (q.ld 2 rfl rfl tOne_26 rfl) rfl <| R.q (q.ldS 3 rfl rfl tAgg_34) rfl <| R.c (q.call eg_23 rfl rfl (fun w hw => (atPlace_any _ (((grownR l).1).Held) (p) w ((fun _ => Wd.fls 6 rfl) w hw) (by first | omega | assumption | (simp; done) | (simp; omega))))) rfl <| ?_
              by_cases h11 : atH (((grownR l).1).Held) p = 0
              · refine R.q (q.neq rfl rfl (bne_eq_false_iff_eq.2 (by omega))) rfl <| R.nil ?_
                refine R.condF rfl rfl ?_
                refine R.reg rfl <| R.q (q.fld (off' := 0) rfl tFld_60_0 rfl) rfl <| R.q (q.ld 4 rfl rfl tOne_9 rfl) rfl <| R.nil ?_
                refine R.reg rfl <| ?_
                by_cases h12 : a.Kind = ⟨#[103, 105, 118, 101]⟩
                · refine R.q (q.eqlS1 rfl rfl h12) rfl <| R.u 1 rfl <| R.nil ?_
                  refine R.condT rfl rfl ?_
                  refine R.reg rfl <| R.q (q.ldS 3 rfl rfl tAgg_34) rfl <| R.q (q.fld (off' := 4) rfl tFld_60_3 rfl) rfl <| R.q (q.ldP (ds := [.int .i64 a.Q.Holder, .int .i64 a.Q.Slot]) 4 rfl rfl tAgg_34 rfl) rfl <| ?_
                  by_cases h13 : p = a.Q
                  · refine R.q (q.eqlT1 (x := p) (y := a.Q) eq_34 rfl rfl h13) rfl <| R.u 1 rfl <| R.nil ?_
                    exact R.rv rfl Try.results6 rfl (rB (by (first | rfl | (exfalso; rcases (L2 (by assumption)).2 with ⟨e, e2⟩ | ⟨e, e2⟩ | ⟨e, e2⟩ | ⟨e, e2⟩ <;> first | exact absurd e2 (by assumption) | exact absurd e (by assumption) | omega | exact absurd (e.symm.trans ‹a.Kind = sGive›) (by decide +kernel) | exact absurd (e.symm.trans ‹a.Kind = sMake›) (by decide +kernel) | exact absurd (e.symm.trans ‹a.Kind = sMove›) (by decide +kernel) | exact absurd (e.symm.trans ‹a.Kind = sTake›) (by decide +kernel)))))
                  · refine R.q (q.eqlT0 (x := p) (y := a.Q) eq_34 rfl rfl h13) rfl <| R.u 1 rfl <| R.nil ?_
                    exact R.rv rfl Try.results6 rfl (rB (by (first | rfl | (exfalso; rcases (L2 (by assumption)).2 with ⟨e, e2⟩ | ⟨e, e2⟩ | ⟨e, e2⟩ | ⟨e, e2⟩ <;> first | exact absurd e2 (by assumption) | exact absurd e (by assumption) | omega | exact absurd (e.symm.trans ‹a.Kind = sGive›) (by decide +kernel) | exact absurd (e.symm.trans ‹a.Kind = sMake›) (by decide +kernel) | exact absurd (e.symm.trans ‹a.Kind = sMove›) (by decide +kernel) | exact absurd (e.symm.trans ‹a.Kind = sTake›) (by decide +kernel)))))
                · refine R.q (q.eqlS0 rfl rfl h12) rfl <| R.u 1 rfl <| R.nil ?_
                  refine R.condF rfl rfl ?_
                  refine R.reg rfl <| ?_
                  by_cases h14 : a.Kind = ⟨#[109, 97, 107, 101]⟩
                  · refine R.q (q.eqlS1 rfl rfl h14) rfl <| R.u 1 rfl <| R.nil ?_
                    refine R.condT rfl rfl ?_
                    refine R.reg rfl <| R.q (q.ldS 3 rfl rfl tAgg_34) rfl <| R.q (q.fld (off' := 2) rfl tFld_60_2 rfl) rfl <| R.q (q.ldP (ds := [.int .i64 a.P.Holder, .int .i64 a.P.Slot]) 4 rfl rfl tAgg_34 rfl) rfl <| ?_
                    by_cases h15 : p = a.P
                    · refine R.q (q.eqlT1 (x := p) (y := a.P) eq_34 rfl rfl h15) rfl <| R.u 1 rfl <| R.nil ?_
                      exact R.rv rfl Try.results6 rfl (rB (by (first | rfl | (exfalso; rcases (L2 (by assumption)).2 with ⟨e, e2⟩ | ⟨e, e2⟩ | ⟨e, e2⟩ | ⟨e, e2⟩ <;> first | exact absurd e2 (by assumption) | exact absurd e (by assumption) | omega | exact absurd (e.symm.trans ‹a.Kind = sGive›) (by decide +kernel) | exact absurd (e.symm.trans ‹a.Kind = sMake›) (by decide +kernel) | exact absurd (e.symm.trans ‹a.Kind = sMove›) (by decide +kernel) | exact absurd (e.symm.trans ‹a.Kind = sTake›) (by decide +kernel)))))
                    · refine R.q (q.eqlT0 (x := p) (y := a.P) eq_34 rfl rfl h15) rfl <| R.u 1 rfl <| R.nil ?_
                      exact R.rv rfl Try.results6 rfl (rB (by (first | rfl | (exfalso; rcases (L2 (by assumption)).2 with ⟨e, e2⟩ | ⟨e, e2⟩ | ⟨e, e2⟩ | ⟨e, e2⟩ <;> first | exact absurd e2 (by assumption) | exact absurd e (by assumption) | omega | exact absurd (e.symm.trans ‹a.Kind = sGive›) (by decide +kernel) | exact absurd (e.symm.trans ‹a.Kind = sMake›) (by decide +kernel) | exact absurd (e.symm.trans ‹a.Kind = sMove›) (by decide +kernel) | exact absurd (e.symm.trans ‹a.Kind = sTake›) (by decide +kernel)))))
                  · refine R.q (q.eqlS0 rfl rfl h14) rfl <| R.u 1 rfl <| R.nil ?_
                    refine R.condF rfl rfl ?_
                    refine R.reg rfl <| ?_
                    by_cases h16 : a.Kind = ⟨#[109, 111, 118, 101]⟩
                    · refine R.q (q.eqlS1 rfl rfl h16) rfl <| R.u 1 rfl <| R.nil ?_
                      refine R.condT rfl rfl ?_
                      refine R.condT rfl rfl ?_
                      refine R.reg rfl <| R.q (q.fld (off' := 0) rfl tFld_34_0 rfl) rfl <| R.q (q.ld 3 rfl rfl tOne_3 rfl) rfl <| R.q (q.fld (off' := 2) rfl tFld_60_2 rfl) rfl <| R.q (q.fld (off' := 2) rfl tFld_34_0 rfl) rfl <| R.q (q.ld 4 rfl rfl tOne_3 rfl) rfl <| ?_
                      by_cases h17 : p.Holder = a.P.Holder
                      · refine R.q (q.eql rfl rfl (beq_iff_eq.2 (by omega))) rfl <| R.u 1 rfl <| R.nil ?_
                        exact R.rv rfl Try.results6 rfl (rB (by (first | rfl | (exfalso; rcases (L2 (by assumption)).2 with ⟨e, e2⟩ | ⟨e, e2⟩ | ⟨e, e2⟩ | ⟨e, e2⟩ <;> first | exact absurd e2 (by assumption) | exact absurd e (by assumption) | omega | exact absurd (e.symm.trans ‹a.Kind = sGive›) (by decide +kernel) | exact absurd (e.symm.trans ‹a.Kind = sMake›) (by decide +kernel) | exact absurd (e.symm.trans ‹a.Kind = sMove›) (by decide +kernel) | exact absurd (e.symm.trans ‹a.Kind = sTake›) (by decide +kernel)))))
                      · refine R.q (q.eql rfl rfl (beq_eq_false_iff_ne.2 (by omega))) rfl <| R.u 1 rfl <| R.nil ?_
                        exact R.rv rfl Try.results6 rfl (rB (by (first | rfl | (exfalso; rcases (L2 (by assumption)).2 with ⟨e, e2⟩ | ⟨e, e2⟩ | ⟨e, e2⟩ | ⟨e, e2⟩ <;> first | exact absurd e2 (by assumption) | exact absurd e (by assumption) | omega | exact absurd (e.symm.trans ‹a.Kind = sGive›) (by decide +kernel) | exact absurd (e.symm.trans ‹a.Kind = sMake›) (by decide +kernel) | exact absurd (e.symm.trans ‹a.Kind = sMove›) (by decide +kernel) | exact absurd (e.symm.trans ‹a.Kind = sTake›) (by decide +kernel)))))
                    · refine R.q (q.eqlS0 rfl rfl h16) rfl <| R.u 1 rfl <| R.nil ?_
                      refine R.condF rfl rfl ?_
                      refine R.reg rfl <| ?_
                      by_cases h18 : a.Kind = ⟨#[116, 97, 107, 101]⟩
                      · refine R.q (q.eqlS1 rfl rfl h18) rfl <| R.u 1 rfl <| R.nil ?_
                        refine R.condT rfl rfl ?_
                        refine R.reg rfl <| R.q (q.fld (off' := 0) rfl tFld_34_0 rfl) rfl <| R.q (q.ld 3 rfl rfl tOne_3 rfl) rfl <| R.q (q.fld (off' := 2) rfl tFld_60_2 rfl) rfl <| R.q (q.fld (off' := 2) rfl tFld_34_0 rfl) rfl <| R.q (q.ld 4 rfl rfl tOne_3 rfl) rfl <| ?_
                        by_cases h19 : p.Holder = a.P.Holder
                        · refine R.q (q.eql rfl rfl (beq_iff_eq.2 (by omega))) rfl <| R.u 1 rfl <| R.nil ?_
                          exact R.rv rfl Try.results6 rfl (rB (by (first | rfl | (exfalso; rcases (L2 (by assumption)).2 with ⟨e, e2⟩ | ⟨e, e2⟩ | ⟨e, e2⟩ | ⟨e, e2⟩ <;> first | exact absurd e2 (by assumption) | exact absurd e (by assumption) | omega | exact absurd (e.symm.trans ‹a.Kind = sGive›) (by decide +kernel) | exact absurd (e.symm.trans ‹a.Kind = sMake›) (by decide +kernel) | exact absurd (e.symm.trans ‹a.Kind = sMove›) (by decide +kernel) | exact absurd (e.symm.trans ‹a.Kind = sTake›) (by decide +kernel)))))
                        · refine R.q (q.eql rfl rfl (beq_eq_false_iff_ne.2 (by omega))) rfl <| R.u 1 rfl <| R.nil ?_
                          exact R.rv rfl Try.results6 rfl (rB (by (first | rfl | (exfalso; rcases (L2 (by assumption)).2 with ⟨e, e2⟩ | ⟨e, e2⟩ | ⟨e, e2⟩ | ⟨e, e2⟩ <;> first | exact absurd e2 (by assumption) | exact absurd e (by assumption) | omega | exact absurd (e.symm.trans ‹a.Kind = sGive›) (by decide +kernel) | exact absurd (e.symm.trans ‹a.Kind = sMake›) (by decide +kernel) | exact absurd (e.symm.trans ‹a.Kind = sMove›) (by decide +kernel) | exact absurd (e.symm.trans ‹a.Kind = sTake›) (by decide +kernel)))))
                      · refine R.q (q.eqlS0 rfl rfl h18) rfl <| R.u 1 rfl <| R.nil ?_
                        refine R.condF rfl rfl ?_
                        refine R.reg rfl <| R.u 1 rfl <| R.nil ?_
                        exact R.rv rfl Try.results6 rfl (rB (by (first | rfl | (exfalso; rcases (L2 (by assumption)).2 with ⟨e, e2⟩ | ⟨e, e2⟩ | ⟨e, e2⟩ | ⟨e, e2⟩ <;> first | exact absurd e2 (by assumption) | exact absurd e (by assumption) | omega | exact absurd (e.symm.trans ‹a.Kind = sGive›) (by decide +kernel) | exact absurd (e.symm.trans ‹a.Kind = sMake›) (by decide +kernel) | exact absurd (e.symm.trans ‹a.Kind = sMove›) (by decide +kernel) | exact absurd (e.symm.trans ‹a.Kind = sTake›) (by decide +kernel)))))
              · refine R.q (q.neq rfl rfl (bne_iff_ne.2 (by omega))) rfl <| R.nil ?_
                refine R.condT rfl rfl ?_
                refine R.reg rfl <| R.u 1 rfl <| R.nil ?_
                exact R.rv rfl Try.results6 rfl (rB (by (exfalso; exact absurd (L2 (by assumption)).1 (by assumption))))
        · refine R.regQ rfl mixed (by kernel_rfl) <| Q.u 1 rfl <| Q.q (q.neqE1 rfl rfl Try.underlying49 (by omega)) rfl <| Q.u 11 rfl <| Q.nil ?_
          refine R.condT rfl rfl ?_
          refine R.reg rfl <| R.u 1 rfl <| R.nil ?_
          exact R.rv rfl Try.results6 rfl (rB (by (first | rfl | (exfalso; omega))))
      · refine R.qg rfl (q.neqE1 rfl rfl Try.underlying49 (by omega)) rfl <| R.u 1 rfl <| R.nil ?_
        refine R.condT rfl rfl ?_
        refine R.reg rfl <| R.u 1 rfl <| R.nil ?_
        exact R.rv rfl Try.results6 rfl (rB (by (first | rfl | (exfalso; omega))))
    · refine R.cg rfl (q.call eg_24 rfl rfl (fun w hw => (cv (congrArg Value.bool h2) (lightA_any _ ([a]) (1) w ((fun _ => Wd.row 0 rfl) w hw) (acts_one ((fun _ => Wd.fls 4 rfl) w hw)) )))) rfl <| R.u 7 rfl <| R.nil ?_
      refine R.condT rfl rfl ?_
      refine R.reg rfl <| R.u 1 rfl <| R.nil ?_
      exact R.rv rfl Try.results6 rfl (rB (by (first | rfl | (exfalso; omega))))
  · rw [h1]
    refine R.u 10 rfl <| R.nil ?_
    refine R.condT rfl rfl ?_
    refine R.reg rfl <| R.u 1 rfl <| R.nil ?_
    exact R.rv rfl Try.results6 rfl (rB (by (first | rfl | (exfalso; omega))))

end Go.Proofs.Ytmbhcpaaaeobmaa
