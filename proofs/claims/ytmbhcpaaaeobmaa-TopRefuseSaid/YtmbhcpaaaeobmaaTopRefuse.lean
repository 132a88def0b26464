/-
  The walk of a law of the realm: whatever is done, the realm that it is done to is as it was.
-/
import Derived.Test.YtmbhcpaaaeobmaaActsW
namespace Go.Proofs.Ytmbhcpaaaeobmaa
open Go Go.RowKit
set_option linter.unusedVariables false
set_option linter.unusedSimpArgs false
set_option maxRecDepth 100000

theorem topRefuse_any (v_l : Value) (l : List Deed) (a : Deed) (w : World) (s_l : Sl w v_l l) (c_l : ∀ x ∈ l, Sl w x.cv x.Changes) (s_a : Sl w a.cv a.Changes) : Calls Try.prog 9 #[v_l, .agg #[.string a.Kind, .string a.S, .int .i64 a.P.Holder, .int .i64 a.P.Slot, .int .i64 a.Q.Holder, .int .i64 a.Q.Slot, .int .i64 a.A, .int .i64 a.B, .int .i64 a.N, .int .u64 a.K, a.cv]] w fun e w' => e = .returned (.bool true) ∧ Ext w w' := by
  have b_l := s_l.lenle
  have e0 : decide ((grownR l).1 = (grownR l).1) = true := decide_eq_true rfl
  refine R.enter (n := 45) (vs := [v_l, .agg #[.string a.Kind, .string a.S, .int .i64 a.P.Holder, .int .i64 a.P.Slot, .int .i64 a.Q.Holder, .int .i64 a.Q.Slot, .int .i64 a.A, .int .i64 a.B, .int .i64 a.N, .int .u64 a.K, a.cv]]) [] [(0, v_l), (1, .agg #[.string a.Kind, .string a.S, .int .i64 a.P.Holder, .int .i64 a.P.Slot, .int .i64 a.Q.Holder, .int .i64 a.Q.Slot, .int .i64 a.A, .int .i64 a.B, .int .i64 a.N, .int .u64 a.K, a.cv])] Try.func9 rfl rfl rfl rfl ?_
  refine R.oldL s_l ?_
  refine R.oldF (r := Res.acts l) c_l (acts_lt c_l) ?_
  refine R.oldL s_a ?_
  refine R.reg rfl <| ?_
  refine R.s rfl (s.box (cs := [.string a.Kind, .string a.S, .int .i64 a.P.Holder, .int .i64 a.P.Slot, .int .i64 a.Q.Holder, .int .i64 a.Q.Slot, .int .i64 a.A, .int .i64 a.B, .int .i64 a.N, .int .u64 a.K, a.cv]) rfl rfl rfl) fun b1 => ?_
  refine R.u 1 rfl <| R.nil ?_
  refine R.reg rfl <| R.c (q.call eg_14 rfl rfl (fun w hw => (made_any  w  ))) rfl <| R.u 1 rfl <| R.nil ?_
  refine R.reg rfl <| R.u 2 rfl <| R.nil ?_
  refine R.condF rfl rfl ?_
  refine R.reg rfl <| R.u 1 rfl <| ?_
  refine R.s (B' := (fun g_ : Value × Value × Value × Value => [Res.box b1 [.string a.Kind, .string a.S, .int .i64 a.P.Holder, .int .i64 a.P.Slot, .int .i64 a.Q.Holder, .int .i64 a.Q.Slot, .int .i64 a.A, .int .i64 a.B, .int .i64 a.N, .int .u64 a.K, a.cv] 60])) (F' := (fun g_ : Value × Value × Value × Value => [Res.ls g_.1 ((((grownR l)).1).Writs : List Writ), Res.ls g_.2.1 ((((grownR l)).1).Things : List Thing), Res.ls g_.2.2.1 ((((grownR l)).1).Held : List Held), Res.ls g_.2.2.2 ((((grownR l)).1).Notes : List Note), Res.ls a.cv (a.Changes : List Change), Res.acts l, Res.ls v_l (l : List Deed)])) rfl (s.callV (B0 := []) (Br := [Res.box b1 [.string a.Kind, .string a.S, .int .i64 a.P.Holder, .int .i64 a.P.Slot, .int .i64 a.Q.Holder, .int .i64 a.Q.Slot, .int .i64 a.A, .int .i64 a.B, .int .i64 a.N, .int .u64 a.K, a.cv] 60]) (F0 := [Res.ls v_l (l : List Deed), Res.acts l]) [0] [2, 1] (fun g_ : Value × Value × Value × Value => .tuple #[.agg #[g_.1, g_.2.1, g_.2.2.1, g_.2.2.2, .int .i64 ((((grownR l)).1).NextWrit), .int .i64 ((((grownR l)).1).NextThing)], .bool (((grownR l)).2)]) (fun g_ : Value × Value × Value × Value => []) (fun g_ : Value × Value × Value × Value => [Res.ls g_.1 ((((grownR l)).1).Writs : List Writ), Res.ls g_.2.1 ((((grownR l)).1).Things : List Thing), Res.ls g_.2.2.1 ((((grownR l)).1).Held : List Held), Res.ls g_.2.2.2 ((((grownR l)).1).Notes : List Note)]) rfl rfl rfl eg_15 rfl rfl (fun w own hw H => grown_any v_l (l) w own H ) rfl) ?_
  rintro ⟨z1, z2, z3, z4⟩
  dsimp only
  refine R.u 3 rfl <| ?_
  refine R.s rfl (s.alloc (cs := [.slice none 0 0, .slice none 0 0, .slice none 0 0, .slice none 0 0, .int .i64 0, .int .i64 0]) tZero_29 rfl rfl) fun b2 => ?_
  refine R.s rfl (s.stV (us := [z1, z2, z3, z4, .int .i64 (((grownR l).1).NextWrit), .int .i64 (((grownR l).1).NextThing)]) (cs' := [z1, z2, z3, z4, .int .i64 (((grownR l).1).NextWrit), .int .i64 (((grownR l).1).NextThing)]) 0 _ rfl rfl rfl (fun _ _ => rfl) (.inl tAgg_29) (fun w hw => (one_cons (Sl.one ((fun _ => Wd.fls 0 rfl) w hw)) (one_cons (Sl.one ((fun _ => Wd.fls 1 rfl) w hw)) (one_cons (Sl.one ((fun _ => Wd.fls 2 rfl) w hw)) (one_cons (Sl.one ((fun _ => Wd.fls 3 rfl) w hw)) (one_cons rfl (one_cons rfl one_nil))))))) rfl rfl rfl) fun _ => ?_
  refine R.u 1 rfl <| R.nil ?_
  refine R.reg rfl <| R.u 1 rfl <| R.q (q.not rfl) rfl <| R.u 1 rfl <| ?_
  rcases Bool.eq_false_or_eq_true ((grownR l).2) with h1 | h1
  · rw [h1]
    refine R.qg rfl (q.ldS 1 rfl rfl tAgg_60) rfl <| ?_
    refine R.s rfl (s.bs (l := ([a] : List Deed)) tSl_22 tZero_60 rfl rfl rfl rfl rfl rfl rfl) fun b3 => ?_
    rcases Bool.eq_false_or_eq_true (lightA ([a]) 1) with h2 | h2
    · refine R.cg rfl (q.call eg_24 rfl rfl (fun w hw => (cv (congrArg Value.bool h2) (lightA_any _ ([a]) (1) w ((fun _ => Wd.row 0 rfl) w hw) (acts_one ((fun _ => Wd.fls 4 rfl) w hw)) )))) rfl <| R.u 2 rfl <| R.nil ?_
      refine R.condF rfl rfl ?_
      have hg := grown_true ‹(grownR l).2 = true›; have hk : Ok (grownR l).1 := hg.2.1 ▸ hg.2.2
      refine R.reg rfl <| R.q (q.ldS 1 rfl rfl tAgg_29) rfl <| ?_
      refine R.s (B' := (fun g_ : Value × Value × Value × Value => [Res.row 60 (.slice (some ⟨b3, 0, none⟩) 1 1) ([a] : List Deed), Res.box b2 [z1, z2, z3, z4, .int .i64 (((grownR l).1).NextWrit), .int .i64 (((grownR l).1).NextThing)] 29, Res.box b1 [.string a.Kind, .string a.S, .int .i64 a.P.Holder, .int .i64 a.P.Slot, .int .i64 a.Q.Holder, .int .i64 a.Q.Slot, .int .i64 a.A, .int .i64 a.B, .int .i64 a.N, .int .u64 a.K, a.cv] 60])) (F' := (fun g_ : Value × Value × Value × Value => [Res.ls g_.1 ((((grownR l).1)).Writs : List Writ), Res.ls g_.2.1 ((((grownR l).1)).Things : List Thing), Res.ls g_.2.2.1 ((((grownR l).1)).Held : List Held), Res.ls g_.2.2.2 ((((grownR l).1)).Notes : List Note), Res.ls z1 (((grownR l).1).Writs : List Writ), Res.ls z2 (((grownR l).1).Things : List Thing), Res.ls z3 (((grownR l).1).Held : List Held), Res.ls z4 (((grownR l).1).Notes : List Note), Res.ls a.cv (a.Changes : List Change), Res.acts l, Res.ls v_l (l : List Deed)])) rfl (s.callV (B0 := []) (Br := [Res.row 60 (.slice (some ⟨b3, 0, none⟩) 1 1) ([a] : List Deed), Res.box b2 [z1, z2, z3, z4, .int .i64 (((grownR l).1).NextWrit), .int .i64 (((grownR l).1).NextThing)] 29, Res.box b1 [.string a.Kind, .string a.S, .int .i64 a.P.Holder, .int .i64 a.P.Slot, .int .i64 a.Q.Holder, .int .i64 a.Q.Slot, .int .i64 a.A, .int .i64 a.B, .int .i64 a.N, .int .u64 a.K, a.cv] 60]) (F0 := [Res.ls z1 (((grownR l).1).Writs : List Writ), Res.ls z2 (((grownR l).1).Things : List Thing), Res.ls z3 (((grownR l).1).Held : List Held), Res.ls z4 (((grownR l).1).Notes : List Note)]) [0, 1, 2] [0, 1, 2, 3] (fun g_ : Value × Value × Value × Value => .agg #[g_.1, g_.2.1, g_.2.2.1, g_.2.2.2, .int .i64 ((((grownR l).1)).NextWrit), .int .i64 ((((grownR l).1)).NextThing)]) (fun g_ : Value × Value × Value × Value => []) (fun g_ : Value × Value × Value × Value => [Res.ls g_.1 ((((grownR l).1)).Writs : List Writ), Res.ls g_.2.1 ((((grownR l).1)).Things : List Thing), Res.ls g_.2.2.1 ((((grownR l).1)).Held : List Held), Res.ls g_.2.2.2 ((((grownR l).1)).Notes : List Note)]) rfl rfl rfl eg_35 rfl rfl (fun w own hw H => copyOf_any z1 z2 z3 z4 (((grownR l).1)) w own H (by assumption)) rfl) ?_
      rintro ⟨z5, z6, z7, z8⟩
      dsimp only
      refine R.s rfl (s.alloc (cs := [.slice none 0 0, .slice none 0 0, .slice none 0 0, .slice none 0 0, .int .i64 0, .int .i64 0]) tZero_29 rfl rfl) fun b4 => ?_
      refine R.s rfl (s.stV (us := [z5, z6, z7, z8, .int .i64 (((grownR l).1).NextWrit), .int .i64 (((grownR l).1).NextThing)]) (cs' := [z5, z6, z7, z8, .int .i64 (((grownR l).1).NextWrit), .int .i64 (((grownR l).1).NextThing)]) 0 _ rfl rfl rfl (fun _ _ => rfl) (.inl tAgg_29) (fun w hw => (one_cons (Sl.one ((fun _ => Wd.fls 0 rfl) w hw)) (one_cons (Sl.one ((fun _ => Wd.fls 1 rfl) w hw)) (one_cons (Sl.one ((fun _ => Wd.fls 2 rfl) w hw)) (one_cons (Sl.one ((fun _ => Wd.fls 3 rfl) w hw)) (one_cons rfl (one_cons rfl one_nil))))))) rfl rfl rfl) fun _ => ?_
      refine R.nil ?_
      refine R.reg rfl <| R.q (q.ldS 2 rfl rfl tAgg_29) rfl <| R.q (q.ldS 3 rfl rfl tAgg_60) rfl <| ?_
      refine R.s (B' := (fun g_ : Value × Value × Value × Value => [Res.box b4 [z5, z6, z7, z8, .int .i64 (((grownR l).1).NextWrit), .int .i64 (((grownR l).1).NextThing)] 29, Res.row 60 (.slice (some ⟨b3, 0, none⟩) 1 1) ([a] : List Deed), Res.box b2 [z1, z2, z3, z4, .int .i64 (((grownR l).1).NextWrit), .int .i64 (((grownR l).1).NextThing)] 29, Res.box b1 [.string a.Kind, .string a.S, .int .i64 a.P.Holder, .int .i64 a.P.Slot, .int .i64 a.Q.Holder, .int .i64 a.Q.Slot, .int .i64 a.A, .int .i64 a.B, .int .i64 a.N, .int .u64 a.K, a.cv] 60])) (F' := (fun g_ : Value × Value × Value × Value => [Res.ls g_.1 ((((doR ((grownR l).1) a)).1).Writs : List Writ), Res.ls g_.2.1 ((((doR ((grownR l).1) a)).1).Things : List Thing), Res.ls g_.2.2.1 ((((doR ((grownR l).1) a)).1).Held : List Held), Res.ls g_.2.2.2 ((((doR ((grownR l).1) a)).1).Notes : List Note), Res.ls z5 (((grownR l).1).Writs : List Writ), Res.ls z6 (((grownR l).1).Things : List Thing), Res.ls z7 (((grownR l).1).Held : List Held), Res.ls z8 (((grownR l).1).Notes : List Note), Res.ls z1 (((grownR l).1).Writs : List Writ), Res.ls z2 (((grownR l).1).Things : List Thing), Res.ls z3 (((grownR l).1).Held : List Held), Res.ls z4 (((grownR l).1).Notes : List Note), Res.ls a.cv (a.Changes : List Change), Res.acts l, Res.ls v_l (l : List Deed)])) rfl (s.callV (B0 := []) (Br := [Res.box b4 [z5, z6, z7, z8, .int .i64 (((grownR l).1).NextWrit), .int .i64 (((grownR l).1).NextThing)] 29, Res.row 60 (.slice (some ⟨b3, 0, none⟩) 1 1) ([a] : List Deed), Res.box b2 [z1, z2, z3, z4, .int .i64 (((grownR l).1).NextWrit), .int .i64 (((grownR l).1).NextThing)] 29, Res.box b1 [.string a.Kind, .string a.S, .int .i64 a.P.Holder, .int .i64 a.P.Slot, .int .i64 a.Q.Holder, .int .i64 a.Q.Slot, .int .i64 a.A, .int .i64 a.B, .int .i64 a.N, .int .u64 a.K, a.cv] 60]) (F0 := [Res.ls z1 (((grownR l).1).Writs : List Writ), Res.ls z2 (((grownR l).1).Things : List Thing), Res.ls z3 (((grownR l).1).Held : List Held), Res.ls z4 (((grownR l).1).Notes : List Note)]) [0, 1, 2, 3] [4, 5, 6, 7] (fun g_ : Value × Value × Value × Value => .tuple #[.agg #[g_.1, g_.2.1, g_.2.2.1, g_.2.2.2, .int .i64 ((((doR ((grownR l).1) a)).1).NextWrit), .int .i64 ((((doR ((grownR l).1) a)).1).NextThing)], errv (((doR ((grownR l).1) a)).2)]) (fun g_ : Value × Value × Value × Value => []) (fun g_ : Value × Value × Value × Value => [Res.ls g_.1 ((((doR ((grownR l).1) a)).1).Writs : List Writ), Res.ls g_.2.1 ((((doR ((grownR l).1) a)).1).Things : List Thing), Res.ls g_.2.2.1 ((((doR ((grownR l).1) a)).1).Held : List Held), Res.ls g_.2.2.2 ((((doR ((grownR l).1) a)).1).Notes : List Note)]) rfl rfl rfl eg_26 rfl rfl (fun w own hw H => doR_any z1 z2 z3 z4 (((grownR l).1)) (a) w own H (by assumption)) rfl) ?_
      rintro ⟨z9, z10, z11, z12⟩
      dsimp only
      refine R.u 3 rfl <| ?_
      refine R.s rfl (s.alloc (cs := [.slice none 0 0, .slice none 0 0, .slice none 0 0, .slice none 0 0, .int .i64 0, .int .i64 0]) tZero_29 rfl rfl) fun b5 => ?_
      refine R.s rfl (s.stV (us := [z9, z10, z11, z12, .int .i64 (((doR ((grownR l).1) a).1).NextWrit), .int .i64 (((doR ((grownR l).1) a).1).NextThing)]) (cs' := [z9, z10, z11, z12, .int .i64 (((doR ((grownR l).1) a).1).NextWrit), .int .i64 (((doR ((grownR l).1) a).1).NextThing)]) 0 _ rfl rfl rfl (fun _ _ => rfl) (.inl tAgg_29) (fun w hw => (one_cons (Sl.one ((fun _ => Wd.fls 0 rfl) w hw)) (one_cons (Sl.one ((fun _ => Wd.fls 1 rfl) w hw)) (one_cons (Sl.one ((fun _ => Wd.fls 2 rfl) w hw)) (one_cons (Sl.one ((fun _ => Wd.fls 3 rfl) w hw)) (one_cons rfl (one_cons rfl one_nil))))))) rfl rfl rfl) fun _ => ?_
      refine R.u 1 rfl <| R.nil ?_
      refine R.reg rfl <| R.u 1 rfl <| ?_
      by_cases h3 : (doR ((grownR l).1) a).2 = 0
      · refine R.q (q.neqE0 rfl rfl Try.underlying49 (by omega)) rfl <| R.u 6 rfl <| R.nil ?_
        refine R.condF rfl rfl ?_
        refine R.reg rfl <| R.q (q.ldS 3 rfl rfl tAgg_29) rfl <| R.q (q.ldS 1 rfl rfl tAgg_29) rfl <| R.c (q.call eg_36 rfl rfl (fun w hw => (cv (congrArg Value.bool e0) (sameRealm_any _ _ _ _ (((grownR l).1)) _ _ _ _ (((grownR l).1)) w ((fun _ => Wd.fls 8 rfl) w hw) ((fun _ => Wd.fls 9 rfl) w hw) ((fun _ => Wd.fls 10 rfl) w hw) ((fun _ => Wd.fls 11 rfl) w hw) ((fun _ => Wd.fls 4 rfl) w hw) ((fun _ => Wd.fls 5 rfl) w hw) ((fun _ => Wd.fls 6 rfl) w hw) ((fun _ => Wd.fls 7 rfl) w hw) )))) rfl <| R.u 1 rfl <| R.nil ?_
        exact R.rv rfl Try.results9 rfl (rB (by (first | rfl | (exfalso; omega))))
      · refine R.q (q.neqE1 rfl rfl Try.underlying49 (by omega)) rfl <| R.u 1 rfl <| R.qg rfl (q.ldS 0 rfl rfl tAgg_29) rfl <| R.qg rfl (q.build (cs := [.slice none 0 0, .slice none 0 0, .slice none 0 0, .slice none 0 0, .int .i64 0, .int .i64 0]) tB_29 rfl rfl) rfl <| ?_
        rcases Bool.eq_false_or_eq_true (decide (((doR ((grownR l).1) a).1) = (⟨[], [], [], [], 0, 0⟩ : Realm))) with h4 | h4
        · refine R.cg rfl (q.call eg_36 rfl rfl (fun w hw => (cv (congrArg Value.bool h4) (sameRealm_any _ _ _ _ (((doR ((grownR l).1) a).1)) _ _ _ _ ((⟨[], [], [], [], 0, 0⟩ : Realm)) w ((fun _ => Wd.fls 0 rfl) w hw) ((fun _ => Wd.fls 1 rfl) w hw) ((fun _ => Wd.fls 2 rfl) w hw) ((fun _ => Wd.fls 3 rfl) w hw) (Sl.nil w) (Sl.nil w) (Sl.nil w) (Sl.nil w) )))) rfl <| R.u 2 rfl <| R.nil ?_
          refine R.condF rfl rfl ?_
          refine R.reg rfl <| R.q (q.ldS 3 rfl rfl tAgg_29) rfl <| R.q (q.ldS 1 rfl rfl tAgg_29) rfl <| R.c (q.call eg_36 rfl rfl (fun w hw => (cv (congrArg Value.bool e0) (sameRealm_any _ _ _ _ (((grownR l).1)) _ _ _ _ (((grownR l).1)) w ((fun _ => Wd.fls 8 rfl) w hw) ((fun _ => Wd.fls 9 rfl) w hw) ((fun _ => Wd.fls 10 rfl) w hw) ((fun _ => Wd.fls 11 rfl) w hw) ((fun _ => Wd.fls 4 rfl) w hw) ((fun _ => Wd.fls 5 rfl) w hw) ((fun _ => Wd.fls 6 rfl) w hw) ((fun _ => Wd.fls 7 rfl) w hw) )))) rfl <| R.u 1 rfl <| R.nil ?_
          exact R.rv rfl Try.results9 rfl (rB (by (first | rfl | (exfalso; omega))))
        · refine R.cg rfl (q.call eg_36 rfl rfl (fun w hw => (cv (congrArg Value.bool h4) (sameRealm_any _ _ _ _ (((doR ((grownR l).1) a).1)) _ _ _ _ ((⟨[], [], [], [], 0, 0⟩ : Realm)) w ((fun _ => Wd.fls 0 rfl) w hw) ((fun _ => Wd.fls 1 rfl) w hw) ((fun _ => Wd.fls 2 rfl) w hw) ((fun _ => Wd.fls 3 rfl) w hw) (Sl.nil w) (Sl.nil w) (Sl.nil w) (Sl.nil w) )))) rfl <| R.u 2 rfl <| R.nil ?_
          refine R.condT rfl rfl ?_
          refine R.reg rfl <| R.u 1 rfl <| R.nil ?_
          exact R.rv rfl Try.results9 rfl (rB (by (exfalso; exact Bool.false_ne_true (‹decide _ = false›.symm.trans (decide_eq_true (do_err (by assumption)))))))
    · refine R.cg rfl (q.call eg_24 rfl rfl (fun w hw => (cv (congrArg Value.bool h2) (lightA_any _ ([a]) (1) w ((fun _ => Wd.row 0 rfl) w hw) (acts_one ((fun _ => Wd.fls 4 rfl) w hw)) )))) rfl <| R.u 2 rfl <| R.nil ?_
      refine R.condT rfl rfl ?_
      refine R.reg rfl <| R.u 1 rfl <| R.nil ?_
      exact R.rv rfl Try.results9 rfl (rB (by (first | rfl | (exfalso; omega))))
  · rw [h1]
    refine R.u 5 rfl <| R.nil ?_
    refine R.condT rfl rfl ?_
    refine R.reg rfl <| R.u 1 rfl <| R.nil ?_
    exact R.rv rfl Try.results9 rfl (rB (by (first | rfl | (exfalso; omega))))

end Go.Proofs.Ytmbhcpaaaeobmaa
