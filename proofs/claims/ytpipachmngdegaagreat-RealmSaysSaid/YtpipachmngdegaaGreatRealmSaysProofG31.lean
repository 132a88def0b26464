import Derived.Test.YtpipachmngdegaaGreatRealmSaysProofG30
section
/-
  The walks of chapter 5, on: making, giving, moving, dropping, revoking; cells and notes. The program's.
-/
namespace Go.Proofs.YtpipachmngdegaaGreat
open Go Go.RowKit
set_option linter.unusedVariables false
set_option linter.unusedSimpArgs false
set_option maxRecDepth 100000
set_option hygiene false
local macro:max "§0" : term => `([.slice none 0 0, .slice none 0 0, .slice none 0 0, .slice none 0 0, .int .i64 0, .int .i64 0])
local macro:max "§1" : term => `(((derived ((getR r (⟨p.Holder, slot⟩ : Place)).1) r.NextWrit rights 0).1))
local macro:max "§2" : term => `((addR (⟨r.Writs, (r.Things ++ ([(⟨r.NextThing, kind, ⟨#[]⟩⟩ : Thing)])), r.Held, r.Notes, r.NextWrit, (r.NextThing + 1)⟩ : Realm) (⟨r.NextWrit, r.NextThing, 7, 0, 0⟩ : Writ) p))
local macro:max "§3" : term => `([.int .i64 (((getR r p).1).ID), .int .i64 (((getR r p).1).Thing), .int .i64 (((getR r p).1).Rights), .int .i64 (((getR r p).1).Badge), .int .i64 (((getR r p).1).From)])
local macro:max "§4" : term => `([.int .i64 (((mayR r p 2 2).1).ID), .int .i64 (((mayR r p 2 2).1).Thing), .int .i64 (((mayR r p 2 2).1).Rights), .int .i64 (((mayR r p 2 2).1).Badge), .int .i64 (((mayR r p 2 2).1).From)])
local macro:max "§5" : term => `([.int .i64 (((getR r (⟨p.Holder, slot⟩ : Place)).1).ID), .int .i64 (((getR r (⟨p.Holder, slot⟩ : Place)).1).Thing), .int .i64 (((getR r (⟨p.Holder, slot⟩ : Place)).1).Rights), .int .i64 (((getR r (⟨p.Holder, slot⟩ : Place)).1).Badge), .int .i64 (((getR r (⟨p.Holder, slot⟩ : Place)).1).From)])
local macro:max "§6" : term => `([Res.ls v_rW (r.Writs : List Writ), Res.ls v_rT (r.Things : List Thing), Res.ls v_rH (r.Held : List Held), Res.ls v_rN (r.Notes : List Note)])
local macro:max "§7" : term => `((by (first | (rw [mayR_bad (by assumption)]; first | done | rfl) | (rw [mayR_none (by assumption) c1n]; first | done | rfl) | (rw [mayR_kind (by assumption) c1h c1e c1b (by assumption)]; first | done | rfl) | (rw [mayR_right (by assumption) c1h c1e c1b (by assumption) (by assumption)]; first | done | rfl) | (rw [mayR_ok (by assumption) c1h c1e c1b (by assumption) (by assumption)]; first | done | rfl))))
local macro:max "§8" : term => `(((derived ((getR r p).1) r.NextWrit rights badge).1))
local macro:max "§9" : term => `([.int .i64 (((mayR r p 2 1).1).ID), .int .i64 (((mayR r p 2 1).1).Thing), .int .i64 (((mayR r p 2 1).1).Rights), .int .i64 (((mayR r p 2 1).1).Badge), .int .i64 (((mayR r p 2 1).1).From)])
local macro:max "§10" : term => `((addR r §1 (⟨0, 0⟩ : Place)))
local macro:max "§11" : term => `([v_rW, v_rT, v_rH, v_rN, .int .i64 r.NextWrit, .int .i64 r.NextThing])
local macro:max "§12" : term => `([.int .i64 p.Holder, .int .i64 p.Slot])
local macro:max "§13" : term => `((⟨r.Writs.filter (fun x => !(fun (x : Writ) => decide (x.ID ∈ (benG (((getR r p).1).ID) r.Writs))) x), r.Things, r.Held, r.Notes, r.NextWrit, r.NextThing⟩ : Realm))
local macro:max "§14" : term => `([.int .i64 c1x.Port, .string c1x.Data, .int .i64 c1x.Badge, .int .i64 c1x.Writ])
local macro:max "§15" : term => `(((mayR r p 2 2).1))
local macro:max "§16" : term => `((fun w hw => (one_cons (Sl.one ((fun _ => Wd.fls 0 rfl) w hw)) (one_cons (Sl.one ((fun _ => Wd.fls 1 rfl) w hw)) (one_cons (Sl.one ((fun _ => Wd.fls 2 rfl) w hw)) (one_cons (Sl.one ((fun _ => Wd.fls 3 rfl) w hw)) (one_cons rfl (one_cons rfl one_nil))))))))
local macro:max "§17" : term => `([.int .i64 0, .int .i64 0, .int .i64 0, .int .i64 0, .int .i64 0])
local macro:max "§18" : term => `((⟨(without r.Writs (((getR r p).1).ID)), r.Things, r.Held, r.Notes, r.NextWrit, r.NextThing⟩ : Realm))
local macro:max "§19" : term => `([.int .i64 (§1.ID), .int .i64 (§1.Thing), .int .i64 (§1.Rights), .int .i64 (§1.Badge), .int .i64 (§1.From)])
local macro:max "§20" : term => `([.int .i64 0, .string (⟨#[]⟩), .int .i64 0, .int .i64 0])
local macro:max "§21" : term => `((fun w hw => (one_cons (Sl.one ((fun _ => Wd.fls 0 rfl) w hw)) (one_cons (Sl.one ((fun _ => Wd.fls 1 rfl) w hw)) (one_cons (Sl.one ((fun _ => Wd.fls 2 rfl) w hw)) (one_cons (Sl.one ((fun _ => Wd.row 0 rfl) w hw)) (one_cons rfl (one_cons rfl one_nil))))))))
local macro:max "§22" : term => `((⟨[], [], [], [], 0, 0⟩ : Realm))
local macro:max "§23" : term => `([.int .i64 (§15.Thing), .string d, .int .i64 (§15.Badge), .int .i64 0])
local macro:max "§24" : term => `((q.build (cs := §0) tB_30 rfl rfl))
local macro:max "§25" : term => `((fun _ hw => hw.nilL (α := Thing)))
local macro:max "§26" : term => `((s.st (us := §0) (cs' := §0) 1 _ rfl rfl rfl rfl (.inl tAgg_30) rfl rfl rfl rfl))
local macro:max "§27" : term => `((by first | omega | assumption | (simp; done) | (simp; omega)))
local macro:max "§28" : term => `((fun _ hw => hw.nilL (α := Writ)))
local macro:max "§29" : term => `((fun _ hw => hw.nilL (α := Held)))
local macro:max "§30" : term => `((fun _ hw => hw.nilL (α := Note)))
local macro:max "§31" : term => `([Res.ls z5 (§10.Writs : List Writ), Res.ls z6 (§10.Things : List Thing), Res.ls z7 (§10.Held : List Held), Res.ls z8 (§10.Notes : List Note), Res.ls v_rW (r.Writs : List Writ), Res.ls v_rT (r.Things : List Thing), Res.ls v_rH (r.Held : List Held), Res.ls v_rN (r.Notes : List Note)])
local macro:max "§32" : term => `((by assumption))
local macro:max "§33" : term => `((fun _ => Wd.pik [2, 3, 4, 5, 6, 7, 9] [0, 1, 2, 3, 4, 5, 6, 7] rfl rfl rfl))
local macro:max "§34" : term => `([.int .i64 (§8.ID), .int .i64 (§8.Thing), .int .i64 (§8.Rights), .int .i64 (§8.Badge), .int .i64 (§8.From)])
local macro:max "§35" : term => `([.int .i64 (§15.Thing), .string d, .int .i64 (§15.Badge), .int .i64 (§1.ID)])
local macro:max "§36" : term => `([.int .i64 (((mayR r p 1 2).1).ID), .int .i64 (((mayR r p 1 2).1).Thing), .int .i64 (((mayR r p 1 2).1).Rights), .int .i64 (((mayR r p 1 2).1).Badge), .int .i64 (((mayR r p 1 2).1).From)])
local macro:max "§37" : term => `((fun w hw => (one_cons (Sl.one ((fun _ => Wd.row 0 rfl) w hw)) one_nil)))
local macro:max "§38" : term => `((⟨r.NextThing, kind, ⟨#[]⟩⟩ : Thing))
local macro:max "§39" : term => `((by kernel_rfl))
local macro:max "§40" : term => `((q.neqE0 rfl rfl Tryz.underlying41 (by omega)))
local macro:max "§41" : term => `((q.neqE1 rfl rfl Tryz.underlying41 (by omega)))
local macro:max "§42" : term => `((⟨§15.Thing, d, §15.Badge, §1.ID⟩ : Note))
local macro:max "§43" : term => `((s.st (us := §0) (cs' := §0) 0 _ rfl rfl rfl rfl (.inl tAgg_30) rfl rfl rfl rfl))
local macro:max "§44" : term => `((fun _ => Wd.pik [2, 3, 4, 5, 7] [0, 1, 2, 3] rfl rfl rfl))
local macro:max "§45" : term => `((⟨§15.Thing, d, §15.Badge, 0⟩ : Note))
local macro:max "§46" : term => `((q.call eg_8 rfl rfl (fun w hw => (get_any _ _ _ _ (r) (p) w ((fun _ => Wd.fls 0 rfl) w hw) ((fun _ => Wd.fls 1 rfl) w hw) ((fun _ => Wd.fls 2 rfl) w hw) ((fun _ => Wd.fls 3 rfl) w hw) §32))))
local macro:max "§47" : term => `((fun w hw => Sl.cells1 ((fun _ => Wd.row 0 rfl) w hw)))
local macro:max "§48" : term => `([Res.box b5 [v1] 116, Res.row 3 v1 ((benG (((getR r p).1).ID) r.Writs) : List Int), Res.box b4 §3 39, Res.box b3 §0 30, Res.box b2 §12 33, Res.box b1 [z2, v_rT, v_rH, v_rN, .int .i64 r.NextWrit, .int .i64 r.NextThing] 30, Res.held w own])
local macro:max "§49" : term => `([z5, z6, z7, z8, .int .i64 (§10.NextWrit), .int .i64 (§10.NextThing)])
local macro:max "§50" : term => `((q.fld (off' := 3) rfl tFld_30_3 rfl))
local macro:max "§51" : term => `((s.alloc (cs := §17) tZero_39 rfl rfl))
local macro:max "§52" : term => `((by first | omega | (simp; omega)))
local macro:max "§53" : term => `((fun _ => Wd.pik [0, 1, 2, 3, 5] [0, 1, 2, 3] rfl rfl rfl))
local macro:max "§54" : term => `([Res.row 74 (.slice (some ⟨b4, 0, none⟩) 1 1) ([§38] : List Thing), Res.box b3 §0 30, Res.box b2 §12 33, Res.box b1 [v_rW, v1, v_rH, v_rN, .int .i64 r.NextWrit, .int .i64 (r.NextThing + 1)] 30, Res.held w own])
local macro:max "§55" : term => `([Res.row 74 (.slice (some ⟨b5, 0, none⟩) 1 1) ([§38] : List Thing), Res.box b3 §0 30, Res.box b2 §12 33, Res.box b1 [v_rW, v2, v_rH, v_rN, .int .i64 r.NextWrit, .int .i64 (r.NextThing + 1)] 30, Res.held w own])
local macro:max "§56" : term => `([v_rW, v_rT, z1, z3, .int .i64 r.NextWrit, .int .i64 r.NextThing])
local macro:max "§57" : term => `((fun g_ : Value × Value × Value × Value => [Res.ls g_.1 (((addR r §8 t)).Writs : List Writ), Res.ls g_.2.1 (((addR r §8 t)).Things : List Thing), Res.ls g_.2.2.1 (((addR r §8 t)).Held : List Held), Res.ls g_.2.2.2 (((addR r §8 t)).Notes : List Note), Res.ls v_rW (r.Writs : List Writ), Res.ls v_rT (r.Things : List Thing), Res.ls v_rH (r.Held : List Held), Res.ls v_rN (r.Notes : List Note)]))
local macro:max "§58" : term => `((s.st (us := §0) (cs' := §0) 2 _ rfl rfl rfl rfl (.inl tAgg_30) rfl rfl rfl rfl))
local macro:max "§59" : term => `((s.callV (B0 := []) (Br := [Res.box b3 §0 30, Res.box b2 §12 33, Res.box b1 §11 30, Res.held w own]) (F0 := [Res.ls v_rT (r.Things : List Thing)]) [0, 1, 2, 3] [1] (fun bz0_ : Value => bz0_) (fun bz0_ : Value => [Res.row 74 bz0_ (r.Things : List Thing)]) (fun bz0_ : Value => []) rfl rfl rfl eg_45 rfl rfl (fun w own hw H => cloneThing_any v_rT (r.Things) w own H §27) rfl))
local macro:max "§60" : term => `([.agg #[v_rW, v_rT, v_rH, v_rN, .int .i64 r.NextWrit, .int .i64 r.NextThing], .agg #[.int .i64 p.Holder, .int .i64 p.Slot]])
local macro:max "§61" : term => `((fun _ => Wd.pik [0, 1, 2, 3, 6, 7, 8] [0, 1, 2, 3] rfl rfl rfl))
local macro:max "§62" : term => `((q.fld (off' := 1) rfl tFld_30_1 rfl))
local macro:max "§63" : term => `((q.gtr rfl rfl (decide_eq_false (by omega))))
local macro:max "§64" : term => `((q.gtr rfl rfl (decide_eq_true (by omega))))
local macro:max "§65" : term => `((⟨p.Holder, freeH r.Held p.Holder⟩ : Place))
local macro:max "§66" : term => `((fun _ => Wd.pik [0, 1, 2, 5, 6, 7] [0, 1, 2, 3] rfl rfl rfl))
local macro:max "§67" : term => `(((getR r p).1))
local macro:max "§68" : term => `(((fun _ => Wd.fls 0 rfl) w hw))
local macro:max "§69" : term => `((fun bz0_ : Value => bz0_))
local macro:max "§70" : term => `([.int .i64 p.Holder, .int .i64 slot])
local macro:max "§71" : term => `([v_rW, v_rT, v_rH, z5, .int .i64 r.NextWrit, .int .i64 r.NextThing])
local macro:max "§72" : term => `((s.st (us := §3) (cs' := §3) 0 _ rfl rfl rfl rfl (.inl tAgg_39) rfl rfl rfl rfl))
local macro:max "§73" : term => `([Res.box b4 §3 39, Res.box b3 §0 30, Res.box b2 §12 33, Res.box b1 [v1, v_rT, v_rH, v_rN, .int .i64 r.NextWrit, .int .i64 r.NextThing] 30, Res.held w own])
local macro:max "§74" : term => `(((fun _ => Wd.fls 2 rfl) w hw))
local macro:max "§75" : term => `(((fun _ => Wd.row 1 rfl) w hw))
local macro:max "§76" : term => `((⟨p.Holder, slot⟩ : Place))
local macro:max "§77" : term => `((fun _ hw => hw.lendL 0 _ rfl rfl))
local macro:max "§78" : term => `((q.fld (off' := 4) rfl tFld_30_4 rfl))
local macro:max "§79" : term => `((q.iface rfl con_69))
local macro:max "§80" : term => `((fun bz0_ : Value => []))
local macro:max "§81" : term => `((fun x => !(fun (x : Writ) => decide (x.ID ∈ (benG (§67.ID) r.Writs))) x))
local macro:max "§82" : term => `((q.call eg_31 rfl rfl (fun w hw => (cv (congrArg (Value.int .i64) c1f) (indexFuncNote_any _ (r.Notes) (fun (t : Note) => t.Port == ((mayR r p 2 1).1).Thing) _ _ eg_32 w ((fun _ => Wd.fls 3 rfl) w hw) (fun W t hW => takeLit_any t (((mayR r p 2 1).1)) _ W (box_ext (hw.b 0 rfl) hW) ) )))))
local macro:max "§83" : term => `(((fun _ => Wd.fls 1 rfl) w hw))
local macro:max "§84" : term => `((fun g_ : Value × Value × Value × Value => []))
local macro:max "§85" : term => `([z5, z6, z7, v4, .int .i64 (§10.NextWrit), .int .i64 (§10.NextThing)])
local macro:max "§86" : term => `([z5, z6, z7, v5, .int .i64 (§10.NextWrit), .int .i64 (§10.NextThing)])
local macro:max "§87" : term => `([z5, z6, z7, v6, .int .i64 (§10.NextWrit), .int .i64 (§10.NextThing)])
local macro:max "§88" : term => `((fun bz0_ : Value => §6))
local macro:max "§89" : term => `([Res.box b6 §14 52, Res.box b5 §9 39, Res.box b4 §20 52, Res.box b3 §0 30, Res.box b2 §12 33, Res.box b1 §11 30, Res.held w own])
local macro:max "§90" : term => `((fun _ => (fun _ => Wd.pik [1, 2, 3, 4, 6] [0, 1, 2, 3] rfl rfl rfl)))
local macro:max "§91" : term => `((by (unfold readR; (repeat' split) <;> first | rfl | (exfalso; omega) | (simp_all; done))))
local macro:max "§92" : term => `([Res.held w own])
local macro:max "§93" : term => `((fun g_ : Value × Value × Value × Value => [Res.ls g_.1 (((addR r §8 t)).Writs : List Writ), Res.ls g_.2.1 (((addR r §8 t)).Things : List Thing), Res.ls g_.2.2.1 (((addR r §8 t)).Held : List Held), Res.ls g_.2.2.2 (((addR r §8 t)).Notes : List Note)]))
local macro:max "§94" : term => `((q.call eg_65 rfl rfl (fun w hw => (cv (congrArg (Value.int .i64) c1f) (indexFuncThing_any _ (r.Things) (fun (t : Thing) => t.ID == §67.Thing) _ _ eg_66 w ((fun _ => Wd.old s_rT) w hw) (fun W t hW => mayLit_any t (§67) _ W (box_ext (hw.b 0 rfl) hW) ) )))))
local macro:max "§95" : term => `([v_rW, v_rT, z4, v_rN, .int .i64 r.NextWrit, .int .i64 r.NextThing])
local macro:max "§96" : term => `([v_rW, z1, v_rH, v_rN, .int .i64 r.NextWrit, .int .i64 r.NextThing])
local macro:max "§97" : term => `([v_rW, v_rT, v_rH, v1, .int .i64 r.NextWrit, .int .i64 r.NextThing])
local macro:max "§98" : term => `([v_rW, v_rT, v_rH, v2, .int .i64 r.NextWrit, .int .i64 r.NextThing])
local macro:max "§99" : term => `([v_rW, v_rT, v_rH, v3, .int .i64 r.NextWrit, .int .i64 r.NextThing])
local macro:max "§100" : term => `([v_rW, v_rT, z1, v_rN, .int .i64 r.NextWrit, .int .i64 r.NextThing])
local macro:max "§101" : term => `((fun _ => (fun _ => Wd.pik [1, 2, 3, 4, 5, 6, 8] [0, 1, 2, 3, 4, 5, 6, 7] rfl rfl rfl)))
local macro:max "§102" : term => `((s.box (cs := §11) rfl rfl rfl))
local macro:max "§103" : term => `((s.box (cs := §12) rfl rfl rfl))
local macro:max "§104" : term => `((s.st (us := §17) (cs' := §17) 1 _ rfl rfl rfl rfl (.inl tAgg_39) rfl rfl rfl rfl))
local macro:max "§105" : term => `((fun _ => Wd.fls 3 rfl))
local macro:max "§106" : term => `((s.alloc (cs := §0) tZero_30 rfl rfl))
local macro:max "§107" : term => `((q.fld (off' := 5) rfl tFld_30_5 rfl))
local macro:max "§108" : term => `((fun bz0_ : Value => [Res.row 52 bz0_ (r.Notes : List Note)]))
local macro:max "§109" : term => `((fun w own hw H => cloneNote_any v_rN (r.Notes) w own H §27))

theorem makeR_any (v_rW v_rT v_rH v_rN : Value) (r : Realm) (p : Place) (kind : Int) (w : World) (own : List Nat) (H : Wd w (blks [] ++ own) ([] ++ §92) §6 w) (hk : Ok r) : Calls Tryz.prog 21 #[.agg #[v_rW, v_rT, v_rH, v_rN, .int .i64 r.NextWrit, .int .i64 r.NextThing], .agg #[.int .i64 p.Holder, .int .i64 p.Slot], .int .i64 kind] w fun e w' => ∃ z : Value × Value × Value × Value, e = .returned (.tuple #[.agg #[z.1, z.2.1, z.2.2.1, z.2.2.2, .int .i64 ((((makeR r p kind)).1).NextWrit), .int .i64 ((((makeR r p kind)).1).NextThing)], errv (((makeR r p kind)).2)]) ∧ Wd w (blks [] ++ own) ([] ++ §92) [Res.ls z.1 ((((makeR r p kind)).1).Writs : List Writ), Res.ls z.2.1 ((((makeR r p kind)).1).Things : List Thing), Res.ls z.2.2.1 ((((makeR r p kind)).1).Held : List Held), Res.ls z.2.2.2 ((((makeR r p kind)).1).Notes : List Note)] w' := by
  have m_r_Writs := H.lenF 0 rfl
  have m_r_Things := H.lenF 1 rfl
  have m_r_Held := H.lenF 2 rfl
  have m_r_Notes := H.lenF 3 rfl
  have bw := hk.wl; have bt := hk.tl; have bh := hk.hl; have bn := hk.nl; have bw0 := hk.w0; have bw1 := hk.w1; have bt0 := hk.t0; have bt1 := hk.t1
  refine R.enterN (n := 63) (vs := [.agg #[v_rW, v_rT, v_rH, v_rN, .int .i64 r.NextWrit, .int .i64 r.NextThing], .agg #[.int .i64 p.Holder, .int .i64 p.Slot], .int .i64 kind]) (B := §92) [(0, .agg #[v_rW, v_rT, v_rH, v_rN, .int .i64 r.NextWrit, .int .i64 r.NextThing]), (1, .agg #[.int .i64 p.Holder, .int .i64 p.Slot]), (2, .int .i64 kind)] Tryz.func21 rfl rfl rfl rfl H ?_
  refine R.reg rfl <| ?_
  refine R.s rfl §102 fun b1 => ?_
  refine R.s rfl §103 fun b2 => ?_
  refine R.s rfl §106 fun b3 => ?_
  refine R.u 1 rfl <| R.nil ?_
  refine R.reg rfl <| R.u 1 rfl <| ?_
  by_cases h1 : kind = 1
  · refine R.q (q.neq rfl rfl (bne_eq_false_iff_eq.2 (by omega))) rfl <| R.u 4 rfl <| R.nil ?_
    refine R.condF rfl rfl ?_
    refine R.reg rfl <| R.q (q.ldS 2 rfl rfl tAgg_30) rfl <| R.q (q.ldS 1 rfl rfl tAgg_33) rfl <| R.c (q.call eg_60 rfl rfl (fun w hw => (freeR_any _ _ _ _ (r) (p) w §68 §83 §74 (§105 w hw) §32))) rfl <| R.u 1 rfl <| R.nil ?_
    refine R.reg rfl <| R.u 1 rfl <| ?_
    by_cases h2 : freeR r p = 0
    · refine R.q §40 rfl <| R.nil ?_
      refine R.condF rfl rfl ?_
      refine R.reg rfl <| R.q §62 rfl <| R.q (q.ld 2 rfl rfl tOne_26 rfl) rfl <| R.q (q.len' (fun _ => Wd.fls 1 rfl) rfl Tryz.underlying26) rfl <| ?_
      by_cases h3 : r.Things.length = 10
      · refine R.q (q.eql rfl rfl (beq_iff_eq.2 (by omega))) rfl <| R.u 10 rfl <| R.nil ?_
        refine R.condT rfl rfl ?_
        refine R.reg rfl <| R.q §24 rfl <| R.q §79 rfl <| ?_
        refine R.s rfl §43 fun _ => ?_
        refine R.u 1 rfl <| R.nil ?_
        refine R.mp §28 ?_
        refine R.mp §25 ?_
        refine R.mp §29 ?_
        refine R.mp §30 ?_
        have hz : makeR r p kind = (§22, 9) := by (unfold makeR; (repeat' split) <;> first | rfl | (exfalso; omega) | (simp_all; done))
        rw [hz]
        exact R.w2 ((.slice none 0 0), (.slice none 0 0), (.slice none 0 0), (.slice none 0 0)) [3] [3, 2, 1, 0] rfl Tryz.results21 (RV.cell 0 rfl rfl tAgg_30) (RV.tmp rfl) rfl rfl rfl (tup2 rfl (errk (by decide) rfl))
      · refine R.q (q.eql rfl rfl (beq_eq_false_iff_ne.2 (by omega))) rfl <| R.u 1 rfl <| R.qg rfl §107 rfl <| R.qg rfl (q.ld 2 rfl rfl tOne_3 rfl) rfl <| ?_
        by_cases h4 : 999 < r.NextThing
        · refine R.qg rfl §64 rfl <| R.u 6 rfl <| R.nil ?_
          refine R.condT rfl rfl ?_
          refine R.reg rfl <| R.q §24 rfl <| R.q §79 rfl <| ?_
          refine R.s rfl §43 fun _ => ?_
          refine R.u 1 rfl <| R.nil ?_
          refine R.mp §28 ?_
          refine R.mp §25 ?_
          refine R.mp §29 ?_
          refine R.mp §30 ?_
          have hz : makeR r p kind = (§22, 9) := by (unfold makeR; (repeat' split) <;> first | rfl | (exfalso; omega) | (simp_all; done))
          rw [hz]
          exact R.w2 ((.slice none 0 0), (.slice none 0 0), (.slice none 0 0), (.slice none 0 0)) [3] [3, 2, 1, 0] rfl Tryz.results21 (RV.cell 0 rfl rfl tAgg_30) (RV.tmp rfl) rfl rfl rfl (tup2 rfl (errk (by decide) rfl))
        · refine R.qg rfl §63 rfl <| R.u 2 rfl <| R.qg rfl §78 rfl <| R.qg rfl (q.ld 2 rfl rfl tOne_3 rfl) rfl <| ?_
          by_cases h5 : 999 < r.NextWrit
          · refine R.qg rfl §64 rfl <| R.u 1 rfl <| R.nil ?_
            refine R.condT rfl rfl ?_
            refine R.reg rfl <| R.q §24 rfl <| R.q §79 rfl <| ?_
            refine R.s rfl §43 fun _ => ?_
            refine R.u 1 rfl <| R.nil ?_
            refine R.mp §28 ?_
            refine R.mp §25 ?_
            refine R.mp §29 ?_
            refine R.mp §30 ?_
            have hz : makeR r p kind = (§22, 9) := by (unfold makeR; (repeat' split) <;> first | rfl | (exfalso; omega) | (simp_all; done))
            rw [hz]
            exact R.w2 ((.slice none 0 0), (.slice none 0 0), (.slice none 0 0), (.slice none 0 0)) [3] [3, 2, 1, 0] rfl Tryz.results21 (RV.cell 0 rfl rfl tAgg_30) (RV.tmp rfl) rfl rfl rfl (tup2 rfl (errk (by decide) rfl))
          · refine R.qg rfl §63 rfl <| R.u 1 rfl <| R.nil ?_
            refine R.condF rfl rfl ?_
            refine R.reg rfl <| R.q §107 rfl <| R.q (q.ld 2 rfl rfl tOne_3 rfl) rfl <| R.u 1 rfl <| R.nil ?_
            refine R.reg rfl <| R.q §62 rfl <| R.q (q.ld 2 rfl rfl tOne_26 rfl) rfl <| ?_
            refine R.s (B' := (fun bz0_ : Value => [Res.row 74 bz0_ (r.Things : List Thing), Res.box b3 §0 30, Res.box b2 §12 33, Res.box b1 §11 30, Res.held w own])) (F' := §88) rfl §59 fun z1 => ?_
            refine R.u 2 rfl <| R.q (q.build (cs := [.int .i64 r.NextThing, .int .i64 kind, .string (⟨#[]⟩)]) tB_74 rfl rfl) rfl <| ?_
            refine R.s rfl (s.bs (l := ([§38] : List Thing)) tSl_26 tZero_74 rfl rfl rfl rfl rfl rfl rfl) fun b4 => ?_
            refine R.s rfl (s.app (l2 := [§38]) 1 _ rfl rfl rfl (fun _ => Wd.row 0 rfl) tApp_26 §52 §52 (fun _ => rfl) rfl) fun v1 => ?_
            refine R.q §62 rfl <| ?_
            refine R.s rfl (s.stV (us := [v1]) (cs' := [v_rW, v1, v_rH, v_rN, .int .i64 r.NextWrit, .int .i64 r.NextThing]) 4 _ rfl rfl rfl (fun w hw => Sl.cells1 §75) (.inr ⟨tOne_26, rfl⟩) (fun w hw => (one_cons (Sl.one §75) one_nil)) rfl rfl rfl) fun _ => ?_
            refine R.nil ?_
            refine R.reg rfl <| R.q §107 rfl <| R.q (q.ld 4 rfl rfl tOne_3 rfl) rfl <| R.q (q.add (r := r.NextThing + 1) rfl rfl (wr (by omega))) rfl <| R.q §107 rfl <| ?_
            refine R.s rfl (s.st (us := [.int .i64 (r.NextThing + 1)]) (cs' := [v_rW, v1, v_rH, v_rN, .int .i64 r.NextWrit, .int .i64 (r.NextThing + 1)]) 4 _ rfl rfl rfl rfl (.inr ⟨tOne_3, rfl⟩) rfl rfl rfl rfl) fun _ => ?_
            refine R.nil ?_
            refine R.reg rfl <| R.q (q.ldS 4 rfl rfl tAgg_30) rfl <| R.q §78 rfl <| R.q (q.ld 4 rfl rfl tOne_3 rfl) rfl <| R.u 1 rfl <| R.q (q.build (cs := [.int .i64 r.NextWrit, .int .i64 r.NextThing, .int .i64 7, .int .i64 0, .int .i64 0]) tB_39 rfl rfl) rfl <| R.q (q.ldS 3 rfl rfl tAgg_33) rfl <| ?_
            refine R.s (B' := (fun g_ : Value × Value × Value × Value => §54)) (F' := (fun g_ : Value × Value × Value × Value => [Res.ls g_.1 ((§2).Writs : List Writ), Res.ls g_.2.1 ((§2).Things : List Thing), Res.ls g_.2.2.1 ((§2).Held : List Held), Res.ls g_.2.2.2 ((§2).Notes : List Note), Res.ls v1 ((r.Things ++ ([§38])) : List Thing), Res.ls v_rW (r.Writs : List Writ), Res.ls v_rT (r.Things : List Thing), Res.ls v_rH (r.Held : List Held), Res.ls v_rN (r.Notes : List Note)])) rfl (s.pre (B2 := §54) (F2 := [Res.ls v1 ((r.Things ++ ([§38])) : List Thing), Res.ls v_rW (r.Writs : List Writ), Res.ls v_rT (r.Things : List Thing), Res.ls v_rH (r.Held : List Held), Res.ls v_rN (r.Notes : List Note)]) (fun _ hw => hw.lendL 1 _ rfl rfl) (s.callV (B0 := []) (Br := §54) (F0 := [Res.ls v_rW (r.Writs : List Writ), Res.ls v1 ((r.Things ++ ([§38])) : List Thing), Res.ls v_rH (r.Held : List Held), Res.ls v_rN (r.Notes : List Note)]) [0, 1, 2, 3, 4] [1, 0, 3, 4] (fun g_ : Value × Value × Value × Value => .agg #[g_.1, g_.2.1, g_.2.2.1, g_.2.2.2, .int .i64 ((§2).NextWrit), .int .i64 ((§2).NextThing)]) §84 (fun g_ : Value × Value × Value × Value => [Res.ls g_.1 ((§2).Writs : List Writ), Res.ls g_.2.1 ((§2).Things : List Thing), Res.ls g_.2.2.1 ((§2).Held : List Held), Res.ls g_.2.2.2 ((§2).Notes : List Note)]) rfl rfl rfl eg_61 rfl rfl (fun w own hw H => addR_any v_rW v1 v_rH v_rN ((⟨r.Writs, (r.Things ++ ([§38])), r.Held, r.Notes, r.NextWrit, (r.NextThing + 1)⟩ : Realm)) ((⟨r.NextWrit, r.NextThing, 7, 0, 0⟩ : Writ)) (p) w own H (by first | omega | (dsimp only; omega))) rfl)) ?_
            rintro ⟨z2, z3, z4, z5⟩
            dsimp only
            refine R.s rfl (s.stV (us := [z2, z3, z4, z5, .int .i64 (§2.NextWrit), .int .i64 (§2.NextThing)]) (cs' := [z2, z3, z4, z5, .int .i64 (§2.NextWrit), .int .i64 (§2.NextThing)]) 1 _ rfl rfl rfl (fun _ _ => rfl) (.inl tAgg_30) §16 rfl rfl rfl) fun _ => ?_
            refine R.u 1 rfl <| R.nil ?_
            have hz : makeR r p kind = (§2, 0) := by (unfold makeR; (repeat' split) <;> first | rfl | (exfalso; omega) | (simp_all; done))
            rw [hz]
            exact R.w2 (z2, z3, z4, z5) [4] [0, 1, 2, 3] rfl Tryz.results21 (RV.cell 1 rfl rfl tAgg_30) (RV.tmp rfl) rfl rfl rfl (tup2 rfl (err0 rfl))
    · refine R.q §41 rfl <| R.nil ?_
      refine R.condT rfl rfl ?_
      refine R.reg rfl <| R.q §24 rfl <| R.u 1 rfl <| ?_
      refine R.s rfl §43 fun _ => ?_
      refine R.u 1 rfl <| R.nil ?_
      refine R.mp §28 ?_
      refine R.mp §25 ?_
      refine R.mp §29 ?_
      refine R.mp §30 ?_
      have hz : makeR r p kind = (§22, freeR r p) := by (unfold makeR; (repeat' split) <;> first | rfl | (exfalso; omega) | (simp_all; done))
      rw [hz]
      exact R.w2 ((.slice none 0 0), (.slice none 0 0), (.slice none 0 0), (.slice none 0 0)) [3] [3, 2, 1, 0] rfl Tryz.results21 (RV.cell 0 rfl rfl tAgg_30) (RV.tmp rfl) rfl rfl rfl (tup2 rfl rfl)
  · refine R.q (q.neq rfl rfl (bne_iff_ne.2 (by omega))) rfl <| R.u 2 rfl <| ?_
    by_cases h6 : kind = 2
    · refine R.qg rfl (q.neq rfl rfl (bne_eq_false_iff_eq.2 (by omega))) rfl <| R.u 1 rfl <| R.nil ?_
      refine R.condF rfl rfl ?_
      refine R.reg rfl <| R.q (q.ldS 2 rfl rfl tAgg_30) rfl <| R.q (q.ldS 1 rfl rfl tAgg_33) rfl <| R.c (q.call eg_60 rfl rfl (fun w hw => (freeR_any _ _ _ _ (r) (p) w §68 §83 §74 (§105 w hw) §32))) rfl <| R.u 1 rfl <| R.nil ?_
      refine R.reg rfl <| R.u 1 rfl <| ?_
      by_cases h7 : freeR r p = 0
      · refine R.q §40 rfl <| R.nil ?_
        refine R.condF rfl rfl ?_
        refine R.reg rfl <| R.q §62 rfl <| R.q (q.ld 2 rfl rfl tOne_26 rfl) rfl <| R.q (q.len' (fun _ => Wd.fls 1 rfl) rfl Tryz.underlying26) rfl <| ?_
        by_cases h8 : r.Things.length = 10
        · refine R.q (q.eql rfl rfl (beq_iff_eq.2 (by omega))) rfl <| R.u 10 rfl <| R.nil ?_
          refine R.condT rfl rfl ?_
          refine R.reg rfl <| R.q §24 rfl <| R.q §79 rfl <| ?_
          refine R.s rfl §43 fun _ => ?_
          refine R.u 1 rfl <| R.nil ?_
          refine R.mp §28 ?_
          refine R.mp §25 ?_
          refine R.mp §29 ?_
          refine R.mp §30 ?_
          have hz : makeR r p kind = (§22, 9) := by (unfold makeR; (repeat' split) <;> first | rfl | (exfalso; omega) | (simp_all; done))
          rw [hz]
          exact R.w2 ((.slice none 0 0), (.slice none 0 0), (.slice none 0 0), (.slice none 0 0)) [3] [3, 2, 1, 0] rfl Tryz.results21 (RV.cell 0 rfl rfl tAgg_30) (RV.tmp rfl) rfl rfl rfl (tup2 rfl (errk (by decide) rfl))
        · refine R.q (q.eql rfl rfl (beq_eq_false_iff_ne.2 (by omega))) rfl <| R.u 1 rfl <| R.qg rfl §107 rfl <| R.qg rfl (q.ld 2 rfl rfl tOne_3 rfl) rfl <| ?_
          by_cases h9 : 999 < r.NextThing
          · refine R.qg rfl §64 rfl <| R.u 6 rfl <| R.nil ?_
            refine R.condT rfl rfl ?_
            refine R.reg rfl <| R.q §24 rfl <| R.q §79 rfl <| ?_
            refine R.s rfl §43 fun _ => ?_
            refine R.u 1 rfl <| R.nil ?_
            refine R.mp §28 ?_
            refine R.mp §25 ?_
            refine R.mp §29 ?_
            refine R.mp §30 ?_
            have hz : makeR r p kind = (§22, 9) := by (unfold makeR; (repeat' split) <;> first | rfl | (exfalso; omega) | (simp_all; done))
            rw [hz]
            exact R.w2 ((.slice none 0 0), (.slice none 0 0), (.slice none 0 0), (.slice none 0 0)) [3] [3, 2, 1, 0] rfl Tryz.results21 (RV.cell 0 rfl rfl tAgg_30) (RV.tmp rfl) rfl rfl rfl (tup2 rfl (errk (by decide) rfl))
          · refine R.qg rfl §63 rfl <| R.u 2 rfl <| R.qg rfl §78 rfl <| R.qg rfl (q.ld 2 rfl rfl tOne_3 rfl) rfl <| ?_
            by_cases h10 : 999 < r.NextWrit
            · refine R.qg rfl §64 rfl <| R.u 1 rfl <| R.nil ?_
              refine R.condT rfl rfl ?_
              refine R.reg rfl <| R.q §24 rfl <| R.q §79 rfl <| ?_
              refine R.s rfl §43 fun _ => ?_
              refine R.u 1 rfl <| R.nil ?_
              refine R.mp §28 ?_
              refine R.mp §25 ?_
              refine R.mp §29 ?_
              refine R.mp §30 ?_
              have hz : makeR r p kind = (§22, 9) := by (unfold makeR; (repeat' split) <;> first | rfl | (exfalso; omega) | (simp_all; done))
              rw [hz]
              exact R.w2 ((.slice none 0 0), (.slice none 0 0), (.slice none 0 0), (.slice none 0 0)) [3] [3, 2, 1, 0] rfl Tryz.results21 (RV.cell 0 rfl rfl tAgg_30) (RV.tmp rfl) rfl rfl rfl (tup2 rfl (errk (by decide) rfl))
            · refine R.qg rfl §63 rfl <| R.u 1 rfl <| R.nil ?_
              refine R.condF rfl rfl ?_
              refine R.reg rfl <| R.q §107 rfl <| R.q (q.ld 2 rfl rfl tOne_3 rfl) rfl <| R.u 1 rfl <| R.nil ?_
              refine R.reg rfl <| R.q §62 rfl <| R.q (q.ld 2 rfl rfl tOne_26 rfl) rfl <| ?_
              refine R.s (B' := (fun bz0_ : Value => [Res.row 74 bz0_ (r.Things : List Thing), Res.box b3 §0 30, Res.box b2 §12 33, Res.box b1 §11 30, Res.held w own])) (F' := §88) rfl §59 fun z6 => ?_
              refine R.u 2 rfl <| R.q (q.build (cs := [.int .i64 r.NextThing, .int .i64 kind, .string (⟨#[]⟩)]) tB_74 rfl rfl) rfl <| ?_
              refine R.s rfl (s.bs (l := ([§38] : List Thing)) tSl_26 tZero_74 rfl rfl rfl rfl rfl rfl rfl) fun b5 => ?_
              refine R.s rfl (s.app (l2 := [§38]) 1 _ rfl rfl rfl (fun _ => Wd.row 0 rfl) tApp_26 §52 §52 (fun _ => rfl) rfl) fun v2 => ?_
              refine R.q §62 rfl <| ?_
              refine R.s rfl (s.stV (us := [v2]) (cs' := [v_rW, v2, v_rH, v_rN, .int .i64 r.NextWrit, .int .i64 r.NextThing]) 4 _ rfl rfl rfl (fun w hw => Sl.cells1 §75) (.inr ⟨tOne_26, rfl⟩) (fun w hw => (one_cons (Sl.one §75) one_nil)) rfl rfl rfl) fun _ => ?_
              refine R.nil ?_
              refine R.reg rfl <| R.q §107 rfl <| R.q (q.ld 4 rfl rfl tOne_3 rfl) rfl <| R.q (q.add (r := r.NextThing + 1) rfl rfl (wr (by omega))) rfl <| R.q §107 rfl <| ?_
              refine R.s rfl (s.st (us := [.int .i64 (r.NextThing + 1)]) (cs' := [v_rW, v2, v_rH, v_rN, .int .i64 r.NextWrit, .int .i64 (r.NextThing + 1)]) 4 _ rfl rfl rfl rfl (.inr ⟨tOne_3, rfl⟩) rfl rfl rfl rfl) fun _ => ?_
              refine R.nil ?_
              refine R.reg rfl <| R.q (q.ldS 4 rfl rfl tAgg_30) rfl <| R.q §78 rfl <| R.q (q.ld 4 rfl rfl tOne_3 rfl) rfl <| R.u 1 rfl <| R.q (q.build (cs := [.int .i64 r.NextWrit, .int .i64 r.NextThing, .int .i64 7, .int .i64 0, .int .i64 0]) tB_39 rfl rfl) rfl <| R.q (q.ldS 3 rfl rfl tAgg_33) rfl <| ?_
              refine R.s (B' := (fun g_ : Value × Value × Value × Value => §55)) (F' := (fun g_ : Value × Value × Value × Value => [Res.ls g_.1 ((§2).Writs : List Writ), Res.ls g_.2.1 ((§2).Things : List Thing), Res.ls g_.2.2.1 ((§2).Held : List Held), Res.ls g_.2.2.2 ((§2).Notes : List Note), Res.ls v2 ((r.Things ++ ([§38])) : List Thing), Res.ls v_rW (r.Writs : List Writ), Res.ls v_rT (r.Things : List Thing), Res.ls v_rH (r.Held : List Held), Res.ls v_rN (r.Notes : List Note)])) rfl (s.pre (B2 := §55) (F2 := [Res.ls v2 ((r.Things ++ ([§38])) : List Thing), Res.ls v_rW (r.Writs : List Writ), Res.ls v_rT (r.Things : List Thing), Res.ls v_rH (r.Held : List Held), Res.ls v_rN (r.Notes : List Note)]) (fun _ hw => hw.lendL 1 _ rfl rfl) (s.callV (B0 := []) (Br := §55) (F0 := [Res.ls v_rW (r.Writs : List Writ), Res.ls v2 ((r.Things ++ ([§38])) : List Thing), Res.ls v_rH (r.Held : List Held), Res.ls v_rN (r.Notes : List Note)]) [0, 1, 2, 3, 4] [1, 0, 3, 4] (fun g_ : Value × Value × Value × Value => .agg #[g_.1, g_.2.1, g_.2.2.1, g_.2.2.2, .int .i64 ((§2).NextWrit), .int .i64 ((§2).NextThing)]) §84 (fun g_ : Value × Value × Value × Value => [Res.ls g_.1 ((§2).Writs : List Writ), Res.ls g_.2.1 ((§2).Things : List Thing), Res.ls g_.2.2.1 ((§2).Held : List Held), Res.ls g_.2.2.2 ((§2).Notes : List Note)]) rfl rfl rfl eg_61 rfl rfl (fun w own hw H => addR_any v_rW v2 v_rH v_rN ((⟨r.Writs, (r.Things ++ ([§38])), r.Held, r.Notes, r.NextWrit, (r.NextThing + 1)⟩ : Realm)) ((⟨r.NextWrit, r.NextThing, 7, 0, 0⟩ : Writ)) (p) w own H (by first | omega | (dsimp only; omega))) rfl)) ?_
              rintro ⟨z7, z8, z9, z10⟩
              dsimp only
              refine R.s rfl (s.stV (us := [z7, z8, z9, z10, .int .i64 (§2.NextWrit), .int .i64 (§2.NextThing)]) (cs' := [z7, z8, z9, z10, .int .i64 (§2.NextWrit), .int .i64 (§2.NextThing)]) 1 _ rfl rfl rfl (fun _ _ => rfl) (.inl tAgg_30) §16 rfl rfl rfl) fun _ => ?_
              refine R.u 1 rfl <| R.nil ?_
              have hz : makeR r p kind = (§2, 0) := by (unfold makeR; (repeat' split) <;> first | rfl | (exfalso; omega) | (simp_all; done))
              rw [hz]
              exact R.w2 (z7, z8, z9, z10) [4] [0, 1, 2, 3] rfl Tryz.results21 (RV.cell 1 rfl rfl tAgg_30) (RV.tmp rfl) rfl rfl rfl (tup2 rfl (err0 rfl))
      · refine R.q §41 rfl <| R.nil ?_
        refine R.condT rfl rfl ?_
        refine R.reg rfl <| R.q §24 rfl <| R.u 1 rfl <| ?_
        refine R.s rfl §43 fun _ => ?_
        refine R.u 1 rfl <| R.nil ?_
        refine R.mp §28 ?_
        refine R.mp §25 ?_
        refine R.mp §29 ?_
        refine R.mp §30 ?_
        have hz : makeR r p kind = (§22, freeR r p) := by (unfold makeR; (repeat' split) <;> first | rfl | (exfalso; omega) | (simp_all; done))
        rw [hz]
        exact R.w2 ((.slice none 0 0), (.slice none 0 0), (.slice none 0 0), (.slice none 0 0)) [3] [3, 2, 1, 0] rfl Tryz.results21 (RV.cell 0 rfl rfl tAgg_30) (RV.tmp rfl) rfl rfl rfl (tup2 rfl rfl)
    · refine R.qg rfl (q.neq rfl rfl (bne_iff_ne.2 (by omega))) rfl <| R.u 1 rfl <| R.nil ?_
      refine R.condT rfl rfl ?_
      refine R.reg rfl <| R.q §24 rfl <| R.q §79 rfl <| ?_
      refine R.s rfl §43 fun _ => ?_
      refine R.u 1 rfl <| R.nil ?_
      refine R.mp §28 ?_
      refine R.mp §25 ?_
      refine R.mp §29 ?_
      refine R.mp §30 ?_
      have hz : makeR r p kind = (§22, 8) := by (unfold makeR; (repeat' split) <;> first | rfl | (exfalso; omega) | (simp_all; done))
      rw [hz]
      exact R.w2 ((.slice none 0 0), (.slice none 0 0), (.slice none 0 0), (.slice none 0 0)) [3] [3, 2, 1, 0] rfl Tryz.results21 (RV.cell 0 rfl rfl tAgg_30) (RV.tmp rfl) rfl rfl rfl (tup2 rfl (errk (by decide) rfl))

theorem giveR_any (v_rW v_rT v_rH v_rN : Value) (r : Realm) (p : Place) (t : Place) (rights : Int) (badge : Int) (w : World) (own : List Nat) (H : Wd w (blks [] ++ own) ([] ++ §92) §6 w) (hk : Ok r) : Calls Tryz.prog 47 #[.agg #[v_rW, v_rT, v_rH, v_rN, .int .i64 r.NextWrit, .int .i64 r.NextThing], .agg #[.int .i64 p.Holder, .int .i64 p.Slot], .agg #[.int .i64 t.Holder, .int .i64 t.Slot], .int .i64 rights, .int .i64 badge] w fun e w' => ∃ z : Value × Value × Value × Value, e = .returned (.tuple #[.agg #[z.1, z.2.1, z.2.2.1, z.2.2.2, .int .i64 ((((giveR r p t rights badge)).1).NextWrit), .int .i64 ((((giveR r p t rights badge)).1).NextThing)], errv (((giveR r p t rights badge)).2)]) ∧ Wd w (blks [] ++ own) ([] ++ §92) [Res.ls z.1 ((((giveR r p t rights badge)).1).Writs : List Writ), Res.ls z.2.1 ((((giveR r p t rights badge)).1).Things : List Thing), Res.ls z.2.2.1 ((((giveR r p t rights badge)).1).Held : List Held), Res.ls z.2.2.2 ((((giveR r p t rights badge)).1).Notes : List Note)] w' := by
  have m_r_Writs := H.lenF 0 rfl
  have m_r_Things := H.lenF 1 rfl
  have m_r_Held := H.lenF 2 rfl
  have m_r_Notes := H.lenF 3 rfl
  have bw := hk.wl; have bt := hk.tl; have bh := hk.hl; have bn := hk.nl; have bw0 := hk.w0; have bw1 := hk.w1; have bt0 := hk.t0; have bt1 := hk.t1
  refine R.enterN (n := 67) (vs := [.agg #[v_rW, v_rT, v_rH, v_rN, .int .i64 r.NextWrit, .int .i64 r.NextThing], .agg #[.int .i64 p.Holder, .int .i64 p.Slot], .agg #[.int .i64 t.Holder, .int .i64 t.Slot], .int .i64 rights, .int .i64 badge]) (B := §92) [(0, .agg #[v_rW, v_rT, v_rH, v_rN, .int .i64 r.NextWrit, .int .i64 r.NextThing]), (1, .agg #[.int .i64 p.Holder, .int .i64 p.Slot]), (2, .agg #[.int .i64 t.Holder, .int .i64 t.Slot]), (3, .int .i64 rights), (4, .int .i64 badge)] Tryz.func47 rfl rfl rfl rfl H ?_
  refine R.reg rfl <| ?_
  refine R.s rfl §102 fun b1 => ?_
  refine R.s rfl §103 fun b2 => ?_
  refine R.s rfl (s.box (cs := [.int .i64 t.Holder, .int .i64 t.Slot]) rfl rfl rfl) fun b3 => ?_
  refine R.s rfl §106 fun b4 => ?_
  refine R.u 1 rfl <| R.nil ?_
  refine R.reg rfl <| R.q (q.ldS 3 rfl rfl tAgg_30) rfl <| R.q (q.ldS 2 rfl rfl tAgg_33) rfl <| R.c §46 rfl <| R.u 3 rfl <| ?_
  refine R.s rfl §51 fun b5 => ?_
  refine R.s rfl §72 fun _ => ?_
  refine R.u 1 rfl <| R.nil ?_
  refine R.reg rfl <| R.u 1 rfl <| ?_
  by_cases h1 : (getR r p).2 = 0
  · have gh1 := hk.get h1
    refine R.q §40 rfl <| R.nil ?_
    refine R.condF rfl rfl ?_
    refine R.reg rfl <| R.q (q.ldS 4 rfl rfl tAgg_30) rfl <| R.q (q.ldS 2 rfl rfl tAgg_33) rfl <| R.c (q.call eg_60 rfl rfl (fun w hw => (freeR_any _ _ _ _ (r) (t) w §68 §83 §74 (§105 w hw) §32))) rfl <| R.u 1 rfl <| R.nil ?_
    refine R.reg rfl <| R.u 1 rfl <| ?_
    by_cases h2 : freeR r t = 0
    · refine R.q §40 rfl <| R.nil ?_
      refine R.condF rfl rfl ?_
      refine R.reg rfl <| R.q (q.fld (off' := 0) rfl tFld_33_0 rfl) rfl <| R.q (q.ld 3 rfl rfl tOne_3 rfl) rfl <| R.q (q.fld (off' := 0) rfl tFld_33_0 rfl) rfl <| R.q (q.ld 2 rfl rfl tOne_3 rfl) rfl <| ?_
      by_cases h3 : p.Holder = t.Holder
      · refine R.q (q.neq rfl rfl (bne_eq_false_iff_eq.2 (by omega))) rfl <| R.u 6 rfl <| R.nil ?_
        refine R.condF rfl rfl ?_
        refine R.reg rfl <| R.q §78 rfl <| R.q (q.ld 4 rfl rfl tOne_3 rfl) rfl <| ?_
        by_cases h4 : 999 < r.NextWrit
        · refine R.q §64 rfl <| R.nil ?_
          refine R.condT rfl rfl ?_
          refine R.reg rfl <| R.q §24 rfl <| R.q §79 rfl <| ?_
          refine R.s rfl §26 fun _ => ?_
          refine R.u 1 rfl <| R.nil ?_
          refine R.mp §28 ?_
          refine R.mp §25 ?_
          refine R.mp §29 ?_
          refine R.mp §30 ?_
          have hz : giveR r p t rights badge = (§22, 9) := by (unfold giveR; (repeat' split) <;> first | rfl | (exfalso; omega) | (simp_all; done))
          rw [hz]
          exact R.w2 ((.slice none 0 0), (.slice none 0 0), (.slice none 0 0), (.slice none 0 0)) [5] [3, 2, 1, 0] rfl Tryz.results47 (RV.cell 1 rfl rfl tAgg_30) (RV.tmp rfl) rfl rfl rfl (tup2 rfl (errk (by decide) rfl))
        · refine R.q §63 rfl <| R.nil ?_
          refine R.condF rfl rfl ?_
          refine R.reg rfl <| R.q (q.ldS 0 rfl rfl tAgg_39) rfl <| R.q §78 rfl <| R.q (q.ld 4 rfl rfl tOne_3 rfl) rfl <| R.u 2 rfl <| R.c (q.call eg_82 rfl rfl (fun w hw => (derive_any (§67) (r.NextWrit) (rights) (badge) w  (by omega)))) rfl <| R.u 3 rfl <| ?_
          refine R.s rfl §51 fun b6 => ?_
          refine R.s rfl (s.st (us := §34) (cs' := §34) 0 _ rfl rfl rfl rfl (.inl tAgg_39) rfl rfl rfl rfl) fun _ => ?_
          refine R.u 1 rfl <| R.nil ?_
          refine R.reg rfl <| R.u 1 rfl <| ?_
          by_cases h5 : (derived §67 r.NextWrit rights badge).2 = 0
          · refine R.q §40 rfl <| R.nil ?_
            refine R.condF rfl rfl ?_
            refine R.reg rfl <| R.q (q.ldS 5 rfl rfl tAgg_30) rfl <| R.q (q.ldS 0 rfl rfl tAgg_39) rfl <| R.q (q.ldS 3 rfl rfl tAgg_33) rfl <| ?_
            refine R.s (B' := (fun g_ : Value × Value × Value × Value => [Res.box b6 §34 39, Res.box b5 §3 39, Res.box b4 §0 30, Res.box b3 [.int .i64 t.Holder, .int .i64 t.Slot] 33, Res.box b2 §12 33, Res.box b1 §11 30, Res.held w own])) (F' := §57) rfl (s.callV (B0 := []) (Br := [Res.box b6 §34 39, Res.box b5 §3 39, Res.box b4 §0 30, Res.box b3 [.int .i64 t.Holder, .int .i64 t.Slot] 33, Res.box b2 §12 33, Res.box b1 §11 30, Res.held w own]) (F0 := §6) [0, 1, 2, 3, 4, 5, 6] [0, 1, 2, 3] (fun g_ : Value × Value × Value × Value => .agg #[g_.1, g_.2.1, g_.2.2.1, g_.2.2.2, .int .i64 (((addR r §8 t)).NextWrit), .int .i64 (((addR r §8 t)).NextThing)]) §84 §93 rfl rfl rfl eg_61 rfl rfl (fun w own hw H => addR_any v_rW v_rT v_rH v_rN (r) (§8) (t) w own H (by first | omega | (dsimp only; omega))) rfl) ?_
            rintro ⟨z1, z2, z3, z4⟩
            dsimp only
            refine R.s rfl (s.stV (us := [z1, z2, z3, z4, .int .i64 ((addR r §8 t).NextWrit), .int .i64 ((addR r §8 t).NextThing)]) (cs' := [z1, z2, z3, z4, .int .i64 ((addR r §8 t).NextWrit), .int .i64 ((addR r §8 t).NextThing)]) 2 _ rfl rfl rfl (fun _ _ => rfl) (.inl tAgg_30) §16 rfl rfl rfl) fun _ => ?_
            refine R.u 1 rfl <| R.nil ?_
            have hz : giveR r p t rights badge = ((addR r §8 t), 0) := by (unfold giveR; (repeat' split) <;> first | rfl | (exfalso; omega) | (simp_all; done))
            rw [hz]
            exact R.w2 (z1, z2, z3, z4) [6] [0, 1, 2, 3] rfl Tryz.results47 (RV.cell 2 rfl rfl tAgg_30) (RV.tmp rfl) rfl rfl rfl (tup2 rfl (err0 rfl))
          · refine R.q §41 rfl <| R.nil ?_
            refine R.condT rfl rfl ?_
            refine R.reg rfl <| R.q §24 rfl <| R.u 1 rfl <| ?_
            refine R.s rfl §58 fun _ => ?_
            refine R.u 1 rfl <| R.nil ?_
            refine R.mp §28 ?_
            refine R.mp §25 ?_
            refine R.mp §29 ?_
            refine R.mp §30 ?_
            have hz : giveR r p t rights badge = (§22, (derived §67 r.NextWrit rights badge).2) := by (unfold giveR; (repeat' split) <;> first | rfl | (exfalso; omega) | (simp_all; done))
            rw [hz]
            exact R.w2 ((.slice none 0 0), (.slice none 0 0), (.slice none 0 0), (.slice none 0 0)) [6] [3, 2, 1, 0] rfl Tryz.results47 (RV.cell 2 rfl rfl tAgg_30) (RV.tmp rfl) rfl rfl rfl (tup2 rfl rfl)
      · refine R.q (q.neq rfl rfl (bne_iff_ne.2 (by omega))) rfl <| R.u 1 rfl <| R.qg rfl (q.fld (off' := 2) rfl tFld_39_2 rfl) rfl <| R.qg rfl (q.ld 0 rfl rfl tOne_3 rfl) rfl <| ?_
        rcases Bool.eq_false_or_eq_true (hasR (§67.Rights) 4) with h6 | h6
        · refine R.cg rfl (q.call eg_67 rfl rfl (fun w hw => (cv (congrArg Value.bool h6) (rightHas_any (§67.Rights) (4) w  (by omega) (by omega))))) rfl <| R.u 2 rfl <| R.nil ?_
          refine R.condF rfl rfl ?_
          refine R.reg rfl <| R.q §78 rfl <| R.q (q.ld 4 rfl rfl tOne_3 rfl) rfl <| ?_
          by_cases h7 : 999 < r.NextWrit
          · refine R.q §64 rfl <| R.nil ?_
            refine R.condT rfl rfl ?_
            refine R.reg rfl <| R.q §24 rfl <| R.q §79 rfl <| ?_
            refine R.s rfl §26 fun _ => ?_
            refine R.u 1 rfl <| R.nil ?_
            refine R.mp §28 ?_
            refine R.mp §25 ?_
            refine R.mp §29 ?_
            refine R.mp §30 ?_
            have hz : giveR r p t rights badge = (§22, 9) := by (unfold giveR; (repeat' split) <;> first | rfl | (exfalso; omega) | (simp_all; done))
            rw [hz]
            exact R.w2 ((.slice none 0 0), (.slice none 0 0), (.slice none 0 0), (.slice none 0 0)) [5] [3, 2, 1, 0] rfl Tryz.results47 (RV.cell 1 rfl rfl tAgg_30) (RV.tmp rfl) rfl rfl rfl (tup2 rfl (errk (by decide) rfl))
          · refine R.q §63 rfl <| R.nil ?_
            refine R.condF rfl rfl ?_
            refine R.reg rfl <| R.q (q.ldS 0 rfl rfl tAgg_39) rfl <| R.q §78 rfl <| R.q (q.ld 4 rfl rfl tOne_3 rfl) rfl <| R.u 2 rfl <| R.c (q.call eg_82 rfl rfl (fun w hw => (derive_any (§67) (r.NextWrit) (rights) (badge) w  (by omega)))) rfl <| R.u 3 rfl <| ?_
            refine R.s rfl §51 fun b7 => ?_
            refine R.s rfl (s.st (us := §34) (cs' := §34) 0 _ rfl rfl rfl rfl (.inl tAgg_39) rfl rfl rfl rfl) fun _ => ?_
            refine R.u 1 rfl <| R.nil ?_
            refine R.reg rfl <| R.u 1 rfl <| ?_
            by_cases h8 : (derived §67 r.NextWrit rights badge).2 = 0
            · refine R.q §40 rfl <| R.nil ?_
              refine R.condF rfl rfl ?_
              refine R.reg rfl <| R.q (q.ldS 5 rfl rfl tAgg_30) rfl <| R.q (q.ldS 0 rfl rfl tAgg_39) rfl <| R.q (q.ldS 3 rfl rfl tAgg_33) rfl <| ?_
              refine R.s (B' := (fun g_ : Value × Value × Value × Value => [Res.box b7 §34 39, Res.box b5 §3 39, Res.box b4 §0 30, Res.box b3 [.int .i64 t.Holder, .int .i64 t.Slot] 33, Res.box b2 §12 33, Res.box b1 §11 30, Res.held w own])) (F' := §57) rfl (s.callV (B0 := []) (Br := [Res.box b7 §34 39, Res.box b5 §3 39, Res.box b4 §0 30, Res.box b3 [.int .i64 t.Holder, .int .i64 t.Slot] 33, Res.box b2 §12 33, Res.box b1 §11 30, Res.held w own]) (F0 := §6) [0, 1, 2, 3, 4, 5, 6] [0, 1, 2, 3] (fun g_ : Value × Value × Value × Value => .agg #[g_.1, g_.2.1, g_.2.2.1, g_.2.2.2, .int .i64 (((addR r §8 t)).NextWrit), .int .i64 (((addR r §8 t)).NextThing)]) §84 §93 rfl rfl rfl eg_61 rfl rfl (fun w own hw H => addR_any v_rW v_rT v_rH v_rN (r) (§8) (t) w own H (by first | omega | (dsimp only; omega))) rfl) ?_
              rintro ⟨z5, z6, z7, z8⟩
              dsimp only
              refine R.s rfl (s.stV (us := [z5, z6, z7, z8, .int .i64 ((addR r §8 t).NextWrit), .int .i64 ((addR r §8 t).NextThing)]) (cs' := [z5, z6, z7, z8, .int .i64 ((addR r §8 t).NextWrit), .int .i64 ((addR r §8 t).NextThing)]) 2 _ rfl rfl rfl (fun _ _ => rfl) (.inl tAgg_30) §16 rfl rfl rfl) fun _ => ?_
              refine R.u 1 rfl <| R.nil ?_
              have hz : giveR r p t rights badge = ((addR r §8 t), 0) := by (unfold giveR; (repeat' split) <;> first | rfl | (exfalso; omega) | (simp_all; done))
              rw [hz]
              exact R.w2 (z5, z6, z7, z8) [6] [0, 1, 2, 3] rfl Tryz.results47 (RV.cell 2 rfl rfl tAgg_30) (RV.tmp rfl) rfl rfl rfl (tup2 rfl (err0 rfl))
            · refine R.q §41 rfl <| R.nil ?_
              refine R.condT rfl rfl ?_
              refine R.reg rfl <| R.q §24 rfl <| R.u 1 rfl <| ?_
              refine R.s rfl §58 fun _ => ?_
              refine R.u 1 rfl <| R.nil ?_
              refine R.mp §28 ?_
              refine R.mp §25 ?_
              refine R.mp §29 ?_
              refine R.mp §30 ?_
              have hz : giveR r p t rights badge = (§22, (derived §67 r.NextWrit rights badge).2) := by (unfold giveR; (repeat' split) <;> first | rfl | (exfalso; omega) | (simp_all; done))
              rw [hz]
              exact R.w2 ((.slice none 0 0), (.slice none 0 0), (.slice none 0 0), (.slice none 0 0)) [6] [3, 2, 1, 0] rfl Tryz.results47 (RV.cell 2 rfl rfl tAgg_30) (RV.tmp rfl) rfl rfl rfl (tup2 rfl rfl)
        · refine R.cg rfl (q.call eg_67 rfl rfl (fun w hw => (cv (congrArg Value.bool h6) (rightHas_any (§67.Rights) (4) w  (by omega) (by omega))))) rfl <| R.u 2 rfl <| R.nil ?_
          refine R.condT rfl rfl ?_
          refine R.reg rfl <| R.q §24 rfl <| R.q §79 rfl <| ?_
          refine R.s rfl §26 fun _ => ?_
          refine R.u 1 rfl <| R.nil ?_
          refine R.mp §28 ?_
          refine R.mp §25 ?_
          refine R.mp §29 ?_
          refine R.mp §30 ?_
          have hz : giveR r p t rights badge = (§22, 7) := by (unfold giveR; (repeat' split) <;> first | rfl | (exfalso; omega) | (simp_all; done))
          rw [hz]
          exact R.w2 ((.slice none 0 0), (.slice none 0 0), (.slice none 0 0), (.slice none 0 0)) [5] [3, 2, 1, 0] rfl Tryz.results47 (RV.cell 1 rfl rfl tAgg_30) (RV.tmp rfl) rfl rfl rfl (tup2 rfl (errk (by decide) rfl))
    · refine R.q §41 rfl <| R.nil ?_
      refine R.condT rfl rfl ?_
      refine R.reg rfl <| R.q §24 rfl <| R.u 1 rfl <| ?_
      refine R.s rfl §26 fun _ => ?_
      refine R.u 1 rfl <| R.nil ?_
      refine R.mp §28 ?_
      refine R.mp §25 ?_
      refine R.mp §29 ?_
      refine R.mp §30 ?_
      have hz : giveR r p t rights badge = (§22, freeR r t) := by (unfold giveR; (repeat' split) <;> first | rfl | (exfalso; omega) | (simp_all; done))
      rw [hz]
      exact R.w2 ((.slice none 0 0), (.slice none 0 0), (.slice none 0 0), (.slice none 0 0)) [5] [3, 2, 1, 0] rfl Tryz.results47 (RV.cell 1 rfl rfl tAgg_30) (RV.tmp rfl) rfl rfl rfl (tup2 rfl rfl)
  · refine R.q §41 rfl <| R.nil ?_
    refine R.condT rfl rfl ?_
    refine R.reg rfl <| R.q §24 rfl <| R.u 1 rfl <| ?_
    refine R.s rfl §26 fun _ => ?_
    refine R.u 1 rfl <| R.nil ?_
    refine R.mp §28 ?_
    refine R.mp §25 ?_
    refine R.mp §29 ?_
    refine R.mp §30 ?_
    have hz : giveR r p t rights badge = (§22, (getR r p).2) := by (unfold giveR; (repeat' split) <;> first | rfl | (exfalso; omega) | (simp_all; done))
    rw [hz]
    exact R.w2 ((.slice none 0 0), (.slice none 0 0), (.slice none 0 0), (.slice none 0 0)) [5] [3, 2, 1, 0] rfl Tryz.results47 (RV.cell 1 rfl rfl tAgg_30) (RV.tmp rfl) rfl rfl rfl (tup2 rfl rfl)

theorem moveR_any (v_rW v_rT v_rH v_rN : Value) (r : Realm) (p : Place) (slot : Int) (w : World) (own : List Nat) (H : Wd w (blks [] ++ own) ([] ++ §92) §6 w) (hk : Ok r) : Calls Tryz.prog 48 #[.agg #[v_rW, v_rT, v_rH, v_rN, .int .i64 r.NextWrit, .int .i64 r.NextThing], .agg #[.int .i64 p.Holder, .int .i64 p.Slot], .int .i64 slot] w fun e w' => ∃ z : Value × Value × Value × Value, e = .returned (.tuple #[.agg #[z.1, z.2.1, z.2.2.1, z.2.2.2, .int .i64 ((((moveR r p slot)).1).NextWrit), .int .i64 ((((moveR r p slot)).1).NextThing)], errv (((moveR r p slot)).2)]) ∧ Wd w (blks [] ++ own) ([] ++ §92) [Res.ls z.1 ((((moveR r p slot)).1).Writs : List Writ), Res.ls z.2.1 ((((moveR r p slot)).1).Things : List Thing), Res.ls z.2.2.1 ((((moveR r p slot)).1).Held : List Held), Res.ls z.2.2.2 ((((moveR r p slot)).1).Notes : List Note)] w' := by
  have m_r_Writs := H.lenF 0 rfl
  have m_r_Things := H.lenF 1 rfl
  have m_r_Held := H.lenF 2 rfl
  have m_r_Notes := H.lenF 3 rfl
  have bw := hk.wl; have bt := hk.tl; have bh := hk.hl; have bn := hk.nl; have bw0 := hk.w0; have bw1 := hk.w1; have bt0 := hk.t0; have bt1 := hk.t1
  have bp := putH_len r.Held p 0
  refine R.enterN (n := 42) (vs := [.agg #[v_rW, v_rT, v_rH, v_rN, .int .i64 r.NextWrit, .int .i64 r.NextThing], .agg #[.int .i64 p.Holder, .int .i64 p.Slot], .int .i64 slot]) (B := §92) [(0, .agg #[v_rW, v_rT, v_rH, v_rN, .int .i64 r.NextWrit, .int .i64 r.NextThing]), (1, .agg #[.int .i64 p.Holder, .int .i64 p.Slot]), (2, .int .i64 slot)] Tryz.func48 rfl rfl rfl rfl H ?_
  refine R.reg rfl <| ?_
  refine R.s rfl §102 fun b1 => ?_
  refine R.s rfl §103 fun b2 => ?_
  refine R.s rfl §106 fun b3 => ?_
  refine R.u 1 rfl <| R.nil ?_
  refine R.reg rfl <| R.q (q.ldS 2 rfl rfl tAgg_30) rfl <| R.q (q.ldS 1 rfl rfl tAgg_33) rfl <| R.c §46 rfl <| R.u 3 rfl <| ?_
  refine R.s rfl §51 fun b4 => ?_
  refine R.s rfl §72 fun _ => ?_
  refine R.u 1 rfl <| R.nil ?_
  refine R.reg rfl <| R.u 1 rfl <| ?_
  by_cases h1 : (getR r p).2 = 0
  · refine R.q §40 rfl <| R.nil ?_
    refine R.condF rfl rfl ?_
    refine R.reg rfl <| R.q (q.fld (off' := 0) rfl tFld_33_0 rfl) rfl <| R.q (q.ld 2 rfl rfl tOne_3 rfl) rfl <| R.u 1 rfl <| R.q (q.build (cs := §70) tB_33 rfl rfl) rfl <| ?_
    refine R.s rfl (s.alloc (cs := [.int .i64 0, .int .i64 0]) tZero_33 rfl rfl) fun b5 => ?_
    refine R.s rfl (s.st (us := §70) (cs' := §70) 0 _ rfl rfl rfl rfl (.inl tAgg_33) rfl rfl rfl rfl) fun _ => ?_
    refine R.nil ?_
    refine R.reg rfl <| R.q (q.ldS 4 rfl rfl tAgg_30) rfl <| R.q (q.ldS 0 rfl rfl tAgg_33) rfl <| R.c (q.call eg_60 rfl rfl (fun w hw => (freeR_any _ _ _ _ (r) (§76) w §68 §83 §74 (§105 w hw) §32))) rfl <| R.u 1 rfl <| R.nil ?_
    refine R.reg rfl <| R.u 1 rfl <| ?_
    by_cases h2 : freeR r §76 = 0
    · refine R.q §40 rfl <| R.nil ?_
      refine R.condF rfl rfl ?_
      refine R.regD (fuel := 10) (Wd w (blks [] ++ own) [Res.box b5 §70 33, Res.box b4 §3 39, Res.box b3 §0 30, Res.box b2 §12 33, Res.held w own] §6) rfl mixed rfl ?_
      refine D.q (i := 0) rfl §39 §53 rfl (q.fld (off' := 2) rfl tFld_30_2 rfl) rfl <| D.q (i := 2) rfl §39 §53 rfl (q.ldS 3 rfl rfl tAgg_33) rfl <| D.q (i := 4) rfl §39 §53 rfl (q.ldS 0 rfl rfl tAgg_33) rfl <| D.q (i := 5) rfl §39 §53 rfl (q.fld (off' := 0) rfl tFld_39_0 rfl) rfl <| D.q (i := 6) rfl §39 §53 rfl (q.ld 1 rfl rfl tOne_3 rfl) rfl <| ?_
      refine D.one (i := 1) §39 rfl ?_
      refine Do.s (s.c (Qt.a (q.ld 4 rfl rfl tOne_27 rfl)) rfl) (fun _ => §53) rfl fun _ => ?_
      refine D.one (i := 3) §39 rfl ?_
      refine Do.s (B' := (fun bz0_ : Value => [Res.row 93 bz0_ ((putH r.Held p 0) : List Held), Res.box b5 §70 33, Res.box b4 §3 39, Res.box b3 §0 30, Res.box b2 §12 33, Res.box b1 §11 30, Res.held w own])) (F' := §88) (s.callV (B0 := []) (Br := [Res.box b5 §70 33, Res.box b4 §3 39, Res.box b3 §0 30, Res.box b2 §12 33, Res.box b1 §11 30, Res.held w own]) (F0 := [Res.ls v_rH (r.Held : List Held)]) [0, 1, 2, 3, 4, 5] [2] §69 (fun bz0_ : Value => [Res.row 93 bz0_ ((putH r.Held p 0) : List Held)]) §80 rfl rfl rfl eg_34 rfl rfl (fun w own hw H => put_any v_rH (r.Held) (p) (0) w own H §27) rfl) §90 rfl fun z3 => ?_
      refine D.one (i := 7) §39 rfl ?_
      refine Do.s (B' := (fun bz0_ : Value => [Res.row 93 bz0_ ((putH (putH r.Held p 0) §76 (§67.ID)) : List Held), Res.box b5 §70 33, Res.box b4 §3 39, Res.box b3 §0 30, Res.box b2 §12 33, Res.box b1 §11 30, Res.held w own])) (F' := (fun bz0_ : Value => [Res.ls z3 (putH r.Held p 0 : List Held), Res.ls v_rW (r.Writs : List Writ), Res.ls v_rT (r.Things : List Thing), Res.ls v_rH (r.Held : List Held), Res.ls v_rN (r.Notes : List Note)])) (s.pre (B2 := [Res.box b5 §70 33, Res.box b4 §3 39, Res.box b3 §0 30, Res.box b2 §12 33, Res.box b1 §11 30, Res.held w own]) (F2 := [Res.ls z3 (putH r.Held p 0 : List Held), Res.ls v_rW (r.Writs : List Writ), Res.ls v_rT (r.Things : List Thing), Res.ls v_rH (r.Held : List Held), Res.ls v_rN (r.Notes : List Note)]) §77 (s.callV (B0 := []) (Br := [Res.box b5 §70 33, Res.box b4 §3 39, Res.box b3 §0 30, Res.box b2 §12 33, Res.box b1 §11 30, Res.held w own]) (F0 := [Res.ls z3 (putH r.Held p 0 : List Held)]) [0, 1, 2, 3, 4, 5] [0] §69 (fun bz0_ : Value => [Res.row 93 bz0_ ((putH (putH r.Held p 0) §76 (§67.ID)) : List Held)]) §80 rfl rfl rfl eg_34 rfl rfl (fun w own hw H => put_any z3 (putH r.Held p 0) (§76) (§67.ID) w own H §27) rfl)) (fun _ => (fun _ => Wd.pik [1, 2, 3, 4, 6] [1, 2, 3, 4] rfl rfl rfl)) rfl fun z4 => ?_
      refine D.q (i := 8) rfl §39 (fun _ => Wd.pik [1, 2, 3, 4, 6] [1, 2, 3, 4] rfl rfl rfl) rfl (q.fld (off' := 2) rfl tFld_30_2 rfl) rfl <| ?_
      refine D.one (i := 9) §39 rfl ?_
      refine Do.s (s.stV (us := [z4]) (cs' := §95) 5 _ rfl rfl rfl §47 (.inr ⟨tOne_27, rfl⟩) §37 rfl rfl rfl) (fun _ => (fun _ => Wd.pik [1, 2, 3, 4, 6] [1, 2, 3, 4] rfl rfl rfl)) rfl fun _ => ?_
      refine D.done §39 <| ?_
      refine R.reg rfl <| R.q (q.ldS 5 rfl rfl tAgg_30) rfl <| ?_
      refine R.s rfl (s.stV (us := §95) (cs' := §95) 3 _ rfl rfl rfl (fun _ _ => rfl) (.inl tAgg_30) (fun w hw => (one_cons (Sl.one §83) (one_cons (Sl.one §74) (one_cons (Sl.one ((fun _ => Wd.row 0 rfl) w hw)) (one_cons (Sl.one ((fun _ => Wd.fls 4 rfl) w hw)) (one_cons rfl (one_cons rfl one_nil))))))) rfl rfl rfl) fun _ => ?_
      refine R.u 1 rfl <| R.nil ?_
      refine R.mp (B' := [Res.box b5 §70 33, Res.box b4 §3 39, Res.box b3 §95 30, Res.box b2 §12 33, Res.box b1 §95 30, Res.held w own]) §77 ?_
      have hz : moveR r p slot = ((⟨r.Writs, r.Things, putH (putH r.Held p 0) §76 (§67.ID), r.Notes, r.NextWrit, r.NextThing⟩ : Realm), 0) := by (unfold moveR; (repeat' split) <;> first | rfl | (exfalso; omega) | (simp_all; done))
      rw [hz]
      exact R.w2 (v_rW, v_rT, z4, v_rN) [5] [2, 3, 0, 5] rfl Tryz.results48 (RV.cell 2 rfl rfl tAgg_30) (RV.tmp rfl) rfl rfl rfl (tup2 rfl (err0 rfl))
    · refine R.q §41 rfl <| R.nil ?_
      refine R.condT rfl rfl ?_
      refine R.reg rfl <| R.q §24 rfl <| R.u 1 rfl <| ?_
      refine R.s rfl §58 fun _ => ?_
      refine R.u 1 rfl <| R.nil ?_
      refine R.mp §28 ?_
      refine R.mp §25 ?_
      refine R.mp §29 ?_
      refine R.mp §30 ?_
      have hz : moveR r p slot = (§22, freeR r §76) := by (unfold moveR; (repeat' split) <;> first | rfl | (exfalso; omega) | (simp_all; done))
      rw [hz]
      exact R.w2 ((.slice none 0 0), (.slice none 0 0), (.slice none 0 0), (.slice none 0 0)) [5] [3, 2, 1, 0] rfl Tryz.results48 (RV.cell 2 rfl rfl tAgg_30) (RV.tmp rfl) rfl rfl rfl (tup2 rfl rfl)
  · refine R.q §41 rfl <| R.nil ?_
    refine R.condT rfl rfl ?_
    refine R.reg rfl <| R.q §24 rfl <| R.u 1 rfl <| ?_
    refine R.s rfl §26 fun _ => ?_
    refine R.u 1 rfl <| R.nil ?_
    refine R.mp §28 ?_
    refine R.mp §25 ?_
    refine R.mp §29 ?_
    refine R.mp §30 ?_
    have hz : moveR r p slot = (§22, (getR r p).2) := by (unfold moveR; (repeat' split) <;> first | rfl | (exfalso; omega) | (simp_all; done))
    rw [hz]
    exact R.w2 ((.slice none 0 0), (.slice none 0 0), (.slice none 0 0), (.slice none 0 0)) [4] [3, 2, 1, 0] rfl Tryz.results48 (RV.cell 1 rfl rfl tAgg_30) (RV.tmp rfl) rfl rfl rfl (tup2 rfl rfl)

theorem dropR_any (v_rW v_rT v_rH v_rN : Value) (r : Realm) (p : Place) (w : World) (own : List Nat) (H : Wd w (blks [] ++ own) ([] ++ §92) §6 w) (hk : Ok r) : Calls Tryz.prog 49 #[.agg #[v_rW, v_rT, v_rH, v_rN, .int .i64 r.NextWrit, .int .i64 r.NextThing], .agg #[.int .i64 p.Holder, .int .i64 p.Slot]] w fun e w' => ∃ z : Value × Value × Value × Value, e = .returned (.tuple #[.agg #[z.1, z.2.1, z.2.2.1, z.2.2.2, .int .i64 ((((dropR r p)).1).NextWrit), .int .i64 ((((dropR r p)).1).NextThing)], errv (((dropR r p)).2)]) ∧ Wd w (blks [] ++ own) ([] ++ §92) [Res.ls z.1 ((((dropR r p)).1).Writs : List Writ), Res.ls z.2.1 ((((dropR r p)).1).Things : List Thing), Res.ls z.2.2.1 ((((dropR r p)).1).Held : List Held), Res.ls z.2.2.2 ((((dropR r p)).1).Notes : List Note)] w' := by
  have m_r_Writs := H.lenF 0 rfl
  have m_r_Things := H.lenF 1 rfl
  have m_r_Held := H.lenF 2 rfl
  have m_r_Notes := H.lenF 3 rfl
  have bw := hk.wl; have bt := hk.tl; have bh := hk.hl; have bn := hk.nl; have bw0 := hk.w0; have bw1 := hk.w1; have bt0 := hk.t0; have bt1 := hk.t1
  have hkd := hk.wo (getR r p).1.ID
  refine R.enterN (n := 26) (vs := §60) (B := §92) [(0, .agg #[v_rW, v_rT, v_rH, v_rN, .int .i64 r.NextWrit, .int .i64 r.NextThing]), (1, .agg #[.int .i64 p.Holder, .int .i64 p.Slot])] Tryz.func49 rfl rfl rfl rfl H ?_
  refine R.reg rfl <| ?_
  refine R.s rfl §102 fun b1 => ?_
  refine R.s rfl §103 fun b2 => ?_
  refine R.s rfl §106 fun b3 => ?_
  refine R.u 1 rfl <| R.nil ?_
  refine R.reg rfl <| R.q (q.ldS 2 rfl rfl tAgg_30) rfl <| R.q (q.ldS 1 rfl rfl tAgg_33) rfl <| R.c §46 rfl <| R.u 3 rfl <| ?_
  refine R.s rfl §51 fun b4 => ?_
  refine R.s rfl §72 fun _ => ?_
  refine R.u 1 rfl <| R.nil ?_
  refine R.reg rfl <| R.u 1 rfl <| ?_
  by_cases h1 : (getR r p).2 = 0
  · refine R.q §40 rfl <| R.nil ?_
    refine R.condF rfl rfl ?_
    refine R.reg rfl <| R.q (q.fld (off' := 0) rfl tFld_30_0 rfl) rfl <| R.q (q.ld 3 rfl rfl tOne_25 rfl) rfl <| R.q (q.fld (off' := 0) rfl tFld_39_0 rfl) rfl <| R.q (q.ld 0 rfl rfl tOne_3 rfl) rfl <| ?_
    refine R.s rfl (s.callO eg_40 rfl rfl (fun w hw => without_any _ (r.Writs) (§67.ID) w §68 (by first | omega | assumption)) rfl) fun v1 => ?_
    refine R.q (q.fld (off' := 0) rfl tFld_30_0 rfl) rfl <| ?_
    refine R.s rfl (s.stV (us := [v1]) (cs' := [v1, v_rT, v_rH, v_rN, .int .i64 r.NextWrit, .int .i64 r.NextThing]) 4 _ rfl rfl rfl §47 (.inr ⟨tOne_25, rfl⟩) §37 rfl rfl rfl) fun _ => ?_
    refine R.nil ?_
    refine R.reg rfl <| R.q (q.ldS 4 rfl rfl tAgg_30) rfl <| ?_
    refine R.s (B' := (fun g_ : Value × Value × Value × Value => §73)) (F' := (fun g_ : Value × Value × Value × Value => [Res.ls g_.1 (((sweepR §18)).Writs : List Writ), Res.ls g_.2.1 (((sweepR §18)).Things : List Thing), Res.ls g_.2.2.1 (((sweepR §18)).Held : List Held), Res.ls g_.2.2.2 (((sweepR §18)).Notes : List Note), Res.ls v1 ((without r.Writs (§67.ID)) : List Writ), Res.ls v_rW (r.Writs : List Writ), Res.ls v_rT (r.Things : List Thing), Res.ls v_rH (r.Held : List Held), Res.ls v_rN (r.Notes : List Note)])) rfl (s.pre (B2 := §73) (F2 := [Res.ls v1 ((without r.Writs (§67.ID)) : List Writ), Res.ls v_rW (r.Writs : List Writ), Res.ls v_rT (r.Things : List Thing), Res.ls v_rH (r.Held : List Held), Res.ls v_rN (r.Notes : List Note)]) §77 (s.callV (B0 := []) (Br := §73) (F0 := [Res.ls v1 ((without r.Writs (§67.ID)) : List Writ), Res.ls v_rT (r.Things : List Thing), Res.ls v_rH (r.Held : List Held), Res.ls v_rN (r.Notes : List Note)]) [0, 1, 2, 3, 4] [0, 2, 3, 4] (fun g_ : Value × Value × Value × Value => .agg #[g_.1, g_.2.1, g_.2.2.1, g_.2.2.2, .int .i64 (((sweepR §18)).NextWrit), .int .i64 (((sweepR §18)).NextThing)]) §84 (fun g_ : Value × Value × Value × Value => [Res.ls g_.1 (((sweepR §18)).Writs : List Writ), Res.ls g_.2.1 (((sweepR §18)).Things : List Thing), Res.ls g_.2.2.1 (((sweepR §18)).Held : List Held), Res.ls g_.2.2.2 (((sweepR §18)).Notes : List Note)]) rfl rfl rfl eg_41 rfl rfl (fun w own hw H => sweepR_any v1 v_rT v_rH v_rN (§18) w own H §32) rfl)) ?_
    rintro ⟨z1, z2, z3, z4⟩
    dsimp only
    refine R.s rfl (s.stV (us := [z1, z2, z3, z4, .int .i64 ((sweepR §18).NextWrit), .int .i64 ((sweepR §18).NextThing)]) (cs' := [z1, z2, z3, z4, .int .i64 ((sweepR §18).NextWrit), .int .i64 ((sweepR §18).NextThing)]) 1 _ rfl rfl rfl (fun _ _ => rfl) (.inl tAgg_30) §16 rfl rfl rfl) fun _ => ?_
    refine R.u 1 rfl <| R.nil ?_
    have hz : dropR r p = ((sweepR §18), 0) := by (unfold dropR; (repeat' split) <;> first | rfl | (exfalso; omega) | (simp_all; done))
    rw [hz]
    exact R.w2 (z1, z2, z3, z4) [4] [0, 1, 2, 3] rfl Tryz.results49 (RV.cell 1 rfl rfl tAgg_30) (RV.tmp rfl) rfl rfl rfl (tup2 rfl (err0 rfl))
  · refine R.q §41 rfl <| R.nil ?_
    refine R.condT rfl rfl ?_
    refine R.reg rfl <| R.q §24 rfl <| R.u 1 rfl <| ?_
    refine R.s rfl §26 fun _ => ?_
    refine R.u 1 rfl <| R.nil ?_
    refine R.mp §28 ?_
    refine R.mp §25 ?_
    refine R.mp §29 ?_
    refine R.mp §30 ?_
    have hz : dropR r p = (§22, (getR r p).2) := by (unfold dropR; (repeat' split) <;> first | rfl | (exfalso; omega) | (simp_all; done))
    rw [hz]
    exact R.w2 ((.slice none 0 0), (.slice none 0 0), (.slice none 0 0), (.slice none 0 0)) [4] [3, 2, 1, 0] rfl Tryz.results49 (RV.cell 1 rfl rfl tAgg_30) (RV.tmp rfl) rfl rfl rfl (tup2 rfl rfl)

set_option maxHeartbeats 1000000 in
theorem revokeR_any (v_rW v_rT v_rH v_rN : Value) (r : Realm) (p : Place) (w : World) (own : List Nat) (H : Wd w (blks [] ++ own) ([] ++ §92) §6 w) (hk : Ok r) : Calls Tryz.prog 50 #[.agg #[v_rW, v_rT, v_rH, v_rN, .int .i64 r.NextWrit, .int .i64 r.NextThing], .agg #[.int .i64 p.Holder, .int .i64 p.Slot]] w fun e w' => ∃ z : Value × Value × Value × Value, e = .returned (.tuple #[.agg #[z.1, z.2.1, z.2.2.1, z.2.2.2, .int .i64 ((((revokeR r p)).1).NextWrit), .int .i64 ((((revokeR r p)).1).NextThing)], errv (((revokeR r p)).2)]) ∧ Wd w (blks [] ++ own) ([] ++ §92) [Res.ls z.1 ((((revokeR r p)).1).Writs : List Writ), Res.ls z.2.1 ((((revokeR r p)).1).Things : List Thing), Res.ls z.2.2.1 ((((revokeR r p)).1).Held : List Held), Res.ls z.2.2.2 ((((revokeR r p)).1).Notes : List Note)] w' := by
  have m_r_Writs := H.lenF 0 rfl
  have m_r_Things := H.lenF 1 rfl
  have m_r_Held := H.lenF 2 rfl
  have m_r_Notes := H.lenF 3 rfl
  have bw := hk.wl; have bt := hk.tl; have bh := hk.hl; have bn := hk.nl; have bw0 := hk.w0; have bw1 := hk.w1; have bt0 := hk.t0; have bt1 := hk.t1
  have hkd : Ok §13 := hk.cut (getR r p).1.ID
  refine R.enterN (n := 32) (vs := §60) (B := §92) [(0, .agg #[v_rW, v_rT, v_rH, v_rN, .int .i64 r.NextWrit, .int .i64 r.NextThing]), (1, .agg #[.int .i64 p.Holder, .int .i64 p.Slot])] Tryz.func50 rfl rfl rfl rfl H ?_
  refine R.reg rfl <| ?_
  refine R.s rfl §102 fun b1 => ?_
  refine R.s rfl §103 fun b2 => ?_
  refine R.s rfl §106 fun b3 => ?_
  refine R.u 1 rfl <| R.nil ?_
  refine R.reg rfl <| R.q (q.ldS 2 rfl rfl tAgg_30) rfl <| R.q (q.ldS 1 rfl rfl tAgg_33) rfl <| R.c §46 rfl <| R.u 3 rfl <| ?_
  refine R.s rfl §51 fun b4 => ?_
  refine R.s rfl §72 fun _ => ?_
  refine R.u 1 rfl <| R.nil ?_
  refine R.reg rfl <| R.u 1 rfl <| ?_
  by_cases h1 : (getR r p).2 = 0
  · refine R.q §40 rfl <| R.nil ?_
    refine R.condF rfl rfl ?_
    refine R.reg rfl <| R.q (q.fld (off' := 0) rfl tFld_30_0 rfl) rfl <| R.q (q.ld 3 rfl rfl tOne_25 rfl) rfl <| R.q (q.fld (off' := 0) rfl tFld_39_0 rfl) rfl <| R.q (q.ld 0 rfl rfl tOne_3 rfl) rfl <| ?_
    refine R.s rfl (s.callO eg_83 rfl rfl (fun w hw => beneathG_any _ (r.Writs) (§67.ID) w §68 (by first | omega | assumption)) rfl) fun v1 => ?_
    refine R.s rfl (s.alloc (cs := [.slice none 0 0]) tZero_116 rfl rfl) fun b5 => ?_
    refine R.s rfl (s.stV (us := [v1]) (cs' := [v1]) 0 _ rfl rfl rfl (fun w hw => Sl.cells1 §75) (.inr ⟨tOne_116, rfl⟩) (fun w hw => (one_cons (Sl.one §75) one_nil)) rfl rfl rfl) fun _ => ?_
    refine R.nil ?_
    refine R.reg rfl <| R.q (q.fld (off' := 0) rfl tFld_30_0 rfl) rfl <| R.q (q.ld 5 rfl rfl tOne_25 rfl) rfl <| ?_
    refine R.s (B' := (fun bz0_ : Value => [Res.row 39 bz0_ (r.Writs : List Writ), Res.box b5 [v1] 116, Res.row 3 v1 ((benG (§67.ID) r.Writs) : List Int), Res.box b4 §3 39, Res.box b3 §0 30, Res.box b2 §12 33, Res.box b1 §11 30, Res.held w own])) (F' := §88) rfl (s.callV (B0 := []) (Br := [Res.box b5 [v1] 116, Res.row 3 v1 ((benG (§67.ID) r.Writs) : List Int), Res.box b4 §3 39, Res.box b3 §0 30, Res.box b2 §12 33, Res.box b1 §11 30, Res.held w own]) (F0 := [Res.ls v_rW (r.Writs : List Writ)]) [0, 1, 2, 3, 4, 5, 6] [0] §69 (fun bz0_ : Value => [Res.row 39 bz0_ (r.Writs : List Writ)]) §80 rfl rfl rfl eg_44 rfl rfl (fun w own hw H => cloneWrit_any v_rW (r.Writs) w own H §27) rfl) fun z1 => ?_
    refine R.q (q.mkf (cap := [.pointer (some ⟨b5, 0, none⟩)]) rfl rfl) rfl <| ?_
    refine R.s (B' := (fun bz0_ : Value => [Res.row 39 bz0_ ((r.Writs.filter §81) : List Writ), Res.box b5 [v1] 116, Res.row 3 v1 ((benG (§67.ID) r.Writs) : List Int), Res.box b4 §3 39, Res.box b3 §0 30, Res.box b2 §12 33, Res.box b1 §11 30, Res.held w own])) (F' := §88) rfl (s.callV (B0 := [Res.row 39 z1 (r.Writs : List Writ)]) (Br := [Res.box b5 [v1] 116, Res.row 3 v1 ((benG (§67.ID) r.Writs) : List Int), Res.box b4 §3 39, Res.box b3 §0 30, Res.box b2 §12 33, Res.box b1 §11 30, Res.held w own]) (F0 := []) [0, 1, 2, 3, 4, 5, 6, 7] [] §69 (fun bz0_ : Value => [Res.row 39 bz0_ ((r.Writs.filter §81) : List Writ)]) §80 rfl rfl rfl eg_84 rfl rfl (fun w own hw H => delFuncWrit_any z1 (r.Writs) (fun (x : Writ) => decide (x.ID ∈ (benG (§67.ID) r.Writs))) _ _ eg_85 w own H (fun W x hU => revokeLit_any x _ ((benG (§67.ID) r.Writs)) _ W (hw.stayB 1 0 rfl rfl (by decide) hU) (Own.sl (hw.stayB 2 0 rfl rfl (by decide) hU)) ) §27) rfl) fun z2 => ?_
    refine R.q (q.fld (off' := 0) rfl tFld_30_0 rfl) rfl <| ?_
    refine R.s rfl (s.stV (us := [z2]) (cs' := [z2, v_rT, v_rH, v_rN, .int .i64 r.NextWrit, .int .i64 r.NextThing]) 6 _ rfl rfl rfl §47 (.inr ⟨tOne_25, rfl⟩) §37 rfl rfl rfl) fun _ => ?_
    refine R.nil ?_
    refine R.reg rfl <| R.q (q.ldS 6 rfl rfl tAgg_30) rfl <| ?_
    refine R.s (B' := (fun g_ : Value × Value × Value × Value => §48)) (F' := (fun g_ : Value × Value × Value × Value => [Res.ls g_.1 (((sweepR §13)).Writs : List Writ), Res.ls g_.2.1 (((sweepR §13)).Things : List Thing), Res.ls g_.2.2.1 (((sweepR §13)).Held : List Held), Res.ls g_.2.2.2 (((sweepR §13)).Notes : List Note), Res.ls z2 (r.Writs.filter §81 : List Writ), Res.ls v_rW (r.Writs : List Writ), Res.ls v_rT (r.Things : List Thing), Res.ls v_rH (r.Held : List Held), Res.ls v_rN (r.Notes : List Note)])) rfl (s.pre (B2 := §48) (F2 := [Res.ls z2 (r.Writs.filter §81 : List Writ), Res.ls v_rW (r.Writs : List Writ), Res.ls v_rT (r.Things : List Thing), Res.ls v_rH (r.Held : List Held), Res.ls v_rN (r.Notes : List Note)]) §77 (s.callV (B0 := []) (Br := §48) (F0 := [Res.ls z2 (r.Writs.filter §81 : List Writ), Res.ls v_rT (r.Things : List Thing), Res.ls v_rH (r.Held : List Held), Res.ls v_rN (r.Notes : List Note)]) [0, 1, 2, 3, 4, 5, 6] [0, 2, 3, 4] (fun g_ : Value × Value × Value × Value => .agg #[g_.1, g_.2.1, g_.2.2.1, g_.2.2.2, .int .i64 (((sweepR §13)).NextWrit), .int .i64 (((sweepR §13)).NextThing)]) §84 (fun g_ : Value × Value × Value × Value => [Res.ls g_.1 (((sweepR §13)).Writs : List Writ), Res.ls g_.2.1 (((sweepR §13)).Things : List Thing), Res.ls g_.2.2.1 (((sweepR §13)).Held : List Held), Res.ls g_.2.2.2 (((sweepR §13)).Notes : List Note)]) rfl rfl rfl eg_41 rfl rfl (fun w own hw H => by have h1_ := sweepR_any z2 v_rT v_rH v_rN (§13) w own H §32; exact h1_) rfl)) ?_
    rintro ⟨z3, z4, z5, z6⟩
    dsimp only
    refine R.s rfl (s.stV (us := [z3, z4, z5, z6, .int .i64 ((sweepR §13).NextWrit), .int .i64 ((sweepR §13).NextThing)]) (cs' := [z3, z4, z5, z6, .int .i64 ((sweepR §13).NextWrit), .int .i64 ((sweepR §13).NextThing)]) 3 _ rfl rfl rfl (fun _ _ => rfl) (.inl tAgg_30) §16 rfl rfl rfl) fun _ => ?_
    refine R.u 1 rfl <| R.nil ?_
    have hz : revokeR r p = ((sweepR §13), 0) := by (unfold revokeR; (repeat' split) <;> first | rfl | (exfalso; omega) | (simp_all; done))
    rw [hz]
    exact R.w2 (z3, z4, z5, z6) [6] [0, 1, 2, 3] rfl Tryz.results50 (RV.cell 3 rfl rfl tAgg_30) (RV.tmp rfl) rfl rfl rfl (tup2 rfl (err0 rfl))
  · refine R.q §41 rfl <| R.nil ?_
    refine R.condT rfl rfl ?_
    refine R.reg rfl <| R.q §24 rfl <| R.u 1 rfl <| ?_
    refine R.s rfl §26 fun _ => ?_
    refine R.u 1 rfl <| R.nil ?_
    refine R.mp §28 ?_
    refine R.mp §25 ?_
    refine R.mp §29 ?_
    refine R.mp §30 ?_
    have hz : revokeR r p = (§22, (getR r p).2) := by (unfold revokeR; (repeat' split) <;> first | rfl | (exfalso; omega) | (simp_all; done))
    rw [hz]
    exact R.w2 ((.slice none 0 0), (.slice none 0 0), (.slice none 0 0), (.slice none 0 0)) [4] [3, 2, 1, 0] rfl Tryz.results50 (RV.cell 1 rfl rfl tAgg_30) (RV.tmp rfl) rfl rfl rfl (tup2 rfl rfl)

theorem mayR_any (v_rW v_rT v_rH v_rN : Value) (r : Realm) (p : Place) (kind : Int) (rights : Int) (w : World) (s_rW : Sl w v_rW r.Writs) (s_rT : Sl w v_rT r.Things) (s_rH : Sl w v_rH r.Held) (s_rN : Sl w v_rN r.Notes) (hk : Ok r) (hr : 0 ≤ rights ∧ rights ≤ 7) : Calls Tryz.prog 29 #[.agg #[v_rW, v_rT, v_rH, v_rN, .int .i64 r.NextWrit, .int .i64 r.NextThing], .agg #[.int .i64 p.Holder, .int .i64 p.Slot], .int .i64 kind, .int .i64 rights] w fun e w' => e = .returned (.tuple #[Writ.val ((mayR r p kind rights).1), .int .i64 ((mayR r p kind rights).2.1), errv ((mayR r p kind rights).2.2)]) ∧ Ext w w' := by
  have bw := hk.wl; have bt := hk.tl; have bh := hk.hl; have bn := hk.nl; have bw0 := hk.w0; have bw1 := hk.w1; have bt0 := hk.t0; have bt1 := hk.t1
  refine R.enter (n := 51) (vs := [.agg #[v_rW, v_rT, v_rH, v_rN, .int .i64 r.NextWrit, .int .i64 r.NextThing], .agg #[.int .i64 p.Holder, .int .i64 p.Slot], .int .i64 kind, .int .i64 rights]) [] [(0, .agg #[v_rW, v_rT, v_rH, v_rN, .int .i64 r.NextWrit, .int .i64 r.NextThing]), (1, .agg #[.int .i64 p.Holder, .int .i64 p.Slot]), (2, .int .i64 kind), (3, .int .i64 rights)] Tryz.func29 rfl rfl rfl rfl ?_
  refine R.reg rfl <| ?_
  refine R.s rfl §102 fun b1 => ?_
  refine R.s rfl §103 fun b2 => ?_
  refine R.s rfl §51 fun b3 => ?_
  refine R.u 2 rfl <| R.nil ?_
  refine R.reg rfl <| R.q (q.ldS 2 rfl rfl tAgg_30) rfl <| R.q (q.ldS 1 rfl rfl tAgg_33) rfl <| R.c (q.call eg_8 rfl rfl (fun w hw => (get_any _ _ _ _ (r) (p) w ((fun _ => Wd.old s_rW) w hw) ((fun _ => Wd.old s_rT) w hw) ((fun _ => Wd.old s_rH) w hw) ((fun _ => Wd.old s_rN) w hw) §32))) rfl <| R.u 3 rfl <| ?_
  refine R.s rfl §51 fun b4 => ?_
  refine R.s rfl §72 fun _ => ?_
  refine R.u 1 rfl <| R.nil ?_
  refine R.reg rfl <| R.u 1 rfl <| ?_
  by_cases h1 : (getR r p).2 = 0
  · have gh1 := hk.get h1
    refine R.q §40 rfl <| R.nil ?_
    refine R.condF rfl rfl ?_
    refine R.reg rfl <| R.q §62 rfl <| R.q (q.ld 3 rfl rfl tOne_26 rfl) rfl <| R.q (q.mkf (cap := [.pointer (some ⟨b4, 0, none⟩)]) rfl rfl) rfl <| ?_
    rcases idx_cases (fun (t : Thing) => t.ID == §67.Thing) r.Things with ⟨c1f, c1n⟩ | ⟨c1k, c1x, c1f, c1h, c1e, c1b, c1B⟩
    · refine R.c §94 rfl <| R.u 1 rfl <| R.nil ?_
      refine R.reg rfl <| R.u 1 rfl <| R.q (q.lss (b := true) rfl rfl (by decide)) rfl <| R.u 10 rfl <| R.nil ?_
      refine R.condT rfl rfl ?_
      refine R.reg rfl <| R.q (q.build (cs := §17) tB_39 rfl rfl) rfl <| R.q §79 rfl <| ?_
      refine R.s rfl §104 fun _ => ?_
      refine R.u 2 rfl <| R.nil ?_
      exact R.rr3 rfl Tryz.results29 (RV.cell 1 rfl rfl tAgg_39) (RV.tmp rfl) (RV.tmp rfl) (congrArg Writ.val (show (⟨0, 0, 0, 0, 0⟩ : Writ) = (mayR r p kind rights).1 from by (first | (rw [mayR_bad §32]; first | done | rfl) | (rw [mayR_none §32 c1n]; first | done | rfl) | (rw [mayR_kind §32 c1h c1e c1b §32]; first | done | rfl) | (rw [mayR_right §32 c1h c1e c1b §32 §32]; first | done | rfl) | (rw [mayR_ok §32 c1h c1e c1b §32 §32]; first | done | rfl)))) (rI §7) (errk (by decide) §7)
    · refine R.c §94 rfl <| R.u 1 rfl <| R.nil ?_
      refine R.reg rfl <| R.u 1 rfl <| R.q (q.lss rfl rfl (decide_eq_false (by omega))) rfl <| R.u 1 rfl <| R.qg rfl §62 rfl <| R.qg rfl (q.ld 3 rfl rfl tOne_26 rfl) rfl <| R.u 1 rfl <| R.qg rfl (q.idx (i := c1k) (fun _ => Wd.old s_rT) rfl rfl tSl_26 rfl c1h) rfl <| R.qg rfl (q.fldE (j' := 1) (fun _ => Wd.old s_rT) c1h rfl tFld_74_1 rfl) rfl <| R.qg rfl (q.ldE (fun _ => Wd.old s_rT) c1h rfl tOne_3 rfl) rfl <| R.u 1 rfl <| ?_
      by_cases h2 : c1x.Kind = kind
      · refine R.qg rfl (q.neq rfl rfl (bne_eq_false_iff_eq.2 (by omega))) rfl <| R.u 1 rfl <| R.nil ?_
        refine R.condF rfl rfl ?_
        refine R.reg rfl <| R.q (q.fld (off' := 2) rfl tFld_39_2 rfl) rfl <| R.q (q.ld 0 rfl rfl tOne_3 rfl) rfl <| R.u 1 rfl <| ?_
        rcases Bool.eq_false_or_eq_true (hasR (§67.Rights) rights) with h3 | h3
        · refine R.c (q.call eg_67 rfl rfl (fun w hw => (cv (congrArg Value.bool h3) (rightHas_any (§67.Rights) (rights) w  (by omega) (by omega))))) rfl <| R.u 1 rfl <| R.nil ?_
          refine R.condF rfl rfl ?_
          refine R.reg rfl <| R.q (q.ldS 0 rfl rfl tAgg_39) rfl <| R.u 1 rfl <| ?_
          refine R.s rfl (s.st (us := §3) (cs' := §3) 1 _ rfl rfl rfl rfl (.inl tAgg_39) rfl rfl rfl rfl) fun _ => ?_
          refine R.u 2 rfl <| R.nil ?_
          exact R.rr3 rfl Tryz.results29 (RV.cell 1 rfl rfl tAgg_39) (RV.tmp rfl) (RV.tmp rfl) (congrArg Writ.val (show §67 = (mayR r p kind rights).1 from by (first | (rw [mayR_bad §32]; first | done | rfl) | (rw [mayR_none §32 c1n]; first | done | rfl) | (rw [mayR_kind §32 c1h c1e c1b §32]; first | done | rfl) | (rw [mayR_right §32 c1h c1e c1b §32 §32]; first | done | rfl) | (rw [mayR_ok §32 c1h c1e c1b §32 §32]; first | done | rfl)))) (rI §7) (err0 §7)
        · refine R.c (q.call eg_67 rfl rfl (fun w hw => (cv (congrArg Value.bool h3) (rightHas_any (§67.Rights) (rights) w  (by omega) (by omega))))) rfl <| R.u 1 rfl <| R.nil ?_
          refine R.condT rfl rfl ?_
          refine R.reg rfl <| R.q (q.build (cs := §17) tB_39 rfl rfl) rfl <| R.q §79 rfl <| ?_
          refine R.s rfl §104 fun _ => ?_
          refine R.u 2 rfl <| R.nil ?_
          exact R.rr3 rfl Tryz.results29 (RV.cell 1 rfl rfl tAgg_39) (RV.tmp rfl) (RV.tmp rfl) (congrArg Writ.val (show (⟨0, 0, 0, 0, 0⟩ : Writ) = (mayR r p kind rights).1 from by (first | (rw [mayR_bad §32]; first | done | rfl) | (rw [mayR_none §32 c1n]; first | done | rfl) | (rw [mayR_kind §32 c1h c1e c1b §32]; first | done | rfl) | (rw [mayR_right §32 c1h c1e c1b §32 §32]; first | done | rfl) | (rw [mayR_ok §32 c1h c1e c1b §32 §32]; first | done | rfl)))) (rI §7) (errk (by decide) §7)
      · refine R.qg rfl (q.neq rfl rfl (bne_iff_ne.2 (by omega))) rfl <| R.u 1 rfl <| R.nil ?_
        refine R.condT rfl rfl ?_
        refine R.reg rfl <| R.q (q.build (cs := §17) tB_39 rfl rfl) rfl <| R.q §79 rfl <| ?_
        refine R.s rfl §104 fun _ => ?_
        refine R.u 2 rfl <| R.nil ?_
        exact R.rr3 rfl Tryz.results29 (RV.cell 1 rfl rfl tAgg_39) (RV.tmp rfl) (RV.tmp rfl) (congrArg Writ.val (show (⟨0, 0, 0, 0, 0⟩ : Writ) = (mayR r p kind rights).1 from by (first | (rw [mayR_bad §32]; first | done | rfl) | (rw [mayR_none §32 c1n]; first | done | rfl) | (rw [mayR_kind §32 c1h c1e c1b §32]; first | done | rfl) | (rw [mayR_right §32 c1h c1e c1b §32 §32]; first | done | rfl) | (rw [mayR_ok §32 c1h c1e c1b §32 §32]; first | done | rfl)))) (rI §7) (errk (by decide) §7)
  · refine R.q §41 rfl <| R.nil ?_
    refine R.condT rfl rfl ?_
    refine R.reg rfl <| R.q (q.build (cs := §17) tB_39 rfl rfl) rfl <| R.u 1 rfl <| ?_
    refine R.s rfl §104 fun _ => ?_
    refine R.u 2 rfl <| R.nil ?_
    exact R.rr3 rfl Tryz.results29 (RV.cell 1 rfl rfl tAgg_39) (RV.tmp rfl) (RV.tmp rfl) (congrArg Writ.val (show (⟨0, 0, 0, 0, 0⟩ : Writ) = (mayR r p kind rights).1 from by (first | (rw [mayR_bad §32]; first | done | rfl) | (rw [mayR_none §32 c1n]; first | done | rfl) | (rw [mayR_kind §32 c1h c1e c1b §32]; first | done | rfl) | (rw [mayR_right §32 c1h c1e c1b §32 §32]; first | done | rfl) | (rw [mayR_ok §32 c1h c1e c1b §32 §32]; first | done | rfl)))) (rI §7) (rE §7)

theorem readR_any (v_rW v_rT v_rH v_rN : Value) (r : Realm) (p : Place) (w : World) (s_rW : Sl w v_rW r.Writs) (s_rT : Sl w v_rT r.Things) (s_rH : Sl w v_rH r.Held) (s_rN : Sl w v_rN r.Notes) (hk : Ok r) : Calls Tryz.prog 10 #[.agg #[v_rW, v_rT, v_rH, v_rN, .int .i64 r.NextWrit, .int .i64 r.NextThing], .agg #[.int .i64 p.Holder, .int .i64 p.Slot]] w fun e w' => e = .returned (.tuple #[.string ((readR r p).1), errv ((readR r p).2)]) ∧ Ext w w' := by
  have bw := hk.wl; have bt := hk.tl; have bh := hk.hl; have bn := hk.nl; have bw0 := hk.w0; have bw1 := hk.w1; have bt0 := hk.t0; have bt1 := hk.t1
  refine R.enter (n := 25) (vs := §60) [] [(0, .agg #[v_rW, v_rT, v_rH, v_rN, .int .i64 r.NextWrit, .int .i64 r.NextThing]), (1, .agg #[.int .i64 p.Holder, .int .i64 p.Slot])] Tryz.func10 rfl rfl rfl rfl ?_
  refine R.reg rfl <| ?_
  refine R.s rfl §102 fun b1 => ?_
  refine R.s rfl §103 fun b2 => ?_
  refine R.u 2 rfl <| R.nil ?_
  refine R.reg rfl <| R.q (q.ldS 1 rfl rfl tAgg_30) rfl <| R.q (q.ldS 0 rfl rfl tAgg_33) rfl <| R.c (q.call eg_29 rfl rfl (fun w hw => (mayR_any _ _ _ _ (r) (p) (1) (1) w ((fun _ => Wd.old s_rW) w hw) ((fun _ => Wd.old s_rT) w hw) ((fun _ => Wd.old s_rH) w hw) ((fun _ => Wd.old s_rN) w hw) §32 (by omega)))) rfl <| R.u 4 rfl <| ?_
  refine R.s rfl §51 fun b3 => ?_
  refine R.s rfl (s.st (us := [.int .i64 (((mayR r p 1 1).1).ID), .int .i64 (((mayR r p 1 1).1).Thing), .int .i64 (((mayR r p 1 1).1).Rights), .int .i64 (((mayR r p 1 1).1).Badge), .int .i64 (((mayR r p 1 1).1).From)]) (cs' := [.int .i64 (((mayR r p 1 1).1).ID), .int .i64 (((mayR r p 1 1).1).Thing), .int .i64 (((mayR r p 1 1).1).Rights), .int .i64 (((mayR r p 1 1).1).Badge), .int .i64 (((mayR r p 1 1).1).From)]) 0 _ rfl rfl rfl rfl (.inl tAgg_39) rfl rfl rfl rfl) fun _ => ?_
  refine R.u 2 rfl <| R.nil ?_
  refine R.reg rfl <| R.u 1 rfl <| ?_
  by_cases h1 : (mayR r p 1 1).2.2 = 0
  · obtain ⟨m1, m2, m3, i, ix, ik, ih, ii, id, ib⟩ := mayR_zero h1; have iB := (List.getElem?_eq_some_iff.1 ih).1
    refine R.q §40 rfl <| R.nil ?_
    refine R.condF rfl rfl ?_
    refine R.reg rfl <| R.q §62 rfl <| R.q (q.ld 2 rfl rfl tOne_26 rfl) rfl <| R.u 1 rfl <| ?_
    obtain ⟨x1, hx1⟩ : ∃ z, r.Things[((mayR r p 1 1).2.1).toNat]? = some z := ⟨_, List.getElem?_eq_getElem (by omega)⟩
    refine R.q (q.idx (i := ((mayR r p 1 1).2.1).toNat) (fun _ => Wd.old s_rT) rfl rfl tSl_26 (by omega) hx1) rfl <| R.q (q.fldE (j' := 2) (fun _ => Wd.old s_rT) hx1 rfl tFld_74_2 rfl) rfl <| R.q (q.ldE (fun _ => Wd.old s_rT) hx1 rfl tOne_9 rfl) rfl <| R.u 2 rfl <| R.nil ?_
    exact R.rv2 rfl Tryz.results10 rfl rfl (rS §91) (err0 §91)
  · refine R.q §41 rfl <| R.nil ?_
    refine R.condT rfl rfl ?_
    refine R.reg rfl <| R.u 3 rfl <| R.nil ?_
    exact R.rv2 rfl Tryz.results10 rfl rfl (rS §91) (rE §91)

theorem writeR_any (v_rW v_rT v_rH v_rN : Value) (r : Realm) (p : Place) (d : ByteArray) (w : World) (own : List Nat) (H : Wd w (blks [] ++ own) ([] ++ §92) §6 w) (hk : Ok r) : Calls Tryz.prog 51 #[.agg #[v_rW, v_rT, v_rH, v_rN, .int .i64 r.NextWrit, .int .i64 r.NextThing], .agg #[.int .i64 p.Holder, .int .i64 p.Slot], .string d] w fun e w' => ∃ z : Value × Value × Value × Value, e = .returned (.tuple #[.agg #[z.1, z.2.1, z.2.2.1, z.2.2.2, .int .i64 ((((writeR r p d)).1).NextWrit), .int .i64 ((((writeR r p d)).1).NextThing)], errv (((writeR r p d)).2)]) ∧ Wd w (blks [] ++ own) ([] ++ §92) [Res.ls z.1 ((((writeR r p d)).1).Writs : List Writ), Res.ls z.2.1 ((((writeR r p d)).1).Things : List Thing), Res.ls z.2.2.1 ((((writeR r p d)).1).Held : List Held), Res.ls z.2.2.2 ((((writeR r p d)).1).Notes : List Note)] w' := by
  have m_r_Writs := H.lenF 0 rfl
  have m_r_Things := H.lenF 1 rfl
  have m_r_Held := H.lenF 2 rfl
  have m_r_Notes := H.lenF 3 rfl
  have bw := hk.wl; have bt := hk.tl; have bh := hk.hl; have bn := hk.nl; have bw0 := hk.w0; have bw1 := hk.w1; have bt0 := hk.t0; have bt1 := hk.t1
  refine R.enterN (n := 38) (vs := [.agg #[v_rW, v_rT, v_rH, v_rN, .int .i64 r.NextWrit, .int .i64 r.NextThing], .agg #[.int .i64 p.Holder, .int .i64 p.Slot], .string d]) (B := §92) [(0, .agg #[v_rW, v_rT, v_rH, v_rN, .int .i64 r.NextWrit, .int .i64 r.NextThing]), (1, .agg #[.int .i64 p.Holder, .int .i64 p.Slot]), (2, .string d)] Tryz.func51 rfl rfl rfl rfl H ?_
  refine R.reg rfl <| ?_
  refine R.s rfl §102 fun b1 => ?_
  refine R.s rfl §103 fun b2 => ?_
  refine R.s rfl §106 fun b3 => ?_
  refine R.u 1 rfl <| R.nil ?_
  refine R.reg rfl <| R.q (q.ldS 2 rfl rfl tAgg_30) rfl <| R.q (q.ldS 1 rfl rfl tAgg_33) rfl <| R.c (q.call eg_29 rfl rfl (fun w hw => (mayR_any _ _ _ _ (r) (p) (1) (2) w §68 §83 §74 (§105 w hw) §32 (by omega)))) rfl <| R.u 4 rfl <| ?_
  refine R.s rfl §51 fun b4 => ?_
  refine R.s rfl (s.st (us := §36) (cs' := §36) 0 _ rfl rfl rfl rfl (.inl tAgg_39) rfl rfl rfl rfl) fun _ => ?_
  refine R.u 2 rfl <| R.nil ?_
  refine R.reg rfl <| R.u 1 rfl <| ?_
  by_cases h1 : (mayR r p 1 2).2.2 = 0
  · obtain ⟨m1, m2, m3, i, ix, ik, ih, ii, id, ib⟩ := mayR_zero h1; have iB := (List.getElem?_eq_some_iff.1 ih).1
    refine R.q §40 rfl <| R.nil ?_
    refine R.condF rfl rfl ?_
    refine R.reg rfl <| R.u 1 rfl <| R.q (q.lenS rfl Tryz.underlying9) rfl <| ?_
    by_cases h2 : 8 < d.size
    · refine R.q §64 rfl <| R.nil ?_
      refine R.condT rfl rfl ?_
      refine R.reg rfl <| R.q §24 rfl <| R.q §79 rfl <| ?_
      refine R.s rfl §26 fun _ => ?_
      refine R.u 1 rfl <| R.nil ?_
      refine R.mp §28 ?_
      refine R.mp §25 ?_
      refine R.mp §29 ?_
      refine R.mp §30 ?_
      have hz : writeR r p d = (§22, 2) := by (unfold writeR setData; (repeat' split) <;> first | rfl | (exfalso; omega) | (simp_all; done))
      rw [hz]
      exact R.w2 ((.slice none 0 0), (.slice none 0 0), (.slice none 0 0), (.slice none 0 0)) [4] [3, 2, 1, 0] rfl Tryz.results51 (RV.cell 1 rfl rfl tAgg_30) (RV.tmp rfl) rfl rfl rfl (tup2 rfl (errk (by decide) rfl))
    · refine R.q §63 rfl <| R.nil ?_
      refine R.condF rfl rfl ?_
      refine R.reg rfl <| R.q §62 rfl <| R.q (q.ld 3 rfl rfl tOne_26 rfl) rfl <| ?_
      refine R.s (B' := (fun bz0_ : Value => [Res.row 74 bz0_ (r.Things : List Thing), Res.box b4 §36 39, Res.box b3 §0 30, Res.box b2 §12 33, Res.box b1 §11 30, Res.held w own])) (F' := §88) rfl (s.callV (B0 := []) (Br := [Res.box b4 §36 39, Res.box b3 §0 30, Res.box b2 §12 33, Res.box b1 §11 30, Res.held w own]) (F0 := [Res.ls v_rT (r.Things : List Thing)]) [0, 1, 2, 3, 4] [1] §69 (fun bz0_ : Value => [Res.row 74 bz0_ (r.Things : List Thing)]) §80 rfl rfl rfl eg_45 rfl rfl (fun w own hw H => cloneThing_any v_rT (r.Things) w own H §27) rfl) fun z1 => ?_
      refine R.q §62 rfl <| ?_
      refine R.s rfl (s.stV (us := [z1]) (cs' := §96) 4 _ rfl rfl rfl §47 (.inr ⟨tOne_26, rfl⟩) §37 rfl rfl rfl) fun _ => ?_
      refine R.nil ?_
      refine R.reg rfl <| R.q §62 rfl <| R.q (q.ld 4 rfl rfl tOne_26 rfl) rfl <| R.u 2 rfl <| ?_
      obtain ⟨x1, hx1⟩ : ∃ z, r.Things[((mayR r p 1 2).2.1).toNat]? = some z := ⟨_, List.getElem?_eq_getElem (by omega)⟩
      refine R.q (q.idx (i := ((mayR r p 1 2).2.1).toNat) (fun _ => Wd.row 0 rfl) rfl rfl tSl_26 (by omega) hx1) rfl <| R.q (q.fldE (j' := 2) (fun _ => Wd.row 0 rfl) hx1 rfl tFld_74_2 rfl) rfl <| ?_
      refine R.s rfl (s.stP (o := 2) (z := (⟨x1.ID, x1.Kind, d⟩ : Thing)) (us := [.string d]) 0 _ rfl hx1 rfl rfl rfl rfl rfl (by simp [Value.oneCell']) (.inr ⟨tOne_9, rfl⟩) rfl) fun _ => ?_
      refine R.nil ?_
      refine R.reg rfl <| R.q (q.ldS 4 rfl rfl tAgg_30) rfl <| ?_
      refine R.s rfl (s.stV (us := §96) (cs' := §96) 2 _ rfl rfl rfl (fun _ _ => rfl) (.inl tAgg_30) (fun w hw => (one_cons (Sl.one §68) (one_cons (Sl.one ((fun _ => Wd.row 0 rfl) w hw)) (one_cons (Sl.one §74) (one_cons (Sl.one (§105 w hw)) (one_cons rfl (one_cons rfl one_nil))))))) rfl rfl rfl) fun _ => ?_
      refine R.u 1 rfl <| R.nil ?_
      refine R.mp (B' := [Res.box b4 §36 39, Res.box b3 §96 30, Res.box b2 §12 33, Res.box b1 §96 30, Res.held w own]) §77 ?_
      have hz : writeR r p d = ((⟨r.Writs, (r.Things.set (((mayR r p 1 2).2.1).toNat) (⟨x1.ID, x1.Kind, d⟩ : Thing)), r.Held, r.Notes, r.NextWrit, r.NextThing⟩ : Realm), 0) := by (unfold writeR setData; (repeat' split) <;> first | rfl | (exfalso; omega) | (simp_all; done))
      rw [hz]
      exact R.w2 (v_rW, z1, v_rH, v_rN) [4] [1, 0, 3, 4] rfl Tryz.results51 (RV.cell 1 rfl rfl tAgg_30) (RV.tmp rfl) rfl rfl rfl (tup2 rfl (err0 rfl))
  · refine R.q §41 rfl <| R.nil ?_
    refine R.condT rfl rfl ?_
    refine R.reg rfl <| R.q §24 rfl <| R.u 1 rfl <| ?_
    refine R.s rfl §26 fun _ => ?_
    refine R.u 1 rfl <| R.nil ?_
    refine R.mp §28 ?_
    refine R.mp §25 ?_
    refine R.mp §29 ?_
    refine R.mp §30 ?_
    have hz : writeR r p d = (§22, (mayR r p 1 2).2.2) := by (unfold writeR setData; (repeat' split) <;> first | rfl | (exfalso; omega) | (simp_all; done))
    rw [hz]
    exact R.w2 ((.slice none 0 0), (.slice none 0 0), (.slice none 0 0), (.slice none 0 0)) [4] [3, 2, 1, 0] rfl Tryz.results51 (RV.cell 1 rfl rfl tAgg_30) (RV.tmp rfl) rfl rfl rfl (tup2 rfl rfl)

set_option maxRecDepth 100000 in
theorem sendR_any (v_rW v_rT v_rH v_rN : Value) (r : Realm) (p : Place) (d : ByteArray) (slot : Int) (rights : Int) (w : World) (own : List Nat) (H : Wd w (blks [] ++ own) ([] ++ §92) §6 w) (hk : Ok r) : Calls Tryz.prog 52 #[.agg #[v_rW, v_rT, v_rH, v_rN, .int .i64 r.NextWrit, .int .i64 r.NextThing], .agg #[.int .i64 p.Holder, .int .i64 p.Slot], .string d, .int .i64 slot, .int .i64 rights] w fun e w' => ∃ z : Value × Value × Value × Value, e = .returned (.tuple #[.agg #[z.1, z.2.1, z.2.2.1, z.2.2.2, .int .i64 ((((sendR r p d slot rights)).1).NextWrit), .int .i64 ((((sendR r p d slot rights)).1).NextThing)], errv (((sendR r p d slot rights)).2)]) ∧ Wd w (blks [] ++ own) ([] ++ §92) [Res.ls z.1 ((((sendR r p d slot rights)).1).Writs : List Writ), Res.ls z.2.1 ((((sendR r p d slot rights)).1).Things : List Thing), Res.ls z.2.2.1 ((((sendR r p d slot rights)).1).Held : List Held), Res.ls z.2.2.2 ((((sendR r p d slot rights)).1).Notes : List Note)] w' := by
  have m_r_Writs := H.lenF 0 rfl
  have m_r_Things := H.lenF 1 rfl
  have m_r_Held := H.lenF 2 rfl
  have m_r_Notes := H.lenF 3 rfl
  have bw := hk.wl; have bt := hk.tl; have bh := hk.hl; have bn := hk.nl; have bw0 := hk.w0; have bw1 := hk.w1; have bt0 := hk.t0; have bt1 := hk.t1
  refine R.enterN (n := 116) (vs := [.agg #[v_rW, v_rT, v_rH, v_rN, .int .i64 r.NextWrit, .int .i64 r.NextThing], .agg #[.int .i64 p.Holder, .int .i64 p.Slot], .string d, .int .i64 slot, .int .i64 rights]) (B := §92) [(0, .agg #[v_rW, v_rT, v_rH, v_rN, .int .i64 r.NextWrit, .int .i64 r.NextThing]), (1, .agg #[.int .i64 p.Holder, .int .i64 p.Slot]), (2, .string d), (3, .int .i64 slot), (4, .int .i64 rights)] Tryz.func52 rfl rfl rfl rfl H ?_
  refine R.reg rfl <| ?_
  refine R.s rfl §102 fun b1 => ?_
  refine R.s rfl §103 fun b2 => ?_
  refine R.s rfl §106 fun b3 => ?_
  refine R.u 1 rfl <| R.nil ?_
  refine R.reg rfl <| R.q (q.ldS 2 rfl rfl tAgg_30) rfl <| R.q (q.ldS 1 rfl rfl tAgg_33) rfl <| R.c (q.call eg_29 rfl rfl (fun w hw => (mayR_any _ _ _ _ (r) (p) (2) (2) w §68 §83 §74 (§105 w hw) §32 (by omega)))) rfl <| R.u 4 rfl <| ?_
  refine R.s rfl §51 fun b4 => ?_
  refine R.s rfl (s.st (us := §4) (cs' := §4) 0 _ rfl rfl rfl rfl (.inl tAgg_39) rfl rfl rfl rfl) fun _ => ?_
  refine R.u 2 rfl <| R.nil ?_
  refine R.reg rfl <| R.u 1 rfl <| ?_
  by_cases h1 : (mayR r p 2 2).2.2 = 0
  · have mz := mayR_zero h1; have mr := hk.get mz.1; rw [← mz.2.1] at mr
    refine R.q §40 rfl <| R.nil ?_
    refine R.condF rfl rfl ?_
    refine R.reg rfl <| R.u 1 rfl <| R.q (q.lenS rfl Tryz.underlying9) rfl <| ?_
    by_cases h2 : 8 < d.size
    · refine R.q §64 rfl <| R.nil ?_
      refine R.condT rfl rfl ?_
      refine R.reg rfl <| R.q §24 rfl <| R.q §79 rfl <| ?_
      refine R.s rfl §26 fun _ => ?_
      refine R.u 1 rfl <| R.nil ?_
      refine R.mp §28 ?_
      refine R.mp §25 ?_
      refine R.mp §29 ?_
      refine R.mp §30 ?_
      have hz : sendR r p d slot rights = (§22, 2) := by (unfold sendR; (repeat' split) <;> first | rfl | (exfalso; omega) | (simp_all; done))
      rw [hz]
      exact R.w2 ((.slice none 0 0), (.slice none 0 0), (.slice none 0 0), (.slice none 0 0)) [4] [3, 2, 1, 0] rfl Tryz.results52 (RV.cell 1 rfl rfl tAgg_30) (RV.tmp rfl) rfl rfl rfl (tup2 rfl (errk (by decide) rfl))
    · refine R.q §63 rfl <| R.nil ?_
      refine R.condF rfl rfl ?_
      refine R.reg rfl <| R.u 1 rfl <| R.nil ?_
      refine R.reg rfl <| R.q §50 rfl <| R.q (q.ld 3 rfl rfl tOne_28 rfl) rfl <| R.q (q.len' §105 rfl Tryz.underlying28) rfl <| R.u 1 rfl <| R.nil ?_
      refine R.loop (fun g_ : Nat × Nat => [(2, .string d), (3, .int .i64 slot), (4, .int .i64 rights), (5, .pointer (some ⟨b1, 0, none⟩)), (6, .pointer (some ⟨b2, 0, none⟩)), (10, .pointer (some ⟨b3, 0, none⟩)), (12, .pointer (some ⟨b4, 0, none⟩)), (15, .int .i64 (g_.2 : Int)), (39, v_rN), (40, .int .i64 (r.Notes.length : Int)), (41, .int .i64 (g_.1 : Int))]) (fun g_ : Nat × Nat => [Res.box b4 §4 39, Res.box b3 §0 30, Res.box b2 §12 33, Res.box b1 §11 30, Res.held w own]) (fun g_ : Nat × Nat => §6) (fun g_ : Nat × Nat => g_.1 ≤ r.Notes.length ∧ g_.2 = waitN (r.Notes.take g_.1) (mayR r p 2 2).1.Thing) (fun g_ : Nat × Nat => r.Notes.length - g_.1) (0, 0) rfl (by exact ⟨by omega, by simp [waitN]⟩) ⟨rfl, rfl, rfl, rfl, rfl, rfl, rfl, rfl, rfl, rfl, rfl, trivial⟩ (fun _ => Wd.pick [0, 1, 2, 3, 4] [0, 1, 2, 3] rfl rfl rfl) ?_
      rintro ⟨k, c⟩ ⟨hk1, HC⟩
      dsimp only at *
      have hc1 : c ≤ k := by rw [HC]; exact wait_le
      refine R.reg rfl <| ?_
      by_cases h3 : k < r.Notes.length
      · refine R.q (q.lss rfl rfl (decide_eq_true (by omega))) rfl <| R.nil ?_
        refine R.condT rfl rfl ?_
        refine R.reg rfl <| ?_
        obtain ⟨x1, hx1⟩ : ∃ z, r.Notes[k]? = some z := ⟨_, List.getElem?_eq_getElem (by omega)⟩
        refine R.q (q.idx (i := k) §105 rfl rfl tSl_28 rfl hx1) rfl <| R.q (q.ldES (ds := [.int .i64 x1.Port, .string x1.Data, .int .i64 x1.Badge, .int .i64 x1.Writ]) §105 hx1 rfl tAgg_52 rfl) rfl <| ?_
        refine R.s rfl (s.alloc (cs := §20) tZero_52 rfl rfl) fun b5 => ?_
        refine R.s rfl (s.st (us := [.int .i64 x1.Port, .string x1.Data, .int .i64 x1.Badge, .int .i64 x1.Writ]) (cs' := [.int .i64 x1.Port, .string x1.Data, .int .i64 x1.Badge, .int .i64 x1.Writ]) 0 _ rfl rfl rfl rfl (.inl tAgg_52) rfl rfl rfl rfl) fun _ => ?_
        refine R.nil ?_
        refine R.reg rfl <| R.q (q.fld (off' := 0) rfl tFld_52_0 rfl) rfl <| R.q (q.ld 0 rfl rfl tOne_3 rfl) rfl <| R.q (q.fld (off' := 1) rfl tFld_39_1 rfl) rfl <| R.q (q.ld 1 rfl rfl tOne_3 rfl) rfl <| ?_
        by_cases h4 : x1.Port = §15.Thing
        · refine R.q (q.eql rfl rfl (beq_iff_eq.2 (by omega))) rfl <| R.nil ?_
          refine R.condT rfl rfl ?_
          refine R.reg rfl <| R.u 1 rfl <| R.q (q.add (r := ((c + 1 : Nat) : Int)) rfl rfl (wr (by omega))) rfl <| R.u 1 rfl <| R.nil ?_
          refine R.reg rfl <| R.q (q.add (r := ((k + 1 : Nat) : Int)) rfl rfl (wr (by omega))) rfl <| R.u 1 rfl <| R.nil ?_
          refine R.back ((k + 1), (c + 1)) rfl (by (exact ⟨by omega, by rw [wait_hit hx1 §32, HC]⟩)) (by dsimp only; omega) ⟨rfl, rfl, rfl, rfl, rfl, rfl, rfl, rfl, rfl, rfl, rfl, trivial⟩ (fun _ => Wd.pik [1, 2, 3, 4, 5] [0, 1, 2, 3] rfl rfl rfl)
        · refine R.q (q.eql rfl rfl (beq_eq_false_iff_ne.2 (by omega))) rfl <| R.nil ?_
          refine R.condF rfl rfl ?_
          refine R.reg rfl <| R.q (q.add (r := ((k + 1 : Nat) : Int)) rfl rfl (wr (by omega))) rfl <| R.u 1 rfl <| R.nil ?_
          refine R.back ((k + 1), c) rfl (by (exact ⟨by omega, by rw [wait_miss hx1 §32, HC]⟩)) (by dsimp only; omega) ⟨rfl, rfl, rfl, rfl, rfl, rfl, rfl, rfl, rfl, rfl, rfl, trivial⟩ (fun _ => Wd.pik [1, 2, 3, 4, 5] [0, 1, 2, 3] rfl rfl rfl)
      · refine R.q (q.lss rfl rfl (decide_eq_false (by omega))) rfl <| R.nil ?_
        refine R.condF rfl rfl ?_
        refine R.reg rfl <| R.u 1 rfl <| ?_
        by_cases h5 : c = 3
        · refine R.q (q.eql rfl rfl (beq_iff_eq.2 (by omega))) rfl <| R.nil ?_
          refine R.condT rfl rfl ?_
          refine R.reg rfl <| R.q §24 rfl <| R.q §79 rfl <| ?_
          refine R.s rfl §26 fun _ => ?_
          refine R.u 1 rfl <| R.nil ?_
          refine R.mp §28 ?_
          refine R.mp §25 ?_
          refine R.mp §29 ?_
          refine R.mp §30 ?_
          have hz : sendR r p d slot rights = (§22, 9) := by (rw [List.take_of_length_le (by omega)] at HC; subst HC; unfold sendR; (repeat' split) <;> first | rfl | (exfalso; omega) | (simp_all; done))
          rw [hz]
          exact R.w2 ((.slice none 0 0), (.slice none 0 0), (.slice none 0 0), (.slice none 0 0)) [4] [3, 2, 1, 0] rfl Tryz.results52 (RV.cell 1 rfl rfl tAgg_30) (RV.tmp rfl) rfl rfl rfl (tup2 rfl (errk (by decide) rfl))
        · refine R.q (q.eql rfl rfl (beq_eq_false_iff_ne.2 (by omega))) rfl <| R.nil ?_
          refine R.condF rfl rfl ?_
          refine R.reg rfl <| R.q (q.fld (off' := 1) rfl tFld_39_1 rfl) rfl <| R.q (q.ld 0 rfl rfl tOne_3 rfl) rfl <| R.u 1 rfl <| R.q (q.fld (off' := 3) rfl tFld_39_3 rfl) rfl <| R.q (q.ld 0 rfl rfl tOne_3 rfl) rfl <| R.q (q.build (cs := §23) tB_52 rfl rfl) rfl <| ?_
          refine R.s rfl (s.alloc (cs := §20) tZero_52 rfl rfl) fun b6 => ?_
          refine R.s rfl (s.st (us := §23) (cs' := §23) 0 _ rfl rfl rfl rfl (.inl tAgg_52) rfl rfl rfl rfl) fun _ => ?_
          refine R.nil ?_
          refine R.reg rfl <| R.u 1 rfl <| ?_
          by_cases h6 : slot < 0
          · refine R.q (q.geq rfl rfl (decide_eq_false (by omega))) rfl <| R.nil ?_
            refine R.condF rfl rfl ?_
            refine R.regD (fuel := 8) (Wd w (blks [] ++ own) [Res.box b6 §23 52, Res.box b4 §4 39, Res.box b3 §0 30, Res.box b2 §12 33, Res.held w own] §6) rfl mixed rfl ?_
            refine D.q (i := 0) rfl §39 §53 rfl §50 rfl <| D.q (i := 3) rfl §39 §53 rfl (q.ldS 0 rfl rfl tAgg_52) rfl <| ?_
            refine D.two (i := 1) (j := 4) §39 rfl rfl ?_ ?_
            · refine Do.s (s.c (Qt.a (q.ld 4 rfl rfl tOne_28 rfl)) rfl) (fun _ => §53) rfl fun _ => ?_
              refine D.two (i := 2) (j := 4) §39 rfl rfl ?_ ?_
              · refine Do.s (B' := (fun bz0_ : Value => [Res.row 52 bz0_ (r.Notes : List Note), Res.box b6 §23 52, Res.box b4 §4 39, Res.box b3 §0 30, Res.box b2 §12 33, Res.box b1 §11 30, Res.held w own])) (F' := §88) (s.callV (B0 := []) (Br := [Res.box b6 §23 52, Res.box b4 §4 39, Res.box b3 §0 30, Res.box b2 §12 33, Res.box b1 §11 30, Res.held w own]) (F0 := [Res.ls v_rN (r.Notes : List Note)]) [0, 1, 2, 3, 4, 5] [3] §69 §108 §80 rfl rfl rfl eg_36 rfl rfl §109 rfl) §90 rfl fun z2 => ?_
                refine D.one (i := 4) §39 rfl ?_
                refine Do.s (s.bs (l := ([§45] : List Note)) tSl_28 tZero_52 rfl rfl rfl rfl rfl rfl rfl) (fun _ => §44) rfl fun b7 => ?_
                refine D.one (i := 5) §39 rfl ?_
                refine Do.s (s.app (l2 := [§45]) 1 _ rfl rfl rfl (fun _ => Wd.row 0 rfl) tApp_28 §52 §52 (fun _ => rfl) rfl) (fun _ => §44) rfl fun v1 => ?_
                refine D.q (i := 6) rfl §39 §44 rfl §50 rfl <| ?_
                refine D.one (i := 7) §39 rfl ?_
                refine Do.s (s.stV (us := [v1]) (cs' := §97) 6 _ rfl rfl rfl (fun w hw => Sl.cells1 §75) (.inr ⟨tOne_28, rfl⟩) (fun w hw => (one_cons (Sl.one §75) one_nil)) rfl rfl rfl) (fun _ => §44) rfl fun _ => ?_
                refine D.done §39 <| ?_
                refine R.reg rfl <| R.q (q.ldS 6 rfl rfl tAgg_30) rfl <| ?_
                refine R.s rfl (s.stV (us := §97) (cs' := §97) 4 _ rfl rfl rfl (fun _ _ => rfl) (.inl tAgg_30) (fun w hw => (one_cons (Sl.one §68) (one_cons (Sl.one §83) (one_cons (Sl.one §74) (one_cons (Sl.one §75) (one_cons rfl (one_cons rfl one_nil))))))) rfl rfl rfl) fun _ => ?_
                refine R.u 1 rfl <| R.nil ?_
                refine R.mp (B' := [Res.row 52 (.slice (some ⟨b7, 0, none⟩) 1 1) ([§45] : List Note), Res.box b6 §23 52, Res.box b4 §4 39, Res.box b3 §97 30, Res.box b2 §12 33, Res.box b1 §97 30, Res.held w own]) (fun _ hw => hw.lendL 1 _ rfl rfl) ?_
                have hz : sendR r p d slot rights = ((⟨r.Writs, r.Things, r.Held, (r.Notes ++ ([§45])), r.NextWrit, r.NextThing⟩ : Realm), 0) := by (rw [List.take_of_length_le (by omega)] at HC; subst HC; unfold sendR; (repeat' split) <;> first | rfl | (exfalso; omega) | (simp_all; done))
                rw [hz]
                exact R.w2 (v_rW, v_rT, v_rH, v1) [6] [1, 2, 3, 0] rfl Tryz.results52 (RV.cell 3 rfl rfl tAgg_30) (RV.tmp rfl) rfl rfl rfl (tup2 rfl (err0 rfl))
              · refine Do.s (s.bs (l := ([§45] : List Note)) tSl_28 tZero_52 rfl rfl rfl rfl rfl rfl rfl) §90 rfl fun b8 => ?_
                refine D.one (i := 2) §39 rfl ?_
                refine Do.s (B' := (fun bz0_ : Value => [Res.row 52 bz0_ (r.Notes : List Note), Res.row 52 (.slice (some ⟨b8, 0, none⟩) 1 1) ([§45] : List Note), Res.box b6 §23 52, Res.box b4 §4 39, Res.box b3 §0 30, Res.box b2 §12 33, Res.box b1 §11 30, Res.held w own])) (F' := §88) (s.callV (B0 := []) (Br := [Res.row 52 (.slice (some ⟨b8, 0, none⟩) 1 1) ([§45] : List Note), Res.box b6 §23 52, Res.box b4 §4 39, Res.box b3 §0 30, Res.box b2 §12 33, Res.box b1 §11 30, Res.held w own]) (F0 := [Res.ls v_rN (r.Notes : List Note)]) [0, 1, 2, 3, 4, 5, 6] [3] §69 §108 §80 rfl rfl rfl eg_36 rfl rfl §109 rfl) (fun _ => §44) rfl fun z3 => ?_
                refine D.one (i := 5) §39 rfl ?_
                refine Do.s (s.app (l2 := [§45]) 0 _ rfl rfl rfl (fun _ => Wd.row 1 rfl) tApp_28 §52 §52 (fun _ => rfl) rfl) (fun _ => §44) rfl fun v2 => ?_
                refine D.q (i := 6) rfl §39 §44 rfl §50 rfl <| ?_
                refine D.one (i := 7) §39 rfl ?_
                refine Do.s (s.stV (us := [v2]) (cs' := §98) 6 _ rfl rfl rfl §47 (.inr ⟨tOne_28, rfl⟩) §37 rfl rfl rfl) (fun _ => §44) rfl fun _ => ?_
                refine D.done §39 <| ?_
                refine R.reg rfl <| R.q (q.ldS 6 rfl rfl tAgg_30) rfl <| ?_
                refine R.s rfl (s.stV (us := §98) (cs' := §98) 4 _ rfl rfl rfl (fun _ _ => rfl) (.inl tAgg_30) §21 rfl rfl rfl) fun _ => ?_
                refine R.u 1 rfl <| R.nil ?_
                refine R.mp (B' := [Res.row 52 (.slice (some ⟨b8, 0, none⟩) 1 1) ([§45] : List Note), Res.box b6 §23 52, Res.box b4 §4 39, Res.box b3 §98 30, Res.box b2 §12 33, Res.box b1 §98 30, Res.held w own]) §77 ?_
                have hz : sendR r p d slot rights = ((⟨r.Writs, r.Things, r.Held, (r.Notes ++ ([§45])), r.NextWrit, r.NextThing⟩ : Realm), 0) := by (rw [List.take_of_length_le (by omega)] at HC; subst HC; unfold sendR; (repeat' split) <;> first | rfl | (exfalso; omega) | (simp_all; done))
                rw [hz]
                exact R.w2 (v_rW, v_rT, v_rH, v2) [6] [1, 2, 3, 0] rfl Tryz.results52 (RV.cell 3 rfl rfl tAgg_30) (RV.tmp rfl) rfl rfl rfl (tup2 rfl (err0 rfl))
            · refine Do.s (s.bs (l := ([§45] : List Note)) tSl_28 tZero_52 rfl rfl rfl rfl rfl rfl rfl) §90 rfl fun b9 => ?_
              refine D.one (i := 1) §39 rfl ?_
              refine Do.s (s.c (Qt.a (q.ld 5 rfl rfl tOne_28 rfl)) rfl) §90 rfl fun _ => ?_
              refine D.one (i := 2) §39 rfl ?_
              refine Do.s (B' := (fun bz0_ : Value => [Res.row 52 bz0_ (r.Notes : List Note), Res.row 52 (.slice (some ⟨b9, 0, none⟩) 1 1) ([§45] : List Note), Res.box b6 §23 52, Res.box b4 §4 39, Res.box b3 §0 30, Res.box b2 §12 33, Res.box b1 §11 30, Res.held w own])) (F' := §88) (s.callV (B0 := []) (Br := [Res.row 52 (.slice (some ⟨b9, 0, none⟩) 1 1) ([§45] : List Note), Res.box b6 §23 52, Res.box b4 §4 39, Res.box b3 §0 30, Res.box b2 §12 33, Res.box b1 §11 30, Res.held w own]) (F0 := [Res.ls v_rN (r.Notes : List Note)]) [0, 1, 2, 3, 4, 5, 6] [3] §69 §108 §80 rfl rfl rfl eg_36 rfl rfl §109 rfl) (fun _ => §44) rfl fun z4 => ?_
              refine D.one (i := 5) §39 rfl ?_
              refine Do.s (s.app (l2 := [§45]) 0 _ rfl rfl rfl (fun _ => Wd.row 1 rfl) tApp_28 §52 §52 (fun _ => rfl) rfl) (fun _ => §44) rfl fun v3 => ?_
              refine D.q (i := 6) rfl §39 §44 rfl §50 rfl <| ?_
              refine D.one (i := 7) §39 rfl ?_
              refine Do.s (s.stV (us := [v3]) (cs' := §99) 6 _ rfl rfl rfl §47 (.inr ⟨tOne_28, rfl⟩) §37 rfl rfl rfl) (fun _ => §44) rfl fun _ => ?_
              refine D.done §39 <| ?_
              refine R.reg rfl <| R.q (q.ldS 6 rfl rfl tAgg_30) rfl <| ?_
              refine R.s rfl (s.stV (us := §99) (cs' := §99) 4 _ rfl rfl rfl (fun _ _ => rfl) (.inl tAgg_30) §21 rfl rfl rfl) fun _ => ?_
              refine R.u 1 rfl <| R.nil ?_
              refine R.mp (B' := [Res.row 52 (.slice (some ⟨b9, 0, none⟩) 1 1) ([§45] : List Note), Res.box b6 §23 52, Res.box b4 §4 39, Res.box b3 §99 30, Res.box b2 §12 33, Res.box b1 §99 30, Res.held w own]) §77 ?_
              have hz : sendR r p d slot rights = ((⟨r.Writs, r.Things, r.Held, (r.Notes ++ ([§45])), r.NextWrit, r.NextThing⟩ : Realm), 0) := by (rw [List.take_of_length_le (by omega)] at HC; subst HC; unfold sendR; (repeat' split) <;> first | rfl | (exfalso; omega) | (simp_all; done))
              rw [hz]
              exact R.w2 (v_rW, v_rT, v_rH, v3) [6] [1, 2, 3, 0] rfl Tryz.results52 (RV.cell 3 rfl rfl tAgg_30) (RV.tmp rfl) rfl rfl rfl (tup2 rfl (err0 rfl))
          · refine R.q (q.geq rfl rfl (decide_eq_true (by omega))) rfl <| R.nil ?_
            refine R.condT rfl rfl ?_
            refine R.reg rfl <| R.q (q.fld (off' := 2) rfl tFld_39_2 rfl) rfl <| R.q (q.ld 1 rfl rfl tOne_3 rfl) rfl <| ?_
            rcases Bool.eq_false_or_eq_true (hasR (§15.Rights) 4) with h7 | h7
            · refine R.c (q.call eg_67 rfl rfl (fun w hw => (cv (congrArg Value.bool h7) (rightHas_any (§15.Rights) (4) w  (by omega) (by omega))))) rfl <| R.u 1 rfl <| R.nil ?_
              refine R.condF rfl rfl ?_
              refine R.reg rfl <| R.q (q.ldS 4 rfl rfl tAgg_30) rfl <| R.q (q.fld (off' := 0) rfl tFld_33_0 rfl) rfl <| R.q (q.ld 3 rfl rfl tOne_3 rfl) rfl <| R.u 1 rfl <| R.q (q.build (cs := §70) tB_33 rfl rfl) rfl <| R.c (q.call eg_8 rfl rfl (fun w hw => (get_any _ _ _ _ (r) (§76) w §68 §83 §74 (§105 w hw) §32))) rfl <| R.u 3 rfl <| ?_
              refine R.s rfl §51 fun b10 => ?_
              refine R.s rfl (s.st (us := §5) (cs' := §5) 0 _ rfl rfl rfl rfl (.inl tAgg_39) rfl rfl rfl rfl) fun _ => ?_
              refine R.u 1 rfl <| R.nil ?_
              refine R.reg rfl <| R.u 1 rfl <| ?_
              by_cases h8 : (getR r §76).2 = 0
              · have gh8 := hk.get h8
                have hn0 : ∀ x, (addR r x ⟨0, 0⟩).Notes.length ≤ 2000 := fun x => hk.nl
                have hnz := hn0 (derived (getR r ⟨p.Holder, slot⟩).1 r.NextWrit rights 0).1
                refine R.q §40 rfl <| R.nil ?_
                refine R.condF rfl rfl ?_
                refine R.reg rfl <| R.q §78 rfl <| R.q (q.ld 5 rfl rfl tOne_3 rfl) rfl <| ?_
                by_cases h9 : 999 < r.NextWrit
                · refine R.q §64 rfl <| R.nil ?_
                  refine R.condT rfl rfl ?_
                  refine R.reg rfl <| R.q §24 rfl <| R.q §79 rfl <| ?_
                  refine R.s rfl (s.st (us := §0) (cs' := §0) 3 _ rfl rfl rfl rfl (.inl tAgg_30) rfl rfl rfl rfl) fun _ => ?_
                  refine R.u 1 rfl <| R.nil ?_
                  refine R.mp §28 ?_
                  refine R.mp §25 ?_
                  refine R.mp §29 ?_
                  refine R.mp §30 ?_
                  have hz : sendR r p d slot rights = (§22, 9) := by (rw [List.take_of_length_le (by omega)] at HC; subst HC; unfold sendR; (repeat' split) <;> first | rfl | (exfalso; omega) | (simp_all; done))
                  rw [hz]
                  exact R.w2 ((.slice none 0 0), (.slice none 0 0), (.slice none 0 0), (.slice none 0 0)) [6] [3, 2, 1, 0] rfl Tryz.results52 (RV.cell 3 rfl rfl tAgg_30) (RV.tmp rfl) rfl rfl rfl (tup2 rfl (errk (by decide) rfl))
                · refine R.q §63 rfl <| R.nil ?_
                  refine R.condF rfl rfl ?_
                  refine R.reg rfl <| R.q (q.ldS 0 rfl rfl tAgg_39) rfl <| R.q §78 rfl <| R.q (q.ld 5 rfl rfl tOne_3 rfl) rfl <| R.u 1 rfl <| R.c (q.call eg_82 rfl rfl (fun w hw => (derive_any (((getR r §76).1)) (r.NextWrit) (rights) (0) w  (by omega)))) rfl <| R.u 3 rfl <| ?_
                  refine R.s rfl §51 fun b11 => ?_
                  refine R.s rfl (s.st (us := §19) (cs' := §19) 0 _ rfl rfl rfl rfl (.inl tAgg_39) rfl rfl rfl rfl) fun _ => ?_
                  refine R.u 1 rfl <| R.nil ?_
                  refine R.reg rfl <| R.u 1 rfl <| ?_
                  by_cases h10 : (derived ((getR r §76).1) r.NextWrit rights 0).2 = 0
                  · refine R.q §40 rfl <| R.nil ?_
                    refine R.condF rfl rfl ?_
                    refine R.reg rfl <| R.q (q.ldS 6 rfl rfl tAgg_30) rfl <| R.q (q.ldS 0 rfl rfl tAgg_39) rfl <| R.q (q.build (cs := [.int .i64 0, .int .i64 0]) tB_33 rfl rfl) rfl <| ?_
                    refine R.s (B' := (fun g_ : Value × Value × Value × Value => [Res.box b11 §19 39, Res.box b10 §5 39, Res.box b6 §23 52, Res.box b4 §4 39, Res.box b3 §0 30, Res.box b2 §12 33, Res.box b1 §11 30, Res.held w own])) (F' := (fun g_ : Value × Value × Value × Value => [Res.ls g_.1 ((§10).Writs : List Writ), Res.ls g_.2.1 ((§10).Things : List Thing), Res.ls g_.2.2.1 ((§10).Held : List Held), Res.ls g_.2.2.2 ((§10).Notes : List Note), Res.ls v_rW (r.Writs : List Writ), Res.ls v_rT (r.Things : List Thing), Res.ls v_rH (r.Held : List Held), Res.ls v_rN (r.Notes : List Note)])) rfl (s.callV (B0 := []) (Br := [Res.box b11 §19 39, Res.box b10 §5 39, Res.box b6 §23 52, Res.box b4 §4 39, Res.box b3 §0 30, Res.box b2 §12 33, Res.box b1 §11 30, Res.held w own]) (F0 := §6) [0, 1, 2, 3, 4, 5, 6, 7] [0, 1, 2, 3] (fun g_ : Value × Value × Value × Value => .agg #[g_.1, g_.2.1, g_.2.2.1, g_.2.2.2, .int .i64 ((§10).NextWrit), .int .i64 ((§10).NextThing)]) §84 (fun g_ : Value × Value × Value × Value => [Res.ls g_.1 ((§10).Writs : List Writ), Res.ls g_.2.1 ((§10).Things : List Thing), Res.ls g_.2.2.1 ((§10).Held : List Held), Res.ls g_.2.2.2 ((§10).Notes : List Note)]) rfl rfl rfl eg_61 rfl rfl (fun w own hw H => addR_any v_rW v_rT v_rH v_rN (r) (§1) ((⟨0, 0⟩ : Place)) w own H (by first | omega | (dsimp only; omega))) rfl) ?_
                    rintro ⟨z5, z6, z7, z8⟩
                    dsimp only
                    refine R.s rfl (s.stV (us := §49) (cs' := §49) 6 _ rfl rfl rfl (fun _ _ => rfl) (.inl tAgg_30) §16 rfl rfl rfl) fun _ => ?_
                    refine R.nil ?_
                    refine R.reg rfl <| R.q (q.fld (off' := 0) rfl tFld_39_0 rfl) rfl <| R.q (q.ld 0 rfl rfl tOne_3 rfl) rfl <| R.q (q.fld (off' := 3) rfl tFld_52_3 rfl) rfl <| ?_
                    refine R.s rfl (s.st (us := [.int .i64 (§1.ID)]) (cs' := §35) 2 _ rfl rfl rfl rfl (.inr ⟨tOne_3, rfl⟩) rfl rfl rfl rfl) fun _ => ?_
                    refine R.nil ?_
                    refine R.regD (fuel := 8) (Wd w (blks [] ++ own) [Res.box b11 §19 39, Res.box b10 §5 39, Res.box b6 §35 52, Res.box b4 §4 39, Res.box b3 §0 30, Res.box b2 §12 33, Res.held w own] §31) rfl mixed rfl ?_
                    refine D.q (i := 0) rfl §39 (fun _ => Wd.pik [0, 1, 2, 3, 4, 5, 7] [0, 1, 2, 3, 4, 5, 6, 7] rfl rfl rfl) rfl §50 rfl <| D.q (i := 3) rfl §39 (fun _ => Wd.pik [0, 1, 2, 3, 4, 5, 7] [0, 1, 2, 3, 4, 5, 6, 7] rfl rfl rfl) rfl (q.ldS 2 rfl rfl tAgg_52) rfl <| ?_
                    refine D.two (i := 1) (j := 4) §39 rfl rfl ?_ ?_
                    · refine Do.s (s.c (Qt.a (q.ld 6 rfl rfl tOne_28 rfl)) rfl) (fun _ => (fun _ => Wd.pik [0, 1, 2, 3, 4, 5, 7] [0, 1, 2, 3, 4, 5, 6, 7] rfl rfl rfl)) rfl fun _ => ?_
                      refine D.two (i := 2) (j := 4) §39 rfl rfl ?_ ?_
                      · refine Do.s (B' := (fun bz0_ : Value => [Res.row 52 bz0_ ((§10.Notes) : List Note), Res.box b11 §19 39, Res.box b10 §5 39, Res.box b6 §35 52, Res.box b4 §4 39, Res.box b3 §0 30, Res.box b2 §12 33, Res.box b1 §49 30, Res.held w own])) (F' := (fun bz0_ : Value => §31)) (s.callV (B0 := []) (Br := [Res.box b11 §19 39, Res.box b10 §5 39, Res.box b6 §35 52, Res.box b4 §4 39, Res.box b3 §0 30, Res.box b2 §12 33, Res.box b1 §49 30, Res.held w own]) (F0 := [Res.ls z8 (§10.Notes : List Note)]) [0, 1, 2, 3, 4, 5, 6, 7] [3] §69 (fun bz0_ : Value => [Res.row 52 bz0_ ((§10.Notes) : List Note)]) §80 rfl rfl rfl eg_36 rfl rfl (fun w own hw H => cloneNote_any z8 (§10.Notes) w own H §27) rfl) §101 rfl fun z10 => ?_
                        refine D.one (i := 4) §39 rfl ?_
                        refine Do.s (s.bs (l := ([§42] : List Note)) tSl_28 tZero_52 rfl rfl rfl rfl rfl rfl rfl) (fun _ => §33) rfl fun b12 => ?_
                        refine D.one (i := 5) §39 rfl ?_
                        refine Do.s (s.app (l2 := [§42]) 1 _ rfl rfl rfl (fun _ => Wd.row 0 rfl) tApp_28 §52 §52 (fun _ => rfl) rfl) (fun _ => §33) rfl fun v4 => ?_
                        refine D.q (i := 6) rfl §39 §33 rfl §50 rfl <| ?_
                        refine D.one (i := 7) §39 rfl ?_
                        refine Do.s (s.stV (us := [v4]) (cs' := §85) 8 _ rfl rfl rfl (fun w hw => Sl.cells1 §75) (.inr ⟨tOne_28, rfl⟩) (fun w hw => (one_cons (Sl.one §75) one_nil)) rfl rfl rfl) (fun _ => §33) rfl fun _ => ?_
                        refine D.done §39 <| ?_
                        refine R.reg rfl <| R.q (q.ldS 8 rfl rfl tAgg_30) rfl <| ?_
                        refine R.s rfl (s.stV (us := §85) (cs' := §85) 6 _ rfl rfl rfl (fun _ _ => rfl) (.inl tAgg_30) (fun w hw => (one_cons (Sl.one §68) (one_cons (Sl.one §83) (one_cons (Sl.one §74) (one_cons (Sl.one §75) (one_cons rfl (one_cons rfl one_nil))))))) rfl rfl rfl) fun _ => ?_
                        refine R.u 1 rfl <| R.nil ?_
                        refine R.mp (B' := [Res.row 52 (.slice (some ⟨b12, 0, none⟩) 1 1) ([§42] : List Note), Res.box b11 §19 39, Res.box b10 §5 39, Res.box b6 §35 52, Res.box b4 §4 39, Res.box b3 §85 30, Res.box b2 §12 33, Res.box b1 §85 30, Res.held w own]) (fun _ hw => hw.lendL 1 _ rfl rfl) ?_
                        have hz : sendR r p d slot rights = ((⟨§10.Writs, §10.Things, §10.Held, ((§10.Notes) ++ ([§42])), §10.NextWrit, §10.NextThing⟩ : Realm), 0) := by (rw [List.take_of_length_le (by omega)] at HC; subst HC; unfold sendR; (repeat' split) <;> first | rfl | (exfalso; omega) | (simp_all; done))
                        rw [hz]
                        exact R.w2 (z5, z6, z7, v4) [8] [1, 2, 3, 0] rfl Tryz.results52 (RV.cell 5 rfl rfl tAgg_30) (RV.tmp rfl) rfl rfl rfl (tup2 rfl (err0 rfl))
                      · refine Do.s (s.bs (l := ([§42] : List Note)) tSl_28 tZero_52 rfl rfl rfl rfl rfl rfl rfl) §101 rfl fun b13 => ?_
                        refine D.one (i := 2) §39 rfl ?_
                        refine Do.s (B' := (fun bz0_ : Value => [Res.row 52 bz0_ ((§10.Notes) : List Note), Res.row 52 (.slice (some ⟨b13, 0, none⟩) 1 1) ([§42] : List Note), Res.box b11 §19 39, Res.box b10 §5 39, Res.box b6 §35 52, Res.box b4 §4 39, Res.box b3 §0 30, Res.box b2 §12 33, Res.box b1 §49 30, Res.held w own])) (F' := (fun bz0_ : Value => §31)) (s.callV (B0 := []) (Br := [Res.row 52 (.slice (some ⟨b13, 0, none⟩) 1 1) ([§42] : List Note), Res.box b11 §19 39, Res.box b10 §5 39, Res.box b6 §35 52, Res.box b4 §4 39, Res.box b3 §0 30, Res.box b2 §12 33, Res.box b1 §49 30, Res.held w own]) (F0 := [Res.ls z8 (§10.Notes : List Note)]) [0, 1, 2, 3, 4, 5, 6, 7, 8] [3] §69 (fun bz0_ : Value => [Res.row 52 bz0_ ((§10.Notes) : List Note)]) §80 rfl rfl rfl eg_36 rfl rfl (fun w own hw H => cloneNote_any z8 (§10.Notes) w own H §27) rfl) (fun _ => §33) rfl fun z11 => ?_
                        refine D.one (i := 5) §39 rfl ?_
                        refine Do.s (s.app (l2 := [§42]) 0 _ rfl rfl rfl (fun _ => Wd.row 1 rfl) tApp_28 §52 §52 (fun _ => rfl) rfl) (fun _ => §33) rfl fun v5 => ?_
                        refine D.q (i := 6) rfl §39 §33 rfl §50 rfl <| ?_
                        refine D.one (i := 7) §39 rfl ?_
                        refine Do.s (s.stV (us := [v5]) (cs' := §86) 8 _ rfl rfl rfl §47 (.inr ⟨tOne_28, rfl⟩) §37 rfl rfl rfl) (fun _ => §33) rfl fun _ => ?_
                        refine D.done §39 <| ?_
                        refine R.reg rfl <| R.q (q.ldS 8 rfl rfl tAgg_30) rfl <| ?_
                        refine R.s rfl (s.stV (us := §86) (cs' := §86) 6 _ rfl rfl rfl (fun _ _ => rfl) (.inl tAgg_30) §21 rfl rfl rfl) fun _ => ?_
                        refine R.u 1 rfl <| R.nil ?_
                        refine R.mp (B' := [Res.row 52 (.slice (some ⟨b13, 0, none⟩) 1 1) ([§42] : List Note), Res.box b11 §19 39, Res.box b10 §5 39, Res.box b6 §35 52, Res.box b4 §4 39, Res.box b3 §86 30, Res.box b2 §12 33, Res.box b1 §86 30, Res.held w own]) §77 ?_
                        have hz : sendR r p d slot rights = ((⟨§10.Writs, §10.Things, §10.Held, ((§10.Notes) ++ ([§42])), §10.NextWrit, §10.NextThing⟩ : Realm), 0) := by (rw [List.take_of_length_le (by omega)] at HC; subst HC; unfold sendR; (repeat' split) <;> first | rfl | (exfalso; omega) | (simp_all; done))
                        rw [hz]
                        exact R.w2 (z5, z6, z7, v5) [8] [1, 2, 3, 0] rfl Tryz.results52 (RV.cell 5 rfl rfl tAgg_30) (RV.tmp rfl) rfl rfl rfl (tup2 rfl (err0 rfl))
                    · refine Do.s (s.bs (l := ([§42] : List Note)) tSl_28 tZero_52 rfl rfl rfl rfl rfl rfl rfl) §101 rfl fun b14 => ?_
                      refine D.one (i := 1) §39 rfl ?_
                      refine Do.s (s.c (Qt.a (q.ld 7 rfl rfl tOne_28 rfl)) rfl) §101 rfl fun _ => ?_
                      refine D.one (i := 2) §39 rfl ?_
                      refine Do.s (B' := (fun bz0_ : Value => [Res.row 52 bz0_ ((§10.Notes) : List Note), Res.row 52 (.slice (some ⟨b14, 0, none⟩) 1 1) ([§42] : List Note), Res.box b11 §19 39, Res.box b10 §5 39, Res.box b6 §35 52, Res.box b4 §4 39, Res.box b3 §0 30, Res.box b2 §12 33, Res.box b1 §49 30, Res.held w own])) (F' := (fun bz0_ : Value => §31)) (s.callV (B0 := []) (Br := [Res.row 52 (.slice (some ⟨b14, 0, none⟩) 1 1) ([§42] : List Note), Res.box b11 §19 39, Res.box b10 §5 39, Res.box b6 §35 52, Res.box b4 §4 39, Res.box b3 §0 30, Res.box b2 §12 33, Res.box b1 §49 30, Res.held w own]) (F0 := [Res.ls z8 (§10.Notes : List Note)]) [0, 1, 2, 3, 4, 5, 6, 7, 8] [3] §69 (fun bz0_ : Value => [Res.row 52 bz0_ ((§10.Notes) : List Note)]) §80 rfl rfl rfl eg_36 rfl rfl (fun w own hw H => cloneNote_any z8 (§10.Notes) w own H §27) rfl) (fun _ => §33) rfl fun z12 => ?_
                      refine D.one (i := 5) §39 rfl ?_
                      refine Do.s (s.app (l2 := [§42]) 0 _ rfl rfl rfl (fun _ => Wd.row 1 rfl) tApp_28 §52 §52 (fun _ => rfl) rfl) (fun _ => §33) rfl fun v6 => ?_
                      refine D.q (i := 6) rfl §39 §33 rfl §50 rfl <| ?_
                      refine D.one (i := 7) §39 rfl ?_
                      refine Do.s (s.stV (us := [v6]) (cs' := §87) 8 _ rfl rfl rfl §47 (.inr ⟨tOne_28, rfl⟩) §37 rfl rfl rfl) (fun _ => §33) rfl fun _ => ?_
                      refine D.done §39 <| ?_
                      refine R.reg rfl <| R.q (q.ldS 8 rfl rfl tAgg_30) rfl <| ?_
                      refine R.s rfl (s.stV (us := §87) (cs' := §87) 6 _ rfl rfl rfl (fun _ _ => rfl) (.inl tAgg_30) §21 rfl rfl rfl) fun _ => ?_
                      refine R.u 1 rfl <| R.nil ?_
                      refine R.mp (B' := [Res.row 52 (.slice (some ⟨b14, 0, none⟩) 1 1) ([§42] : List Note), Res.box b11 §19 39, Res.box b10 §5 39, Res.box b6 §35 52, Res.box b4 §4 39, Res.box b3 §87 30, Res.box b2 §12 33, Res.box b1 §87 30, Res.held w own]) §77 ?_
                      have hz : sendR r p d slot rights = ((⟨§10.Writs, §10.Things, §10.Held, ((§10.Notes) ++ ([§42])), §10.NextWrit, §10.NextThing⟩ : Realm), 0) := by (rw [List.take_of_length_le (by omega)] at HC; subst HC; unfold sendR; (repeat' split) <;> first | rfl | (exfalso; omega) | (simp_all; done))
                      rw [hz]
                      exact R.w2 (z5, z6, z7, v6) [8] [1, 2, 3, 0] rfl Tryz.results52 (RV.cell 5 rfl rfl tAgg_30) (RV.tmp rfl) rfl rfl rfl (tup2 rfl (err0 rfl))
                  · refine R.q §41 rfl <| R.nil ?_
                    refine R.condT rfl rfl ?_
                    refine R.reg rfl <| R.q §24 rfl <| R.u 1 rfl <| ?_
                    refine R.s rfl (s.st (us := §0) (cs' := §0) 4 _ rfl rfl rfl rfl (.inl tAgg_30) rfl rfl rfl rfl) fun _ => ?_
                    refine R.u 1 rfl <| R.nil ?_
                    refine R.mp §28 ?_
                    refine R.mp §25 ?_
                    refine R.mp §29 ?_
                    refine R.mp §30 ?_
                    have hz : sendR r p d slot rights = (§22, (derived ((getR r §76).1) r.NextWrit rights 0).2) := by (rw [List.take_of_length_le (by omega)] at HC; subst HC; unfold sendR; (repeat' split) <;> first | rfl | (exfalso; omega) | (simp_all; done))
                    rw [hz]
                    exact R.w2 ((.slice none 0 0), (.slice none 0 0), (.slice none 0 0), (.slice none 0 0)) [7] [3, 2, 1, 0] rfl Tryz.results52 (RV.cell 4 rfl rfl tAgg_30) (RV.tmp rfl) rfl rfl rfl (tup2 rfl rfl)
              · refine R.q §41 rfl <| R.nil ?_
                refine R.condT rfl rfl ?_
                refine R.reg rfl <| R.q §24 rfl <| R.u 1 rfl <| ?_
                refine R.s rfl (s.st (us := §0) (cs' := §0) 3 _ rfl rfl rfl rfl (.inl tAgg_30) rfl rfl rfl rfl) fun _ => ?_
                refine R.u 1 rfl <| R.nil ?_
                refine R.mp §28 ?_
                refine R.mp §25 ?_
                refine R.mp §29 ?_
                refine R.mp §30 ?_
                have hz : sendR r p d slot rights = (§22, (getR r §76).2) := by (rw [List.take_of_length_le (by omega)] at HC; subst HC; unfold sendR; (repeat' split) <;> first | rfl | (exfalso; omega) | (simp_all; done))
                rw [hz]
                exact R.w2 ((.slice none 0 0), (.slice none 0 0), (.slice none 0 0), (.slice none 0 0)) [6] [3, 2, 1, 0] rfl Tryz.results52 (RV.cell 3 rfl rfl tAgg_30) (RV.tmp rfl) rfl rfl rfl (tup2 rfl rfl)
            · refine R.c (q.call eg_67 rfl rfl (fun w hw => (cv (congrArg Value.bool h7) (rightHas_any (§15.Rights) (4) w  (by omega) (by omega))))) rfl <| R.u 1 rfl <| R.nil ?_
              refine R.condT rfl rfl ?_
              refine R.reg rfl <| R.q §24 rfl <| R.q §79 rfl <| ?_
              refine R.s rfl §58 fun _ => ?_
              refine R.u 1 rfl <| R.nil ?_
              refine R.mp §28 ?_
              refine R.mp §25 ?_
              refine R.mp §29 ?_
              refine R.mp §30 ?_
              have hz : sendR r p d slot rights = (§22, 7) := by (rw [List.take_of_length_le (by omega)] at HC; subst HC; unfold sendR; (repeat' split) <;> first | rfl | (exfalso; omega) | (simp_all; done))
              rw [hz]
              exact R.w2 ((.slice none 0 0), (.slice none 0 0), (.slice none 0 0), (.slice none 0 0)) [5] [3, 2, 1, 0] rfl Tryz.results52 (RV.cell 2 rfl rfl tAgg_30) (RV.tmp rfl) rfl rfl rfl (tup2 rfl (errk (by decide) rfl))
  · refine R.q §41 rfl <| R.nil ?_
    refine R.condT rfl rfl ?_
    refine R.reg rfl <| R.q §24 rfl <| R.u 1 rfl <| ?_
    refine R.s rfl §26 fun _ => ?_
    refine R.u 1 rfl <| R.nil ?_
    refine R.mp §28 ?_
    refine R.mp §25 ?_
    refine R.mp §29 ?_
    refine R.mp §30 ?_
    have hz : sendR r p d slot rights = (§22, (mayR r p 2 2).2.2) := by (unfold sendR; (repeat' split) <;> first | rfl | (exfalso; omega) | (simp_all; done))
    rw [hz]
    exact R.w2 ((.slice none 0 0), (.slice none 0 0), (.slice none 0 0), (.slice none 0 0)) [4] [3, 2, 1, 0] rfl Tryz.results52 (RV.cell 1 rfl rfl tAgg_30) (RV.tmp rfl) rfl rfl rfl (tup2 rfl rfl)

theorem takeR_any (v_rW v_rT v_rH v_rN : Value) (r : Realm) (p : Place) (w : World) (own : List Nat) (H : Wd w (blks [] ++ own) ([] ++ §92) §6 w) (hk : Ok r) : Calls Tryz.prog 13 #[.agg #[v_rW, v_rT, v_rH, v_rN, .int .i64 r.NextWrit, .int .i64 r.NextThing], .agg #[.int .i64 p.Holder, .int .i64 p.Slot]] w fun e w' => ∃ z : Value × Value × Value × Value, e = .returned (.tuple #[.agg #[z.1, z.2.1, z.2.2.1, z.2.2.2, .int .i64 ((((takeR r p)).1).NextWrit), .int .i64 ((((takeR r p)).1).NextThing)], .agg #[.int .i64 ((((takeR r p)).2.1).Port), .string ((((takeR r p)).2.1).Data), .int .i64 ((((takeR r p)).2.1).Badge), .int .i64 ((((takeR r p)).2.1).Writ)], .int .i64 (((takeR r p)).2.2.1), errv (((takeR r p)).2.2.2)]) ∧ Wd w (blks [] ++ own) ([] ++ §92) [Res.ls z.1 ((((takeR r p)).1).Writs : List Writ), Res.ls z.2.1 ((((takeR r p)).1).Things : List Thing), Res.ls z.2.2.1 ((((takeR r p)).1).Held : List Held), Res.ls z.2.2.2 ((((takeR r p)).1).Notes : List Note)] w' := by
  have m_r_Writs := H.lenF 0 rfl
  have m_r_Things := H.lenF 1 rfl
  have m_r_Held := H.lenF 2 rfl
  have m_r_Notes := H.lenF 3 rfl
  have bw := hk.wl; have bt := hk.tl; have bh := hk.hl; have bn := hk.nl; have bw0 := hk.w0; have bw1 := hk.w1; have bt0 := hk.t0; have bt1 := hk.t1
  refine R.enterN (n := 74) (vs := §60) (B := §92) [(0, .agg #[v_rW, v_rT, v_rH, v_rN, .int .i64 r.NextWrit, .int .i64 r.NextThing]), (1, .agg #[.int .i64 p.Holder, .int .i64 p.Slot])] Tryz.func13 rfl rfl rfl rfl H ?_
  refine R.reg rfl <| ?_
  refine R.s rfl §102 fun b1 => ?_
  refine R.s rfl §103 fun b2 => ?_
  refine R.s rfl §106 fun b3 => ?_
  refine R.s rfl (s.alloc (cs := §20) tZero_52 rfl rfl) fun b4 => ?_
  refine R.u 2 rfl <| R.nil ?_
  refine R.reg rfl <| R.q (q.ldS 3 rfl rfl tAgg_30) rfl <| R.q (q.ldS 2 rfl rfl tAgg_33) rfl <| R.c (q.call eg_29 rfl rfl (fun w hw => (mayR_any _ _ _ _ (r) (p) (2) (1) w §68 §83 §74 (§105 w hw) §32 (by omega)))) rfl <| R.u 4 rfl <| ?_
  refine R.s rfl §51 fun b5 => ?_
  refine R.s rfl (s.st (us := §9) (cs' := §9) 0 _ rfl rfl rfl rfl (.inl tAgg_39) rfl rfl rfl rfl) fun _ => ?_
  refine R.u 2 rfl <| R.nil ?_
  refine R.reg rfl <| R.u 1 rfl <| ?_
  by_cases h1 : (mayR r p 2 1).2.2 = 0
  · refine R.q §40 rfl <| R.nil ?_
    refine R.condF rfl rfl ?_
    refine R.reg rfl <| R.q §50 rfl <| R.q (q.ld 4 rfl rfl tOne_28 rfl) rfl <| R.q (q.mkf (cap := [.pointer (some ⟨b5, 0, none⟩)]) rfl rfl) rfl <| ?_
    rcases idx_cases (fun (t : Note) => t.Port == ((mayR r p 2 1).1).Thing) r.Notes with ⟨c1f, c1n⟩ | ⟨c1k, c1x, c1f, c1h, c1e, c1b, c1B⟩
    · refine R.c §82 rfl <| R.u 1 rfl <| R.nil ?_
      refine R.reg rfl <| R.u 1 rfl <| R.q (q.lss (b := true) rfl rfl (by decide)) rfl <| R.nil ?_
      refine R.condT rfl rfl ?_
      refine R.reg rfl <| R.q §24 rfl <| R.q (q.build (cs := §20) tB_52 rfl rfl) rfl <| R.q §79 rfl <| ?_
      refine R.s rfl §58 fun _ => ?_
      refine R.s rfl (s.st (us := §20) (cs' := §20) 1 _ rfl rfl rfl rfl (.inl tAgg_52) rfl rfl rfl rfl) fun _ => ?_
      refine R.u 2 rfl <| R.nil ?_
      refine R.mp §28 ?_
      refine R.mp §25 ?_
      refine R.mp §29 ?_
      refine R.mp §30 ?_
      have hz : takeR r p = (§22, (⟨0, ⟨#[]⟩, 0, 0⟩ : Note), 0, 5) := by (unfold takeR; first | (rw [if_neg §32]; first | done | rfl) | (rw [if_pos §32, c1f, show decide ((0 : Int) ≤ -1) = false from rfl]; cases r.Notes[(-1 : Int).toNat]? <;> rfl) | (rw [if_pos §32, c1f, Int.toNat_natCast, c1h, decide_eq_true (by omega)]; dsimp only; (repeat' split) <;> first | rfl | (exfalso; omega)))
      rw [hz]
      exact R.w4 ((.slice none 0 0), (.slice none 0 0), (.slice none 0 0), (.slice none 0 0)) [5] [3, 2, 1, 0] rfl Tryz.results13 (RV.cell 2 rfl rfl tAgg_30) (RV.cell 1 rfl rfl tAgg_52) (RV.tmp rfl) (RV.tmp rfl) rfl rfl rfl (tup4 rfl rfl rfl (errk (by decide) rfl))
    · refine R.c §82 rfl <| R.u 1 rfl <| R.nil ?_
      refine R.reg rfl <| R.u 1 rfl <| R.q (q.lss rfl rfl (decide_eq_false (by omega))) rfl <| R.nil ?_
      refine R.condF rfl rfl ?_
      refine R.reg rfl <| R.q §50 rfl <| R.q (q.ld 4 rfl rfl tOne_28 rfl) rfl <| R.u 1 rfl <| R.q (q.idx (i := c1k) §105 rfl rfl tSl_28 rfl c1h) rfl <| R.q (q.ldES (ds := §14) §105 c1h rfl tAgg_52 rfl) rfl <| ?_
      refine R.s rfl (s.alloc (cs := §20) tZero_52 rfl rfl) fun b6 => ?_
      refine R.s rfl (s.st (us := §14) (cs' := §14) 0 _ rfl rfl rfl rfl (.inl tAgg_52) rfl rfl rfl rfl) fun _ => ?_
      refine R.nil ?_
      refine R.reg rfl <| R.u 1 rfl <| R.nil ?_
      refine R.reg rfl <| R.q (q.fld (off' := 3) rfl tFld_52_3 rfl) rfl <| R.q (q.ld 0 rfl rfl tOne_3 rfl) rfl <| ?_
      by_cases h2 : 0 < c1x.Writ
      · refine R.q §64 rfl <| R.nil ?_
        refine R.condT rfl rfl ?_
        refine R.reg rfl <| R.q (q.fld (off' := 2) rfl tFld_30_2 rfl) rfl <| R.q (q.ld 5 rfl rfl tOne_27 rfl) rfl <| R.q (q.fld (off' := 0) rfl tFld_33_0 rfl) rfl <| R.q (q.ld 4 rfl rfl tOne_3 rfl) rfl <| R.c (q.call eg_33 rfl rfl (fun w hw => (free_any _ (r.Held) (p.Holder) w §74 §27))) rfl <| R.u 1 rfl <| R.nil ?_
        refine R.reg rfl <| R.u 1 rfl <| ?_
        by_cases h3 : freeH r.Held p.Holder < 0
        · refine R.q (q.lss rfl rfl (decide_eq_true (by omega))) rfl <| R.nil ?_
          refine R.condT rfl rfl ?_
          refine R.reg rfl <| R.q §24 rfl <| R.q (q.build (cs := §20) tB_52 rfl rfl) rfl <| R.q §79 rfl <| ?_
          refine R.s rfl (s.st (us := §0) (cs' := §0) 3 _ rfl rfl rfl rfl (.inl tAgg_30) rfl rfl rfl rfl) fun _ => ?_
          refine R.s rfl (s.st (us := §20) (cs' := §20) 2 _ rfl rfl rfl rfl (.inl tAgg_52) rfl rfl rfl rfl) fun _ => ?_
          refine R.u 2 rfl <| R.nil ?_
          refine R.mp §28 ?_
          refine R.mp §25 ?_
          refine R.mp §29 ?_
          refine R.mp §30 ?_
          have hz : takeR r p = (§22, (⟨0, ⟨#[]⟩, 0, 0⟩ : Note), 0, 9) := by (unfold takeR; first | (rw [if_neg §32]; first | done | rfl) | (rw [if_pos §32, c1f, show decide ((0 : Int) ≤ -1) = false from rfl]; cases r.Notes[(-1 : Int).toNat]? <;> rfl) | (rw [if_pos §32, c1f, Int.toNat_natCast, c1h, decide_eq_true (by omega)]; dsimp only; (repeat' split) <;> first | rfl | (exfalso; omega)))
          rw [hz]
          exact R.w4 ((.slice none 0 0), (.slice none 0 0), (.slice none 0 0), (.slice none 0 0)) [6] [3, 2, 1, 0] rfl Tryz.results13 (RV.cell 3 rfl rfl tAgg_30) (RV.cell 2 rfl rfl tAgg_52) (RV.tmp rfl) (RV.tmp rfl) rfl rfl rfl (tup4 rfl rfl rfl (errk (by decide) rfl))
        · refine R.q (q.lss rfl rfl (decide_eq_false (by omega))) rfl <| R.nil ?_
          refine R.condF rfl rfl ?_
          refine R.reg rfl <| R.q (q.fld (off' := 2) rfl tFld_30_2 rfl) rfl <| R.q (q.ld 5 rfl rfl tOne_27 rfl) rfl <| R.q (q.fld (off' := 0) rfl tFld_33_0 rfl) rfl <| R.q (q.ld 4 rfl rfl tOne_3 rfl) rfl <| R.u 1 rfl <| R.q (q.build (cs := [.int .i64 p.Holder, .int .i64 (freeH r.Held p.Holder)]) tB_33 rfl rfl) rfl <| R.q (q.fld (off' := 3) rfl tFld_52_3 rfl) rfl <| R.q (q.ld 0 rfl rfl tOne_3 rfl) rfl <| ?_
          refine R.s (B' := (fun bz0_ : Value => [Res.row 93 bz0_ ((putH r.Held §65 c1x.Writ) : List Held), Res.box b6 §14 52, Res.box b5 §9 39, Res.box b4 §20 52, Res.box b3 §0 30, Res.box b2 §12 33, Res.box b1 §11 30, Res.held w own])) (F' := §88) rfl (s.callV (B0 := []) (Br := §89) (F0 := [Res.ls v_rH (r.Held : List Held)]) [0, 1, 2, 3, 4, 5, 6] [2] §69 (fun bz0_ : Value => [Res.row 93 bz0_ ((putH r.Held §65 c1x.Writ) : List Held)]) §80 rfl rfl rfl eg_34 rfl rfl (fun w own hw H => put_any v_rH (r.Held) (§65) (c1x.Writ) w own H §27) rfl) fun z1 => ?_
          refine R.q (q.fld (off' := 2) rfl tFld_30_2 rfl) rfl <| ?_
          refine R.s rfl (s.stV (us := [z1]) (cs' := §100) 6 _ rfl rfl rfl §47 (.inr ⟨tOne_27, rfl⟩) §37 rfl rfl rfl) fun _ => ?_
          refine R.nil ?_
          refine R.reg rfl <| R.q §50 rfl <| R.q (q.ld 6 rfl rfl tOne_28 rfl) rfl <| ?_
          refine R.s (B' := (fun bz0_ : Value => [Res.row 52 bz0_ (r.Notes : List Note), Res.row 93 z1 (putH r.Held §65 c1x.Writ : List Held), Res.box b6 §14 52, Res.box b5 §9 39, Res.box b4 §20 52, Res.box b3 §0 30, Res.box b2 §12 33, Res.box b1 §100 30, Res.held w own])) (F' := §88) rfl (s.callV (B0 := []) (Br := [Res.row 93 z1 (putH r.Held §65 c1x.Writ : List Held), Res.box b6 §14 52, Res.box b5 §9 39, Res.box b4 §20 52, Res.box b3 §0 30, Res.box b2 §12 33, Res.box b1 §100 30, Res.held w own]) (F0 := [Res.ls v_rN (r.Notes : List Note)]) [0, 1, 2, 3, 4, 5, 6, 7] [3] §69 §108 §80 rfl rfl rfl eg_36 rfl rfl §109 rfl) fun z2 => ?_
          refine R.u 2 rfl <| R.q (q.add (r := ((c1k + 1 : Nat) : Int)) rfl rfl (wr (by omega))) rfl <| ?_
          refine R.s (B' := (fun bz0_ : Value => [Res.row 52 bz0_ ((r.Notes.take c1k ++ r.Notes.drop (c1k + 1)) : List Note), Res.row 93 z1 (putH r.Held §65 c1x.Writ : List Held), Res.box b6 §14 52, Res.box b5 §9 39, Res.box b4 §20 52, Res.box b3 §0 30, Res.box b2 §12 33, Res.box b1 §100 30, Res.held w own])) (F' := §88) rfl (s.callV (B0 := [Res.row 52 z2 (r.Notes : List Note)]) (Br := [Res.row 93 z1 (putH r.Held §65 c1x.Writ : List Held), Res.box b6 §14 52, Res.box b5 §9 39, Res.box b4 §20 52, Res.box b3 §0 30, Res.box b2 §12 33, Res.box b1 §100 30, Res.held w own]) (F0 := []) [0, 1, 2, 3, 4, 5, 6, 7, 8] [] §69 (fun bz0_ : Value => [Res.row 52 bz0_ ((r.Notes.take c1k ++ r.Notes.drop (c1k + 1)) : List Note)]) §80 rfl rfl rfl eg_35 rfl rfl (fun w own hw H => deleteNote_any z2 (r.Notes) (c1k) ((c1k + 1)) w own H (by omega)) rfl) fun z3 => ?_
          refine R.q §50 rfl <| ?_
          refine R.s rfl (s.stV (us := [z3]) (cs' := §56) 7 _ rfl rfl rfl §47 (.inr ⟨tOne_28, rfl⟩) §37 rfl rfl rfl) fun _ => ?_
          refine R.nil ?_
          refine R.regD (fuel := 7) (Wd w (blks [] ++ own) [Res.row 52 z3 (r.Notes.take c1k ++ r.Notes.drop (c1k + 1) : List Note), Res.row 93 z1 (putH r.Held §65 c1x.Writ : List Held), Res.box b6 §14 52, Res.box b5 §9 39, Res.box b2 §12 33, Res.box b1 §56 30, Res.held w own] §6) rfl mixed rfl ?_
          refine D.q (i := 0) rfl §39 §61 rfl (q.ldS 5 rfl rfl tAgg_30) rfl <| D.q (i := 1) rfl §39 §61 rfl (q.ldS 2 rfl rfl tAgg_52) rfl <| D.q (i := 2) rfl §39 §61 rfl (q.mv rfl) rfl <| ?_
          refine D.one (i := 3) §39 rfl ?_
          refine Do.s (s.stV (us := §56) (cs' := §56) 5 _ rfl rfl rfl (fun _ _ => rfl) (.inl tAgg_30) (fun w hw => (one_cons (Sl.one §68) (one_cons (Sl.one §83) (one_cons (Sl.one §75) (one_cons (Sl.one ((fun _ => Wd.row 0 rfl) w hw)) (one_cons rfl (one_cons rfl one_nil))))))) rfl rfl rfl) (fun _ => §61) rfl fun _ => ?_
          refine D.one (i := 4) §39 rfl ?_
          refine Do.s (s.st (us := §14) (cs' := §14) 4 _ rfl rfl rfl rfl (.inl tAgg_52) rfl rfl rfl rfl) (fun _ => §61) rfl fun _ => ?_
          refine D.q (i := 5) rfl §39 §61 rfl (q.as rfl) rfl <| D.q (i := 6) rfl §39 §61 rfl (q.as rfl) rfl <| D.done §39 <| ?_
          refine R.mp (B' := [Res.row 52 z3 (r.Notes.take c1k ++ r.Notes.drop (c1k + 1) : List Note), Res.box b6 §14 52, Res.box b5 §9 39, Res.box b4 §14 52, Res.box b3 §56 30, Res.box b2 §12 33, Res.box b1 §56 30, Res.held w own]) (fun _ hw => hw.lendL 1 _ rfl rfl) ?_
          refine R.mp (B' := [Res.box b6 §14 52, Res.box b5 §9 39, Res.box b4 §14 52, Res.box b3 §56 30, Res.box b2 §12 33, Res.box b1 §56 30, Res.held w own]) §77 ?_
          have hz : takeR r p = ((⟨r.Writs, r.Things, putH r.Held §65 c1x.Writ, r.Notes.take c1k ++ r.Notes.drop (c1k + 1), r.NextWrit, r.NextThing⟩ : Realm), c1x, freeH r.Held p.Holder, 0) := by (unfold takeR; first | (rw [if_neg §32]; first | done | rfl) | (rw [if_pos §32, c1f, show decide ((0 : Int) ≤ -1) = false from rfl]; cases r.Notes[(-1 : Int).toNat]? <;> rfl) | (rw [if_pos §32, c1f, Int.toNat_natCast, c1h, decide_eq_true (by omega)]; dsimp only; (repeat' split) <;> first | rfl | (exfalso; omega)))
          rw [hz]
          exact R.w4 (v_rW, v_rT, z1, z3) [6] [2, 3, 1, 0] rfl Tryz.results13 (RV.cell 3 rfl rfl tAgg_30) (RV.cell 2 rfl rfl tAgg_52) (RV.tmp rfl) (RV.tmp rfl) rfl rfl rfl (tup4 rfl rfl rfl (err0 rfl))
      · refine R.q §63 rfl <| R.nil ?_
        refine R.condF rfl rfl ?_
        refine R.reg rfl <| R.q §50 rfl <| R.q (q.ld 5 rfl rfl tOne_28 rfl) rfl <| ?_
        refine R.s (B' := (fun bz0_ : Value => [Res.row 52 bz0_ (r.Notes : List Note), Res.box b6 §14 52, Res.box b5 §9 39, Res.box b4 §20 52, Res.box b3 §0 30, Res.box b2 §12 33, Res.box b1 §11 30, Res.held w own])) (F' := §88) rfl (s.callV (B0 := []) (Br := §89) (F0 := [Res.ls v_rN (r.Notes : List Note)]) [0, 1, 2, 3, 4, 5, 6] [3] §69 §108 §80 rfl rfl rfl eg_36 rfl rfl §109 rfl) fun z4 => ?_
        refine R.u 2 rfl <| R.q (q.add (r := ((c1k + 1 : Nat) : Int)) rfl rfl (wr (by omega))) rfl <| ?_
        refine R.s (B' := (fun bz0_ : Value => [Res.row 52 bz0_ ((r.Notes.take c1k ++ r.Notes.drop (c1k + 1)) : List Note), Res.box b6 §14 52, Res.box b5 §9 39, Res.box b4 §20 52, Res.box b3 §0 30, Res.box b2 §12 33, Res.box b1 §11 30, Res.held w own])) (F' := §88) rfl (s.callV (B0 := [Res.row 52 z4 (r.Notes : List Note)]) (Br := §89) (F0 := []) [0, 1, 2, 3, 4, 5, 6, 7] [] §69 (fun bz0_ : Value => [Res.row 52 bz0_ ((r.Notes.take c1k ++ r.Notes.drop (c1k + 1)) : List Note)]) §80 rfl rfl rfl eg_35 rfl rfl (fun w own hw H => deleteNote_any z4 (r.Notes) (c1k) ((c1k + 1)) w own H (by omega)) rfl) fun z5 => ?_
        refine R.q §50 rfl <| ?_
        refine R.s rfl (s.stV (us := [z5]) (cs' := §71) 6 _ rfl rfl rfl §47 (.inr ⟨tOne_28, rfl⟩) §37 rfl rfl rfl) fun _ => ?_
        refine R.nil ?_
        refine R.regD (fuel := 7) (Wd w (blks [] ++ own) [Res.row 52 z5 (r.Notes.take c1k ++ r.Notes.drop (c1k + 1) : List Note), Res.box b6 §14 52, Res.box b5 §9 39, Res.box b2 §12 33, Res.box b1 §71 30, Res.held w own] §6) rfl mixed rfl ?_
        refine D.q (i := 0) rfl §39 §66 rfl (q.ldS 4 rfl rfl tAgg_30) rfl <| D.q (i := 1) rfl §39 §66 rfl (q.ldS 1 rfl rfl tAgg_52) rfl <| D.q (i := 2) rfl §39 §66 rfl (q.mv rfl) rfl <| ?_
        refine D.one (i := 3) §39 rfl ?_
        refine Do.s (s.stV (us := §71) (cs' := §71) 4 _ rfl rfl rfl (fun _ _ => rfl) (.inl tAgg_30) §21 rfl rfl rfl) (fun _ => §66) rfl fun _ => ?_
        refine D.one (i := 4) §39 rfl ?_
        refine Do.s (s.st (us := §14) (cs' := §14) 3 _ rfl rfl rfl rfl (.inl tAgg_52) rfl rfl rfl rfl) (fun _ => §66) rfl fun _ => ?_
        refine D.q (i := 5) rfl §39 §66 rfl (q.as rfl) rfl <| D.q (i := 6) rfl §39 §66 rfl (q.as rfl) rfl <| D.done §39 <| ?_
        refine R.mp (B' := [Res.box b6 §14 52, Res.box b5 §9 39, Res.box b4 §14 52, Res.box b3 §71 30, Res.box b2 §12 33, Res.box b1 §71 30, Res.held w own]) §77 ?_
        have hz : takeR r p = ((⟨r.Writs, r.Things, r.Held, r.Notes.take c1k ++ r.Notes.drop (c1k + 1), r.NextWrit, r.NextThing⟩ : Realm), c1x, -1, 0) := by (unfold takeR; first | (rw [if_neg §32]; first | done | rfl) | (rw [if_pos §32, c1f, show decide ((0 : Int) ≤ -1) = false from rfl]; cases r.Notes[(-1 : Int).toNat]? <;> rfl) | (rw [if_pos §32, c1f, Int.toNat_natCast, c1h, decide_eq_true (by omega)]; dsimp only; (repeat' split) <;> first | rfl | (exfalso; omega)))
        rw [hz]
        exact R.w4 (v_rW, v_rT, v_rH, z5) [6] [1, 2, 3, 0] rfl Tryz.results13 (RV.cell 3 rfl rfl tAgg_30) (RV.cell 2 rfl rfl tAgg_52) (RV.tmp rfl) (RV.tmp rfl) rfl rfl rfl (tup4 rfl rfl rfl (err0 rfl))
  · refine R.q §41 rfl <| R.nil ?_
    refine R.condT rfl rfl ?_
    refine R.reg rfl <| R.q §24 rfl <| R.q (q.build (cs := §20) tB_52 rfl rfl) rfl <| R.u 1 rfl <| ?_
    refine R.s rfl §58 fun _ => ?_
    refine R.s rfl (s.st (us := §20) (cs' := §20) 1 _ rfl rfl rfl rfl (.inl tAgg_52) rfl rfl rfl rfl) fun _ => ?_
    refine R.u 2 rfl <| R.nil ?_
    refine R.mp §28 ?_
    refine R.mp §25 ?_
    refine R.mp §29 ?_
    refine R.mp §30 ?_
    have hz : takeR r p = (§22, (⟨0, ⟨#[]⟩, 0, 0⟩ : Note), 0, (mayR r p 2 1).2.2) := by (unfold takeR; first | (rw [if_neg §32]; first | done | rfl) | (rw [if_pos §32, c1f, show decide ((0 : Int) ≤ -1) = false from rfl]; cases r.Notes[(-1 : Int).toNat]? <;> rfl) | (rw [if_pos §32, c1f, Int.toNat_natCast, c1h, decide_eq_true (by omega)]; dsimp only; (repeat' split) <;> first | rfl | (exfalso; omega)))
    rw [hz]
    exact R.w4 ((.slice none 0 0), (.slice none 0 0), (.slice none 0 0), (.slice none 0 0)) [5] [3, 2, 1, 0] rfl Tryz.results13 (RV.cell 2 rfl rfl tAgg_30) (RV.cell 1 rfl rfl tAgg_52) (RV.tmp rfl) (RV.tmp rfl) rfl rfl rfl (tup4 rfl rfl rfl rfl)

end Go.Proofs.YtpipachmngdegaaGreat
end
