import Derived.Test.YtpipachmngdegaaGreatRealmSaysProofG46
section
/-
  The walks of chapter 5: what the document does with writs: notes.
-/
namespace Go.Proofs.YtpipachmngdegaaGreat
open Go Go.RowKit
set_option linter.unusedVariables false
set_option linter.unusedSimpArgs false
set_option maxRecDepth 100000
set_option hygiene false
local macro:max "§0" : term => `(((derived ((getR r (⟨p.Holder, slot⟩ : Place)).1) r.NextWrit rights 0).1))
local macro:max "§1" : term => `([.int .i64 (((mayR r p 2 1).1).ID), .int .i64 (((mayR r p 2 1).1).Thing), .int .i64 (((mayR r p 2 1).1).Rights), .int .i64 (((mayR r p 2 1).1).Badge), .int .i64 (((mayR r p 2 1).1).From)])
local macro:max "§2" : term => `([.int .i64 x1.Port, .string x1.Data, .int .i64 x1.Badge, .int .i64 x1.Writ])
local macro:max "§3" : term => `([.slice none 0 0, .slice none 0 0, .slice none 0 0, .slice none 0 0, .int .i64 0, .int .i64 0])
local macro:max "§4" : term => `([.int .i64 (((getR r (⟨p.Holder, slot⟩ : Place)).1).ID), .int .i64 (((getR r (⟨p.Holder, slot⟩ : Place)).1).Thing), .int .i64 (((getR r (⟨p.Holder, slot⟩ : Place)).1).Rights), .int .i64 (((getR r (⟨p.Holder, slot⟩ : Place)).1).Badge), .int .i64 (((getR r (⟨p.Holder, slot⟩ : Place)).1).From)])
local macro:max "§5" : term => `([.int .i64 (((mayR r p 2 2).1).ID), .int .i64 (((mayR r p 2 2).1).Thing), .int .i64 (((mayR r p 2 2).1).Rights), .int .i64 (((mayR r p 2 2).1).Badge), .int .i64 (((mayR r p 2 2).1).From)])
local macro:max "§6" : term => `((by first | omega | (simp; omega) | (simp [addW]; omega) | (dsimp only [addW]; omega)))
local macro:max "§7" : term => `([.int .i64 p.Holder, .int .i64 p.Slot])
local macro:max "§8" : term => `([Res.ls v_rW (r.Writs : List Writ), Res.ls v_rT (r.Things : List Thing), Res.ls v_rH (r.Held : List Held), Res.ls v_rN (r.Notes : List Note)])
local macro:max "§9" : term => `((fun _ => Wd.pik [0, 1, 2, 3, 4, 5, 6, 9, 10, 11] [0, 1, 2, 3, 4] rfl rfl rfl))
local macro:max "§10" : term => `((fun _ => Wd.pik [0, 1, 2, 3, 4, 5, 6, 9, 10, 11] [0, 1, 2, 3] rfl rfl rfl))
local macro:max "§11" : term => `([.int .i64 (((mayR r p 2 2).1).Thing), .string d, .int .i64 (((mayR r p 2 2).1).Badge), .int .i64 0])
local macro:max "§12" : term => `([.int .i64 (§0.ID), .int .i64 (§0.Thing), .int .i64 (§0.Rights), .int .i64 (§0.Badge), .int .i64 (§0.From)])
local macro:max "§13" : term => `((by kernel_rfl))
local macro:max "§14" : term => `([.int .i64 0, .string (⟨#[]⟩), .int .i64 0, .int .i64 0])
local macro:max "§15" : term => `((fun _ => Wd.pik [1, 2, 3, 4, 5, 6, 7, 8, 9, 11] [0, 1, 2, 3, 4] rfl rfl rfl))
local macro:max "§16" : term => `((fun _ => Wd.pik [1, 2, 3, 4, 5, 6, 7, 8, 9, 11] [0, 1, 2, 3] rfl rfl rfl))
local macro:max "§17" : term => `((fun _ => Wd.pik [0, 1, 2, 3, 4, 5, 6, 7, 8, 10] [0, 1, 2, 3, 4] rfl rfl rfl))
local macro:max "§18" : term => `([Res.ls z3 (r.Held : List Held), Res.ls v_rW (r.Writs : List Writ), Res.ls v_rT (r.Things : List Thing), Res.ls v_rH (r.Held : List Held), Res.ls v_rN (r.Notes : List Note)])
local macro:max "§19" : term => `((fun _ => Wd.pik [0, 1, 2, 3, 4, 5, 6, 7, 8, 10] [0, 1, 2, 3] rfl rfl rfl))
local macro:max "§20" : term => `([z5, z6, z7, v2, .int .i64 ((addW r §0).NextWrit), .int .i64 ((addW r §0).NextThing)])
local macro:max "§21" : term => `((s.app (l2 := (r.Notes.drop (k + 1))) 0 _ rfl rfl rfl (fun w hw => Sl.from ((fun _ => Wd.row 5 rfl) w hw) (by omega)) tApp_28 §6 §6 (fun _ => rfl) rfl))
local macro:max "§22" : term => `([z1, z2, z3, z4, .int .i64 r.NextWrit, .int .i64 r.NextThing])
local macro:max "§23" : term => `(((mayR r p 2 2).1))
local macro:max "§24" : term => `((⟨p.Holder, freeH r.Held p.Holder⟩ : Place))
local macro:max "§25" : term => `([z1, z2, z3, v10, .int .i64 r.NextWrit, .int .i64 r.NextThing])
local macro:max "§26" : term => `([z1, z2, z3, v12, .int .i64 r.NextWrit, .int .i64 r.NextThing])
local macro:max "§27" : term => `([z1, z2, z5, v2, .int .i64 r.NextWrit, .int .i64 r.NextThing])
local macro:max "§28" : term => `([z1, z2, z5, v4, .int .i64 r.NextWrit, .int .i64 r.NextThing])
local macro:max "§29" : term => `([z1, z2, z5, v6, .int .i64 r.NextWrit, .int .i64 r.NextThing])
local macro:max "§30" : term => `([z1, z2, z3, v8, .int .i64 r.NextWrit, .int .i64 r.NextThing])
local macro:max "§31" : term => `((s.app0 (l2 := (r.Notes.take k)) rfl rfl (fun w hw => Sl.to ((fun _ => Wd.row 4 rfl) w hw) (by omega)) tApp_28 §6 §6 rfl))
local macro:max "§32" : term => `((q.fld (off' := 3) rfl tFld_30_3 rfl))
local macro:max "§33" : term => `(((fun _ => Wd.row 0 rfl) w hw))
local macro:max "§34" : term => `([z1, z2, z3, v1, .int .i64 r.NextWrit, .int .i64 r.NextThing])
local macro:max "§35" : term => `((q.sfrom (i := (k + 1)) (fun _ => Wd.row 4 rfl) rfl rfl tSl_28 rfl (by first | omega | (simp; omega))))
local macro:max "§36" : term => `((fun w hw => (one_cons (Sl.one §33) (one_cons (Sl.one ((fun _ => Wd.row 1 rfl) w hw)) (one_cons (Sl.one ((fun _ => Wd.row 2 rfl) w hw)) (one_cons (Sl.one ((fun _ => Wd.row 3 rfl) w hw)) (one_cons rfl (one_cons rfl one_nil))))))))
local macro:max "§37" : term => `((fun w hw => (one_cons (Sl.one ((fun _ => Wd.row 3 rfl) w hw)) (one_cons (Sl.one ((fun _ => Wd.row 4 rfl) w hw)) (one_cons (Sl.one ((fun _ => Wd.row 1 rfl) w hw)) (one_cons (Sl.one §33) (one_cons rfl (one_cons rfl one_nil))))))))
local macro:max "§38" : term => `((fun w hw => (one_cons (Sl.one ((fun _ => Wd.row 2 rfl) w hw)) (one_cons (Sl.one ((fun _ => Wd.row 3 rfl) w hw)) (one_cons (Sl.one ((fun _ => Wd.row 4 rfl) w hw)) (one_cons (Sl.one §33) (one_cons rfl (one_cons rfl one_nil))))))))
local macro:max "§39" : term => `((⟨§23.Thing, d, §23.Badge, §0.ID⟩ : Note))
local macro:max "§40" : term => `((s.st (us := §2) (cs' := §2) 7 _ rfl rfl rfl rfl (.inl tAgg_52) rfl rfl rfl rfl))
local macro:max "§41" : term => `([v_rW, v_rT, v_rH, v_rN, .int .i64 r.NextWrit, .int .i64 r.NextThing])
local macro:max "§42" : term => `((fun _ hw => hw.lendL 2 _ rfl rfl))
local macro:max "§43" : term => `((⟨§23.Thing, d, §23.Badge, 0⟩ : Note))
local macro:max "§44" : term => `((q.sto (i := k) (fun _ => Wd.row 4 rfl) rfl rfl Tryz.underlying28 tInf_28 rfl (by first | omega | (simp; omega))))
local macro:max "§45" : term => `(((⟨r.Writs, r.Things, putH r.Held §24 x1.Writ, ((r.Notes.take k) ++ (r.Notes.drop (k + 1))), r.NextWrit, r.NextThing⟩ : Realm), x1, freeH r.Held p.Holder, 0))
local macro:max "§46" : term => `([.int .i64 (§23.Thing), .string d, .int .i64 (§23.Badge), .int .i64 (§0.ID)])
local macro:max "§47" : term => `((fun _ hw => hw.lendL 1 _ rfl rfl))
local macro:max "§48" : term => `((s.alloc (cs := [.int .i64 0, .int .i64 0, .int .i64 0, .int .i64 0, .int .i64 0]) tZero_39 rfl rfl))
local macro:max "§49" : term => `((s.c (Qt.a (q.ld 9 rfl rfl tOne_28 rfl)) rfl))
local macro:max "§50" : term => `((⟨[], [], [], [], 0, 0⟩ : Realm))
local macro:max "§51" : term => `((q.build (cs := §3) tB_30 rfl rfl))
local macro:max "§52" : term => `((fun _ hw => hw.nilL (α := Thing)))
local macro:max "§53" : term => `([Res.ls z4 (r.Notes : List Note), Res.ls z3 (r.Held : List Held), Res.ls z2 (r.Things : List Thing), Res.ls z1 (r.Writs : List Writ), Res.ls v_rW (r.Writs : List Writ), Res.ls v_rT (r.Things : List Thing), Res.ls v_rH (r.Held : List Held), Res.ls v_rN (r.Notes : List Note)])
local macro:max "§54" : term => `((fun _ hw => hw.nilL (α := Writ)))
local macro:max "§55" : term => `((fun _ hw => hw.nilL (α := Held)))
local macro:max "§56" : term => `((fun _ hw => hw.nilL (α := Note)))
local macro:max "§57" : term => `((fun w hw => (one_cons (Sl.one ((fun _ => Wd.row 1 rfl) w hw)) (one_cons (Sl.one ((fun _ => Wd.row 2 rfl) w hw)) (one_cons (Sl.one ((fun _ => Wd.row 3 rfl) w hw)) (one_cons (Sl.one ((fun _ => Wd.row 4 rfl) w hw)) (one_cons rfl (one_cons rfl one_nil))))))))
local macro:max "§58" : term => `((fun w hw => (one_cons (Sl.one §33) one_nil)))
local macro:max "§59" : term => `([Res.box b6 §2 52, Res.row 39 z1 (r.Writs : List Writ), Res.row 74 z2 (r.Things : List Thing), Res.row 52 z4 (r.Notes : List Note), Res.box b5 §1 39, Res.box b4 §14 52, Res.box b3 §3 30, Res.box b2 §7 33, Res.box b1 §22 30, Res.held w own])
local macro:max "§60" : term => `(((⟨r.Writs, r.Things, r.Held, ((r.Notes.take k) ++ (r.Notes.drop (k + 1))), r.NextWrit, r.NextThing⟩ : Realm), x1, -1, 0))
local macro:max "§61" : term => `((getR r (⟨p.Holder, slot⟩ : Place)))
local macro:max "§62" : term => `((q.gtr rfl rfl (decide_eq_false (by omega))))
local macro:max "§63" : term => `((q.gtr rfl rfl (decide_eq_true (by omega))))
local macro:max "§64" : term => `((q.add (r := ((k + 1 : Nat) : Int)) rfl rfl (wr (by omega))))

set_option maxRecDepth 100000 in
set_option maxHeartbeats 1000000 in
theorem sendD_any (v_rW v_rT v_rH v_rN : Value) (r : Realm) (p : Place) (d : ByteArray) (slot : Int) (rights : Int) (w : World) (own : List Nat) (H : Wd w (blks [] ++ own) ([] ++ [Res.held w own]) §8 w) (hk : Ok r) (hI : Inv r) : Calls Tryz.prog 59 #[.agg #[v_rW, v_rT, v_rH, v_rN, .int .i64 r.NextWrit, .int .i64 r.NextThing], .agg #[.int .i64 p.Holder, .int .i64 p.Slot], .string d, .int .i64 slot, .int .i64 rights] w fun e w' => ∃ z : Value × Value × Value × Value, e = .returned (.tuple #[.agg #[z.1, z.2.1, z.2.2.1, z.2.2.2, .int .i64 ((((sendR r p d slot rights)).1).NextWrit), .int .i64 ((((sendR r p d slot rights)).1).NextThing)], .int .i64 (((sendR r p d slot rights)).2)]) ∧ Wd w (blks [] ++ own) ([] ++ [Res.held w own]) [Res.ls z.1 ((((sendR r p d slot rights)).1).Writs : List Writ), Res.ls z.2.1 ((((sendR r p d slot rights)).1).Things : List Thing), Res.ls z.2.2.1 ((((sendR r p d slot rights)).1).Held : List Held), Res.ls z.2.2.2 ((((sendR r p d slot rights)).1).Notes : List Note)] w' := by
  have m_r_Writs := H.lenF 0 rfl
  have m_r_Things := H.lenF 1 rfl
  have m_r_Held := H.lenF 2 rfl
  have m_r_Notes := H.lenF 3 rfl
  have bw := hk.wl; have bt := hk.tl; have bh := hk.hl; have bn := hk.nl; have bw0 := hk.w0; have bw1 := hk.w1; have bt0 := hk.t0; have bt1 := hk.t1
  have mn0 := mayR_nonneg r p 2 2; have gn2 := getR_nonneg r (⟨p.Holder, slot⟩ : Place); have dc := derived_cases §61.1 r.NextWrit rights 0
  refine R.enterN (n := 113) (vs := [.agg #[v_rW, v_rT, v_rH, v_rN, .int .i64 r.NextWrit, .int .i64 r.NextThing], .agg #[.int .i64 p.Holder, .int .i64 p.Slot], .string d, .int .i64 slot, .int .i64 rights]) (B := [Res.held w own]) [(0, .agg #[v_rW, v_rT, v_rH, v_rN, .int .i64 r.NextWrit, .int .i64 r.NextThing]), (1, .agg #[.int .i64 p.Holder, .int .i64 p.Slot]), (2, .string d), (3, .int .i64 slot), (4, .int .i64 rights)] Tryz.func59 rfl rfl rfl rfl H ?_
  refine R.reg rfl <| ?_
  refine R.s rfl (s.box (cs := §41) rfl rfl rfl) fun b1 => ?_
  refine R.s rfl (s.box (cs := §7) rfl rfl rfl) fun b2 => ?_
  refine R.s rfl (s.alloc (cs := §3) tZero_30 rfl rfl) fun b3 => ?_
  refine R.u 1 rfl <| R.nil ?_
  refine R.reg rfl <| R.q (q.ldS 2 rfl rfl tAgg_30) rfl <| R.q (q.ldS 1 rfl rfl tAgg_33) rfl <| R.c (q.call eg_30 rfl rfl (fun w hw => (mayD_any _ _ _ _ (r) (p) (2) (2) w ((fun _ => Wd.fls 0 rfl) w hw) ((fun _ => Wd.fls 1 rfl) w hw) ((fun _ => Wd.fls 2 rfl) w hw) ((fun _ => Wd.fls 3 rfl) w hw) (by assumption) (by assumption) (by omega)))) rfl <| R.u 4 rfl <| ?_
  refine R.s rfl §48 fun b4 => ?_
  refine R.s rfl (s.st (us := §5) (cs' := §5) 0 _ rfl rfl rfl rfl (.inl tAgg_39) rfl rfl rfl rfl) fun _ => ?_
  refine R.u 2 rfl <| R.nil ?_
  refine R.reg rfl <| R.u 1 rfl <| ?_
  by_cases h1 : 0 < (mayR r p 2 2).2.2
  · refine R.q §63 rfl <| R.nil ?_
    refine R.condT rfl rfl ?_
    refine R.reg rfl <| R.q §51 rfl <| R.u 1 rfl <| ?_
    refine R.s rfl (s.st (us := §3) (cs' := §3) 1 _ rfl rfl rfl rfl (.inl tAgg_30) rfl rfl rfl rfl) fun _ => ?_
    refine R.u 1 rfl <| R.nil ?_
    refine R.mp §54 ?_
    refine R.mp §52 ?_
    refine R.mp §55 ?_
    refine R.mp §56 ?_
    have hz : sendR r p d slot rights = (§50, (mayR r p 2 2).2.2) := by (unfold sendR; rw [if_neg (by omega)]; (try rfl))
    rw [hz]
    exact R.w2 ((.slice none 0 0), (.slice none 0 0), (.slice none 0 0), (.slice none 0 0)) [4] [3, 2, 1, 0] rfl Tryz.results59 (RV.cell 1 rfl rfl tAgg_30) (RV.tmp rfl) rfl rfl rfl (tup2 rfl rfl)
  · have mq : (mayR r p 2 2).2.2 = 0 := by omega
    have mz := mayR_zero mq; have mr := hk.get mz.1; rw [← mz.2.1] at mr
    refine R.q §62 rfl <| R.nil ?_
    refine R.condF rfl rfl ?_
    refine R.reg rfl <| R.u 1 rfl <| R.q (q.lenS rfl Tryz.underlying9) rfl <| ?_
    by_cases h2 : 8 < d.size
    · refine R.q §63 rfl <| R.nil ?_
      refine R.condT rfl rfl ?_
      refine R.reg rfl <| R.q §51 rfl <| ?_
      refine R.s rfl (s.st (us := §3) (cs' := §3) 1 _ rfl rfl rfl rfl (.inl tAgg_30) rfl rfl rfl rfl) fun _ => ?_
      refine R.u 1 rfl <| R.nil ?_
      refine R.mp §54 ?_
      refine R.mp §52 ?_
      refine R.mp §55 ?_
      refine R.mp §56 ?_
      have hz : sendR r p d slot rights = (§50, 2) := by (unfold sendR; rw [if_pos mq, if_pos (by omega)]; (try rfl))
      rw [hz]
      exact R.w2 ((.slice none 0 0), (.slice none 0 0), (.slice none 0 0), (.slice none 0 0)) [4] [3, 2, 1, 0] rfl Tryz.results59 (RV.cell 1 rfl rfl tAgg_30) (RV.tmp rfl) rfl rfl rfl (tup2 rfl rfl)
    · refine R.q §62 rfl <| R.nil ?_
      refine R.condF rfl rfl ?_
      refine R.reg rfl <| R.u 1 rfl <| R.nil ?_
      refine R.reg rfl <| R.u 1 rfl <| R.nil ?_
      refine R.loop (fun g_ : Nat × Nat => [(2, .string d), (3, .int .i64 slot), (4, .int .i64 rights), (5, .pointer (some ⟨b1, 0, none⟩)), (6, .pointer (some ⟨b2, 0, none⟩)), (10, .pointer (some ⟨b3, 0, none⟩)), (12, .pointer (some ⟨b4, 0, none⟩)), (15, .int .i64 (g_.2 : Int)), (16, .int .i64 (g_.1 : Int))]) (fun g_ : Nat × Nat => [Res.box b4 §5 39, Res.box b3 §3 30, Res.box b2 §7 33, Res.box b1 §41 30, Res.held w own]) (fun g_ : Nat × Nat => §8) (fun g_ : Nat × Nat => g_.1 ≤ r.Notes.length ∧ g_.2 = waitN (r.Notes.take g_.1) (mayR r p 2 2).1.Thing) (fun g_ : Nat × Nat => r.Notes.length - g_.1) (0, 0) rfl (by exact ⟨by omega, by simp [waitN]⟩) ⟨rfl, rfl, rfl, rfl, rfl, rfl, rfl, rfl, rfl, trivial⟩ (fun _ => Wd.pick [0, 1, 2, 3, 4] [0, 1, 2, 3] rfl rfl rfl) ?_
      rintro ⟨k, c⟩ ⟨hk1, HC⟩
      dsimp only at *
      have hc1 : c ≤ k := by rw [HC]; exact wait_le
      refine R.reg rfl <| R.u 1 rfl <| R.q §32 rfl <| R.q (q.ld 3 rfl rfl tOne_28 rfl) rfl <| R.q (q.len' (fun _ => Wd.fls 3 rfl) rfl Tryz.underlying28) rfl <| ?_
      by_cases h3 : k < r.Notes.length
      · refine R.q (q.lss rfl rfl (decide_eq_true (by omega))) rfl <| R.nil ?_
        refine R.condT rfl rfl ?_
        obtain ⟨x1, hx1⟩ : ∃ z, r.Notes[k]? = some z := ⟨_, List.getElem?_eq_getElem (by omega)⟩
        by_cases h4 : x1.Port = §23.Thing
        · refine R.regQ rfl mixed §13 <| Q.q §32 rfl <| Q.q (q.ld 3 rfl rfl tOne_28 rfl) rfl <| Q.u 1 rfl <| Q.q (q.idx (i := k) (fun _ => Wd.fls 3 rfl) rfl rfl tSl_28 rfl hx1) rfl <| Q.q (q.fldE (j' := 0) (fun _ => Wd.fls 3 rfl) hx1 rfl tFld_52_0 rfl) rfl <| Q.q (q.ldE (fun _ => Wd.fls 3 rfl) hx1 rfl tOne_3 rfl) rfl <| Q.q (q.fld (off' := 1) rfl tFld_39_1 rfl) rfl <| Q.q (q.ld 0 rfl rfl tOne_3 rfl) rfl <| Q.q (q.eql rfl rfl (beq_iff_eq.2 (by omega))) rfl <| Q.nil ?_
          refine R.condT rfl rfl ?_
          refine R.reg rfl <| R.u 1 rfl <| R.q (q.add (r := ((c + 1 : Nat) : Int)) rfl rfl (wr (by omega))) rfl <| R.u 1 rfl <| R.nil ?_
          refine R.reg rfl <| R.u 1 rfl <| R.q §64 rfl <| R.u 1 rfl <| R.nil ?_
          refine R.back (k + 1, c + 1) rfl (by (exact ⟨by omega, by rw [wait_hit hx1 (by assumption), HC]⟩)) (by dsimp only; omega) ⟨rfl, rfl, rfl, rfl, rfl, rfl, rfl, rfl, rfl, trivial⟩ (fun _ => Wd.pik [0, 1, 2, 3, 4] [0, 1, 2, 3] rfl rfl rfl)
        · refine R.regQ rfl mixed §13 <| Q.q §32 rfl <| Q.q (q.ld 3 rfl rfl tOne_28 rfl) rfl <| Q.u 1 rfl <| Q.q (q.idx (i := k) (fun _ => Wd.fls 3 rfl) rfl rfl tSl_28 rfl hx1) rfl <| Q.q (q.fldE (j' := 0) (fun _ => Wd.fls 3 rfl) hx1 rfl tFld_52_0 rfl) rfl <| Q.q (q.ldE (fun _ => Wd.fls 3 rfl) hx1 rfl tOne_3 rfl) rfl <| Q.q (q.fld (off' := 1) rfl tFld_39_1 rfl) rfl <| Q.q (q.ld 0 rfl rfl tOne_3 rfl) rfl <| Q.q (q.eql rfl rfl (beq_eq_false_iff_ne.2 (by omega))) rfl <| Q.nil ?_
          refine R.condF rfl rfl ?_
          refine R.reg rfl <| R.u 1 rfl <| R.q §64 rfl <| R.u 1 rfl <| R.nil ?_
          refine R.back (k + 1, c) rfl (by (exact ⟨by omega, by rw [wait_miss hx1 (by assumption), HC]⟩)) (by dsimp only; omega) ⟨rfl, rfl, rfl, rfl, rfl, rfl, rfl, rfl, rfl, trivial⟩ (fun _ => Wd.pik [0, 1, 2, 3, 4] [0, 1, 2, 3] rfl rfl rfl)
      · refine R.q (q.lss rfl rfl (decide_eq_false (by omega))) rfl <| R.nil ?_
        refine R.condF rfl rfl ?_
        rw [List.take_of_length_le (by omega)] at HC
        refine R.reg rfl <| R.u 1 rfl <| ?_
        by_cases h5 : c = 3
        · refine R.q (q.eql rfl rfl (beq_iff_eq.2 (by omega))) rfl <| R.nil ?_
          refine R.condT rfl rfl ?_
          refine R.reg rfl <| R.q §51 rfl <| ?_
          refine R.s rfl (s.st (us := §3) (cs' := §3) 1 _ rfl rfl rfl rfl (.inl tAgg_30) rfl rfl rfl rfl) fun _ => ?_
          refine R.u 1 rfl <| R.nil ?_
          refine R.mp §54 ?_
          refine R.mp §52 ?_
          refine R.mp §55 ?_
          refine R.mp §56 ?_
          have hz : sendR r p d slot rights = (§50, 9) := by (unfold sendR; rw [if_pos mq, if_neg (by omega), if_pos (by omega)]; (try rfl))
          rw [hz]
          exact R.w2 ((.slice none 0 0), (.slice none 0 0), (.slice none 0 0), (.slice none 0 0)) [4] [3, 2, 1, 0] rfl Tryz.results59 (RV.cell 1 rfl rfl tAgg_30) (RV.tmp rfl) rfl rfl rfl (tup2 rfl rfl)
        · refine R.q (q.eql rfl rfl (beq_eq_false_iff_ne.2 (by omega))) rfl <| R.nil ?_
          refine R.condF rfl rfl ?_
          refine R.reg rfl <| R.q (q.fld (off' := 1) rfl tFld_39_1 rfl) rfl <| R.q (q.ld 0 rfl rfl tOne_3 rfl) rfl <| R.u 1 rfl <| R.q (q.fld (off' := 3) rfl tFld_39_3 rfl) rfl <| R.q (q.ld 0 rfl rfl tOne_3 rfl) rfl <| R.q (q.build (cs := §11) tB_52 rfl rfl) rfl <| ?_
          refine R.s rfl (s.alloc (cs := §14) tZero_52 rfl rfl) fun b5 => ?_
          refine R.s rfl (s.st (us := §11) (cs' := §11) 0 _ rfl rfl rfl rfl (.inl tAgg_52) rfl rfl rfl rfl) fun _ => ?_
          refine R.nil ?_
          refine R.reg rfl <| R.q (q.ldS 4 rfl rfl tAgg_30) rfl <| ?_
          refine R.s (B' := (fun g_ : Value × Value × Value × Value => [Res.row 39 g_.1 ((r).Writs : List Writ), Res.row 74 g_.2.1 ((r).Things : List Thing), Res.row 93 g_.2.2.1 ((r).Held : List Held), Res.row 52 g_.2.2.2 ((r).Notes : List Note), Res.box b5 §11 52, Res.box b4 §5 39, Res.box b3 §3 30, Res.box b2 §7 33, Res.box b1 §41 30, Res.held w own])) (F' := (fun g_ : Value × Value × Value × Value => §8)) rfl (s.callV (B0 := []) (Br := [Res.box b5 §11 52, Res.box b4 §5 39, Res.box b3 §3 30, Res.box b2 §7 33, Res.box b1 §41 30, Res.held w own]) (F0 := §8) [0, 1, 2, 3, 4, 5] [0, 1, 2, 3] (fun g_ : Value × Value × Value × Value => .agg #[g_.1, g_.2.1, g_.2.2.1, g_.2.2.2, .int .i64 ((r).NextWrit), .int .i64 ((r).NextThing)]) (fun g_ : Value × Value × Value × Value => [Res.row 39 g_.1 ((r).Writs : List Writ), Res.row 74 g_.2.1 ((r).Things : List Thing), Res.row 93 g_.2.2.1 ((r).Held : List Held), Res.row 52 g_.2.2.2 ((r).Notes : List Note)]) (fun g_ : Value × Value × Value × Value => []) rfl rfl rfl eg_71 rfl rfl (fun w own hw H => copyO_any v_rW v_rT v_rH v_rN (r) w own H (by assumption)) rfl) ?_
          rintro ⟨z1, z2, z3, z4⟩
          dsimp only
          refine R.s rfl (s.stV (us := §22) (cs' := §22) 8 _ rfl rfl rfl (fun _ _ => rfl) (.inl tAgg_30) §36 rfl rfl rfl) fun _ => ?_
          refine R.nil ?_
          refine R.reg rfl <| R.u 1 rfl <| ?_
          by_cases h6 : slot < 0
          · refine R.q (q.geq rfl rfl (decide_eq_false (by omega))) rfl <| R.nil ?_
            refine R.condF rfl rfl ?_
            refine R.reg rfl <| R.q §32 rfl <| R.q (q.ld 8 rfl rfl tOne_28 rfl) rfl <| R.q (q.ldS 4 rfl rfl tAgg_52) rfl <| ?_
            refine R.s rfl (s.bs (l := ([§43] : List Note)) tSl_28 tZero_52 rfl rfl rfl rfl rfl rfl rfl) fun b6 => ?_
            refine R.s rfl (s.app (l2 := [§43]) 4 _ rfl rfl rfl (fun _ => Wd.row 0 rfl) tApp_28 §6 §6 (fun _ => rfl) rfl) fun v1 => ?_
            refine R.q §32 rfl <| ?_
            refine R.s rfl (s.stV (us := [v1]) (cs' := §34) 9 _ rfl rfl rfl (fun w hw => Sl.cells1 ((fun _ => Wd.row 4 rfl) w hw)) (.inr ⟨tOne_28, rfl⟩) (fun w hw => (one_cons (Sl.one ((fun _ => Wd.row 4 rfl) w hw)) one_nil)) rfl rfl rfl) fun _ => ?_
            refine R.nil ?_
            have hcn : ¬ waitN r.Notes (mayR r p 2 2).1.Thing = 3 := by omega
            refine R.reg rfl <| R.q (q.ldS 9 rfl rfl tAgg_30) rfl <| ?_
            refine R.s rfl (s.stV (us := §34) (cs' := §34) 7 _ rfl rfl rfl (fun _ _ => rfl) (.inl tAgg_30) §57 rfl rfl rfl) fun _ => ?_
            refine R.u 1 rfl <| R.nil ?_
            refine R.mp (B' := [Res.row 52 (.slice (some ⟨b6, 0, none⟩) 1 1) ([§43] : List Note), Res.row 74 z2 (r.Things : List Thing), Res.row 93 z3 (r.Held : List Held), Res.row 52 v1 ((r.Notes ++ ([§43])) : List Note), Res.box b5 §11 52, Res.box b4 §5 39, Res.box b3 §34 30, Res.box b2 §7 33, Res.box b1 §34 30, Res.held w own]) §47 ?_
            refine R.mp (B' := [Res.row 52 (.slice (some ⟨b6, 0, none⟩) 1 1) ([§43] : List Note), Res.row 93 z3 (r.Held : List Held), Res.row 52 v1 ((r.Notes ++ ([§43])) : List Note), Res.box b5 §11 52, Res.box b4 §5 39, Res.box b3 §34 30, Res.box b2 §7 33, Res.box b1 §34 30, Res.held w own]) §47 ?_
            refine R.mp (B' := [Res.row 52 (.slice (some ⟨b6, 0, none⟩) 1 1) ([§43] : List Note), Res.row 52 v1 ((r.Notes ++ ([§43])) : List Note), Res.box b5 §11 52, Res.box b4 §5 39, Res.box b3 §34 30, Res.box b2 §7 33, Res.box b1 §34 30, Res.held w own]) §47 ?_
            refine R.mp (B' := [Res.row 52 (.slice (some ⟨b6, 0, none⟩) 1 1) ([§43] : List Note), Res.box b5 §11 52, Res.box b4 §5 39, Res.box b3 §34 30, Res.box b2 §7 33, Res.box b1 §34 30, Res.held w own]) §47 ?_
            have hz : sendR r p d slot rights = ((⟨r.Writs, r.Things, r.Held, (r.Notes ++ ([§43])), r.NextWrit, r.NextThing⟩ : Realm), 0) := by (unfold sendR; rw [if_pos mq, if_neg (by omega), if_neg (by omega), if_pos (by omega)]; (try rfl))
            rw [hz]
            exact R.w2 (z1, z2, z3, v1) [6] [3, 2, 1, 0] rfl Tryz.results59 (RV.cell 3 rfl rfl tAgg_30) (RV.tmp rfl) rfl rfl rfl (tup2 rfl rfl)
          · refine R.q (q.geq rfl rfl (decide_eq_true (by omega))) rfl <| R.nil ?_
            refine R.condT rfl rfl ?_
            refine R.reg rfl <| R.q (q.fld (off' := 2) rfl tFld_39_2 rfl) rfl <| R.q (q.ld 5 rfl rfl tOne_3 rfl) rfl <| ?_
            by_cases h7 : §23.Rights < 4
            · refine R.q (q.lss rfl rfl (decide_eq_true (by omega))) rfl <| R.nil ?_
              refine R.condT rfl rfl ?_
              refine R.reg rfl <| R.q §51 rfl <| ?_
              refine R.s rfl (s.st (us := §3) (cs' := §3) 6 _ rfl rfl rfl rfl (.inl tAgg_30) rfl rfl rfl rfl) fun _ => ?_
              refine R.u 1 rfl <| R.nil ?_
              refine R.mp §54 ?_
              refine R.mp §52 ?_
              refine R.mp §55 ?_
              refine R.mp §56 ?_
              have hz : sendR r p d slot rights = (§50, 7) := by (unfold sendR; rw [if_pos mq, if_neg (by omega), if_neg (by omega), if_neg (by omega), if_neg (by rw [has4_no mr (by omega)]; decide)]; (try rfl))
              rw [hz]
              exact R.w2 ((.slice none 0 0), (.slice none 0 0), (.slice none 0 0), (.slice none 0 0)) [9] [3, 2, 1, 0] rfl Tryz.results59 (RV.cell 6 rfl rfl tAgg_30) (RV.tmp rfl) rfl rfl rfl (tup2 rfl rfl)
            · refine R.q (q.lss rfl rfl (decide_eq_false (by omega))) rfl <| R.nil ?_
              refine R.condF rfl rfl ?_
              refine R.reg rfl <| R.q (q.ldS 8 rfl rfl tAgg_30) rfl <| R.q (q.fld (off' := 0) rfl tFld_33_0 rfl) rfl <| R.q (q.ld 7 rfl rfl tOne_3 rfl) rfl <| R.u 1 rfl <| R.q (q.build (cs := [.int .i64 p.Holder, .int .i64 slot]) tB_33 rfl rfl) rfl <| R.c (q.call eg_9 rfl rfl (fun w hw => (getD_any _ _ _ _ (r) ((⟨p.Holder, slot⟩ : Place)) w §33 ((fun _ => Wd.row 1 rfl) w hw) ((fun _ => Wd.row 2 rfl) w hw) ((fun _ => Wd.row 3 rfl) w hw) (by assumption) (by assumption)))) rfl <| R.u 3 rfl <| ?_
              refine R.s rfl §48 fun b7 => ?_
              refine R.s rfl (s.st (us := §4) (cs' := §4) 0 _ rfl rfl rfl rfl (.inl tAgg_39) rfl rfl rfl rfl) fun _ => ?_
              refine R.u 1 rfl <| R.nil ?_
              refine R.reg rfl <| R.u 1 rfl <| ?_
              by_cases h8 : 0 < §61.2
              · refine R.q §63 rfl <| R.nil ?_
                refine R.condT rfl rfl ?_
                refine R.reg rfl <| R.q §51 rfl <| R.u 1 rfl <| ?_
                refine R.s rfl (s.st (us := §3) (cs' := §3) 7 _ rfl rfl rfl rfl (.inl tAgg_30) rfl rfl rfl rfl) fun _ => ?_
                refine R.u 1 rfl <| R.nil ?_
                refine R.mp §54 ?_
                refine R.mp §52 ?_
                refine R.mp §55 ?_
                refine R.mp §56 ?_
                have hz : sendR r p d slot rights = (§50, §61.2) := by (unfold sendR; rw [if_pos mq, if_neg (by omega), if_neg (by omega), if_neg (by omega), if_pos (has4_yes mr (by omega)), if_neg (by omega)]; (try rfl))
                rw [hz]
                exact R.w2 ((.slice none 0 0), (.slice none 0 0), (.slice none 0 0), (.slice none 0 0)) [10] [3, 2, 1, 0] rfl Tryz.results59 (RV.cell 7 rfl rfl tAgg_30) (RV.tmp rfl) rfl rfl rfl (tup2 rfl rfl)
              · have gz : §61.2 = 0 := by omega
                have gr := hk.get gz
                refine R.q §62 rfl <| R.nil ?_
                refine R.condF rfl rfl ?_
                refine R.reg rfl <| R.q (q.fld (off' := 4) rfl tFld_30_4 rfl) rfl <| R.q (q.ld 9 rfl rfl tOne_3 rfl) rfl <| ?_
                by_cases h9 : 999 < r.NextWrit
                · refine R.q §63 rfl <| R.nil ?_
                  refine R.condT rfl rfl ?_
                  refine R.reg rfl <| R.q §51 rfl <| ?_
                  refine R.s rfl (s.st (us := §3) (cs' := §3) 7 _ rfl rfl rfl rfl (.inl tAgg_30) rfl rfl rfl rfl) fun _ => ?_
                  refine R.u 1 rfl <| R.nil ?_
                  refine R.mp §54 ?_
                  refine R.mp §52 ?_
                  refine R.mp §55 ?_
                  refine R.mp §56 ?_
                  have hz : sendR r p d slot rights = (§50, 9) := by (unfold sendR; rw [if_pos mq, if_neg (by omega), if_neg (by omega), if_neg (by omega), if_pos (has4_yes mr (by omega)), if_pos gz, if_pos (by omega)]; (try rfl))
                  rw [hz]
                  exact R.w2 ((.slice none 0 0), (.slice none 0 0), (.slice none 0 0), (.slice none 0 0)) [10] [3, 2, 1, 0] rfl Tryz.results59 (RV.cell 7 rfl rfl tAgg_30) (RV.tmp rfl) rfl rfl rfl (tup2 rfl rfl)
                · refine R.q §62 rfl <| R.nil ?_
                  refine R.condF rfl rfl ?_
                  refine R.reg rfl <| R.q (q.ldS 0 rfl rfl tAgg_39) rfl <| R.q (q.fld (off' := 4) rfl tFld_30_4 rfl) rfl <| R.q (q.ld 9 rfl rfl tOne_3 rfl) rfl <| R.u 1 rfl <| R.c (q.call eg_88 rfl rfl (fun w hw => (derivedRef_any ((§61.1)) (r.NextWrit) (rights) (0) w  (by omega)))) rfl <| R.u 3 rfl <| ?_
                  refine R.s rfl §48 fun b8 => ?_
                  refine R.s rfl (s.st (us := §12) (cs' := §12) 0 _ rfl rfl rfl rfl (.inl tAgg_39) rfl rfl rfl rfl) fun _ => ?_
                  refine R.u 1 rfl <| R.nil ?_
                  refine R.reg rfl <| R.u 1 rfl <| ?_
                  by_cases h10 : 0 < (derived (§61.1) r.NextWrit rights 0).2
                  · refine R.q §63 rfl <| R.nil ?_
                    refine R.condT rfl rfl ?_
                    refine R.reg rfl <| R.q §51 rfl <| R.u 1 rfl <| ?_
                    refine R.s rfl (s.st (us := §3) (cs' := §3) 8 _ rfl rfl rfl rfl (.inl tAgg_30) rfl rfl rfl rfl) fun _ => ?_
                    refine R.u 1 rfl <| R.nil ?_
                    refine R.mp §54 ?_
                    refine R.mp §52 ?_
                    refine R.mp §55 ?_
                    refine R.mp §56 ?_
                    have hz : sendR r p d slot rights = (§50, (derived (§61.1) r.NextWrit rights 0).2) := by (unfold sendR; rw [if_pos mq, if_neg (by omega), if_neg (by omega), if_neg (by omega), if_pos (has4_yes mr (by omega)), if_pos gz, if_neg (by omega), if_neg (by omega)]; (try rfl))
                    rw [hz]
                    exact R.w2 ((.slice none 0 0), (.slice none 0 0), (.slice none 0 0), (.slice none 0 0)) [11] [3, 2, 1, 0] rfl Tryz.results59 (RV.cell 8 rfl rfl tAgg_30) (RV.tmp rfl) rfl rfl rfl (tup2 rfl rfl)
                  · have dz : (derived (§61.1) r.NextWrit rights 0).2 = 0 := by omega
                    refine R.q §62 rfl <| R.nil ?_
                    refine R.condF rfl rfl ?_
                    refine R.reg rfl <| R.q (q.ldS 10 rfl rfl tAgg_30) rfl <| R.q (q.ldS 0 rfl rfl tAgg_39) rfl <| ?_
                    refine R.s (B' := (fun g_ : Value × Value × Value × Value => [Res.row 39 g_.1 (((addW r §0)).Writs : List Writ), Res.row 74 g_.2.1 (((addW r §0)).Things : List Thing), Res.row 93 g_.2.2.1 (((addW r §0)).Held : List Held), Res.row 52 g_.2.2.2 (((addW r §0)).Notes : List Note), Res.box b8 §12 39, Res.box b7 §4 39, Res.box b5 §11 52, Res.box b4 §5 39, Res.box b3 §3 30, Res.box b2 §7 33, Res.box b1 §22 30, Res.held w own])) (F' := (fun g_ : Value × Value × Value × Value => §53)) rfl (s.pre (B2 := [Res.box b8 §12 39, Res.box b7 §4 39, Res.row 74 z2 (r.Things : List Thing), Res.row 93 z3 (r.Held : List Held), Res.row 52 z4 (r.Notes : List Note), Res.box b5 §11 52, Res.box b4 §5 39, Res.box b3 §3 30, Res.box b2 §7 33, Res.box b1 §22 30, Res.held w own]) (F2 := [Res.ls z1 (r.Writs : List Writ), Res.ls v_rW (r.Writs : List Writ), Res.ls v_rT (r.Things : List Thing), Res.ls v_rH (r.Held : List Held), Res.ls v_rN (r.Notes : List Note)]) §42 (s.pre (B2 := [Res.box b8 §12 39, Res.box b7 §4 39, Res.row 93 z3 (r.Held : List Held), Res.row 52 z4 (r.Notes : List Note), Res.box b5 §11 52, Res.box b4 §5 39, Res.box b3 §3 30, Res.box b2 §7 33, Res.box b1 §22 30, Res.held w own]) (F2 := [Res.ls z2 (r.Things : List Thing), Res.ls z1 (r.Writs : List Writ), Res.ls v_rW (r.Writs : List Writ), Res.ls v_rT (r.Things : List Thing), Res.ls v_rH (r.Held : List Held), Res.ls v_rN (r.Notes : List Note)]) §42 (s.pre (B2 := [Res.box b8 §12 39, Res.box b7 §4 39, Res.row 52 z4 (r.Notes : List Note), Res.box b5 §11 52, Res.box b4 §5 39, Res.box b3 §3 30, Res.box b2 §7 33, Res.box b1 §22 30, Res.held w own]) (F2 := [Res.ls z3 (r.Held : List Held), Res.ls z2 (r.Things : List Thing), Res.ls z1 (r.Writs : List Writ), Res.ls v_rW (r.Writs : List Writ), Res.ls v_rT (r.Things : List Thing), Res.ls v_rH (r.Held : List Held), Res.ls v_rN (r.Notes : List Note)]) §42 (s.pre (B2 := [Res.box b8 §12 39, Res.box b7 §4 39, Res.box b5 §11 52, Res.box b4 §5 39, Res.box b3 §3 30, Res.box b2 §7 33, Res.box b1 §22 30, Res.held w own]) (F2 := §53) §42 (s.callV (B0 := []) (Br := [Res.box b8 §12 39, Res.box b7 §4 39, Res.box b5 §11 52, Res.box b4 §5 39, Res.box b3 §3 30, Res.box b2 §7 33, Res.box b1 §22 30, Res.held w own]) (F0 := [Res.ls z1 (r.Writs : List Writ), Res.ls z2 (r.Things : List Thing), Res.ls z3 (r.Held : List Held), Res.ls z4 (r.Notes : List Note)]) [0, 1, 2, 3, 4, 5, 6, 7] [3, 2, 1, 0] (fun g_ : Value × Value × Value × Value => .agg #[g_.1, g_.2.1, g_.2.2.1, g_.2.2.2, .int .i64 (((addW r §0)).NextWrit), .int .i64 (((addW r §0)).NextThing)]) (fun g_ : Value × Value × Value × Value => [Res.row 39 g_.1 (((addW r §0)).Writs : List Writ), Res.row 74 g_.2.1 (((addW r §0)).Things : List Thing), Res.row 93 g_.2.2.1 (((addW r §0)).Held : List Held), Res.row 52 g_.2.2.2 (((addW r §0)).Notes : List Note)]) (fun g_ : Value × Value × Value × Value => []) rfl rfl rfl eg_87 rfl rfl (fun w own hw H => addD_any z1 z2 z3 z4 (r) (§0) w own H (by assumption)) rfl))))) ?_
                    rintro ⟨z5, z6, z7, z8⟩
                    dsimp only
                    refine R.s rfl (s.stV (us := [z5, z6, z7, z8, .int .i64 ((addW r §0).NextWrit), .int .i64 ((addW r §0).NextThing)]) (cs' := [z5, z6, z7, z8, .int .i64 ((addW r §0).NextWrit), .int .i64 ((addW r §0).NextThing)]) 10 _ rfl rfl rfl (fun _ _ => rfl) (.inl tAgg_30) §36 rfl rfl rfl) fun _ => ?_
                    refine R.nil ?_
                    refine R.reg rfl <| R.q (q.fld (off' := 0) rfl tFld_39_0 rfl) rfl <| R.q (q.ld 4 rfl rfl tOne_3 rfl) rfl <| R.q (q.fld (off' := 3) rfl tFld_52_3 rfl) rfl <| ?_
                    refine R.s rfl (s.st (us := [.int .i64 (§0.ID)]) (cs' := §46) 6 _ rfl rfl rfl rfl (.inr ⟨tOne_3, rfl⟩) rfl rfl rfl rfl) fun _ => ?_
                    refine R.nil ?_
                    refine R.reg rfl <| R.q §32 rfl <| R.q (q.ld 10 rfl rfl tOne_28 rfl) rfl <| R.q (q.ldS 6 rfl rfl tAgg_52) rfl <| ?_
                    refine R.s rfl (s.bs (l := ([§39] : List Note)) tSl_28 tZero_52 rfl rfl rfl rfl rfl rfl rfl) fun b9 => ?_
                    refine R.s rfl (s.app (l2 := [§39]) 4 _ rfl rfl rfl (fun _ => Wd.row 0 rfl) tApp_28 §6 §6 (fun _ => rfl) rfl) fun v2 => ?_
                    refine R.q §32 rfl <| ?_
                    refine R.s rfl (s.stV (us := [v2]) (cs' := §20) 11 _ rfl rfl rfl (fun w hw => Sl.cells1 ((fun _ => Wd.row 4 rfl) w hw)) (.inr ⟨tOne_28, rfl⟩) (fun w hw => (one_cons (Sl.one ((fun _ => Wd.row 4 rfl) w hw)) one_nil)) rfl rfl rfl) fun _ => ?_
                    refine R.nil ?_
                    have hcn : ¬ waitN r.Notes (mayR r p 2 2).1.Thing = 3 := by omega
                    refine R.reg rfl <| R.q (q.ldS 11 rfl rfl tAgg_30) rfl <| ?_
                    refine R.s rfl (s.stV (us := §20) (cs' := §20) 9 _ rfl rfl rfl (fun _ _ => rfl) (.inl tAgg_30) §57 rfl rfl rfl) fun _ => ?_
                    refine R.u 1 rfl <| R.nil ?_
                    refine R.mp (B' := [Res.row 52 (.slice (some ⟨b9, 0, none⟩) 1 1) ([§39] : List Note), Res.row 74 z6 ((addW r §0).Things : List Thing), Res.row 93 z7 ((addW r §0).Held : List Held), Res.row 52 v2 ((((addW r §0).Notes) ++ ([§39])) : List Note), Res.box b8 §12 39, Res.box b7 §4 39, Res.box b5 §46 52, Res.box b4 §5 39, Res.box b3 §20 30, Res.box b2 §7 33, Res.box b1 §20 30, Res.held w own]) §47 ?_
                    refine R.mp (B' := [Res.row 52 (.slice (some ⟨b9, 0, none⟩) 1 1) ([§39] : List Note), Res.row 93 z7 ((addW r §0).Held : List Held), Res.row 52 v2 ((((addW r §0).Notes) ++ ([§39])) : List Note), Res.box b8 §12 39, Res.box b7 §4 39, Res.box b5 §46 52, Res.box b4 §5 39, Res.box b3 §20 30, Res.box b2 §7 33, Res.box b1 §20 30, Res.held w own]) §47 ?_
                    refine R.mp (B' := [Res.row 52 (.slice (some ⟨b9, 0, none⟩) 1 1) ([§39] : List Note), Res.row 52 v2 ((((addW r §0).Notes) ++ ([§39])) : List Note), Res.box b8 §12 39, Res.box b7 §4 39, Res.box b5 §46 52, Res.box b4 §5 39, Res.box b3 §20 30, Res.box b2 §7 33, Res.box b1 §20 30, Res.held w own]) §47 ?_
                    refine R.mp (B' := [Res.row 52 (.slice (some ⟨b9, 0, none⟩) 1 1) ([§39] : List Note), Res.box b8 §12 39, Res.box b7 §4 39, Res.box b5 §46 52, Res.box b4 §5 39, Res.box b3 §20 30, Res.box b2 §7 33, Res.box b1 §20 30, Res.held w own]) §47 ?_
                    have hz : sendR r p d slot rights = ((⟨(addW r §0).Writs, (addW r §0).Things, (addW r §0).Held, (((addW r §0).Notes) ++ ([§39])), (addW r §0).NextWrit, (addW r §0).NextThing⟩ : Realm), 0) := by (unfold sendR; rw [if_pos mq, if_neg (by omega), if_neg (by omega), if_neg (by omega), if_pos (has4_yes mr (by omega)), if_pos gz, if_neg (by omega), if_pos dz]; (try rfl))
                    rw [hz]
                    exact R.w2 (z5, z6, z7, v2) [8] [3, 2, 1, 0] rfl Tryz.results59 (RV.cell 5 rfl rfl tAgg_30) (RV.tmp rfl) rfl rfl rfl (tup2 rfl rfl)

set_option maxRecDepth 100000 in
set_option maxHeartbeats 1000000 in
theorem takeD_any (v_rW v_rT v_rH v_rN : Value) (r : Realm) (p : Place) (w : World) (own : List Nat) (H : Wd w (blks [] ++ own) ([] ++ [Res.held w own]) §8 w) (hk : Ok r) (hI : Inv r) : Calls Tryz.prog 37 #[.agg #[v_rW, v_rT, v_rH, v_rN, .int .i64 r.NextWrit, .int .i64 r.NextThing], .agg #[.int .i64 p.Holder, .int .i64 p.Slot]] w fun e w' => ∃ z : Value × Value × Value × Value, e = .returned (.tuple #[.agg #[z.1, z.2.1, z.2.2.1, z.2.2.2, .int .i64 ((((takeR r p)).1).NextWrit), .int .i64 ((((takeR r p)).1).NextThing)], .agg #[.int .i64 ((((takeR r p)).2.1).Port), .string ((((takeR r p)).2.1).Data), .int .i64 ((((takeR r p)).2.1).Badge), .int .i64 ((((takeR r p)).2.1).Writ)], .int .i64 (((takeR r p)).2.2.1), .int .i64 (((takeR r p)).2.2.2)]) ∧ Wd w (blks [] ++ own) ([] ++ [Res.held w own]) [Res.ls z.1 ((((takeR r p)).1).Writs : List Writ), Res.ls z.2.1 ((((takeR r p)).1).Things : List Thing), Res.ls z.2.2.1 ((((takeR r p)).1).Held : List Held), Res.ls z.2.2.2 ((((takeR r p)).1).Notes : List Note)] w' := by
  have m_r_Writs := H.lenF 0 rfl
  have m_r_Things := H.lenF 1 rfl
  have m_r_Held := H.lenF 2 rfl
  have m_r_Notes := H.lenF 3 rfl
  have bw := hk.wl; have bt := hk.tl; have bh := hk.hl; have bn := hk.nl; have bw0 := hk.w0; have bw1 := hk.w1; have bt0 := hk.t0; have bt1 := hk.t1
  have mn0 := mayR_nonneg r p 2 1
  refine R.enterN (n := 84) (vs := [.agg #[v_rW, v_rT, v_rH, v_rN, .int .i64 r.NextWrit, .int .i64 r.NextThing], .agg #[.int .i64 p.Holder, .int .i64 p.Slot]]) (B := [Res.held w own]) [(0, .agg #[v_rW, v_rT, v_rH, v_rN, .int .i64 r.NextWrit, .int .i64 r.NextThing]), (1, .agg #[.int .i64 p.Holder, .int .i64 p.Slot])] Tryz.func37 rfl rfl rfl rfl H ?_
  refine R.reg rfl <| ?_
  refine R.s rfl (s.box (cs := §41) rfl rfl rfl) fun b1 => ?_
  refine R.s rfl (s.box (cs := §7) rfl rfl rfl) fun b2 => ?_
  refine R.s rfl (s.alloc (cs := §3) tZero_30 rfl rfl) fun b3 => ?_
  refine R.s rfl (s.alloc (cs := §14) tZero_52 rfl rfl) fun b4 => ?_
  refine R.u 2 rfl <| R.nil ?_
  refine R.reg rfl <| R.q (q.ldS 3 rfl rfl tAgg_30) rfl <| R.q (q.ldS 2 rfl rfl tAgg_33) rfl <| R.c (q.call eg_30 rfl rfl (fun w hw => (mayD_any _ _ _ _ (r) (p) (2) (1) w ((fun _ => Wd.fls 0 rfl) w hw) ((fun _ => Wd.fls 1 rfl) w hw) ((fun _ => Wd.fls 2 rfl) w hw) ((fun _ => Wd.fls 3 rfl) w hw) (by assumption) (by assumption) (by omega)))) rfl <| R.u 4 rfl <| ?_
  refine R.s rfl §48 fun b5 => ?_
  refine R.s rfl (s.st (us := §1) (cs' := §1) 0 _ rfl rfl rfl rfl (.inl tAgg_39) rfl rfl rfl rfl) fun _ => ?_
  refine R.u 2 rfl <| R.nil ?_
  refine R.reg rfl <| R.u 1 rfl <| ?_
  by_cases h1 : 0 < (mayR r p 2 1).2.2
  · refine R.q §63 rfl <| R.nil ?_
    refine R.condT rfl rfl ?_
    refine R.reg rfl <| R.q §51 rfl <| R.q (q.build (cs := §14) tB_52 rfl rfl) rfl <| R.u 1 rfl <| ?_
    refine R.s rfl (s.st (us := §3) (cs' := §3) 2 _ rfl rfl rfl rfl (.inl tAgg_30) rfl rfl rfl rfl) fun _ => ?_
    refine R.s rfl (s.st (us := §14) (cs' := §14) 1 _ rfl rfl rfl rfl (.inl tAgg_52) rfl rfl rfl rfl) fun _ => ?_
    refine R.u 2 rfl <| R.nil ?_
    refine R.mp §54 ?_
    refine R.mp §52 ?_
    refine R.mp §55 ?_
    refine R.mp §56 ?_
    have hz : takeR r p = (§50, (⟨0, ⟨#[]⟩, 0, 0⟩ : Note), 0, (mayR r p 2 1).2.2) := by (unfold takeR; rw [if_neg (by omega)]; (try rfl))
    rw [hz]
    exact R.w4 ((.slice none 0 0), (.slice none 0 0), (.slice none 0 0), (.slice none 0 0)) [5] [3, 2, 1, 0] rfl Tryz.results37 (RV.cell 2 rfl rfl tAgg_30) (RV.cell 1 rfl rfl tAgg_52) (RV.tmp rfl) (RV.tmp rfl) rfl rfl rfl (tup4 rfl rfl rfl rfl)
  · have mq : (mayR r p 2 1).2.2 = 0 := by omega
    have mz := mayR_zero mq
    refine R.q §62 rfl <| R.nil ?_
    refine R.condF rfl rfl ?_
    refine R.reg rfl <| R.q (q.ldS 4 rfl rfl tAgg_30) rfl <| ?_
    refine R.s (B' := (fun g_ : Value × Value × Value × Value => [Res.row 39 g_.1 ((r).Writs : List Writ), Res.row 74 g_.2.1 ((r).Things : List Thing), Res.row 93 g_.2.2.1 ((r).Held : List Held), Res.row 52 g_.2.2.2 ((r).Notes : List Note), Res.box b5 §1 39, Res.box b4 §14 52, Res.box b3 §3 30, Res.box b2 §7 33, Res.box b1 §41 30, Res.held w own])) (F' := (fun g_ : Value × Value × Value × Value => §8)) rfl (s.callV (B0 := []) (Br := [Res.box b5 §1 39, Res.box b4 §14 52, Res.box b3 §3 30, Res.box b2 §7 33, Res.box b1 §41 30, Res.held w own]) (F0 := §8) [0, 1, 2, 3, 4, 5] [0, 1, 2, 3] (fun g_ : Value × Value × Value × Value => .agg #[g_.1, g_.2.1, g_.2.2.1, g_.2.2.2, .int .i64 ((r).NextWrit), .int .i64 ((r).NextThing)]) (fun g_ : Value × Value × Value × Value => [Res.row 39 g_.1 ((r).Writs : List Writ), Res.row 74 g_.2.1 ((r).Things : List Thing), Res.row 93 g_.2.2.1 ((r).Held : List Held), Res.row 52 g_.2.2.2 ((r).Notes : List Note)]) (fun g_ : Value × Value × Value × Value => []) rfl rfl rfl eg_71 rfl rfl (fun w own hw H => copyO_any v_rW v_rT v_rH v_rN (r) w own H (by assumption)) rfl) ?_
    rintro ⟨z1, z2, z3, z4⟩
    dsimp only
    refine R.s rfl (s.stV (us := §22) (cs' := §22) 8 _ rfl rfl rfl (fun _ _ => rfl) (.inl tAgg_30) §36 rfl rfl rfl) fun _ => ?_
    refine R.nil ?_
    refine R.reg rfl <| R.u 1 rfl <| R.nil ?_
    refine R.loop (fun k : Nat => [(2, .pointer (some ⟨b1, 0, none⟩)), (3, .pointer (some ⟨b2, 0, none⟩)), (4, .pointer (some ⟨b3, 0, none⟩)), (5, .pointer (some ⟨b4, 0, none⟩)), (8, .pointer (some ⟨b5, 0, none⟩)), (11, .int .i64 (k : Int))]) (fun k : Nat => [Res.row 39 z1 (r.Writs : List Writ), Res.row 74 z2 (r.Things : List Thing), Res.row 93 z3 (r.Held : List Held), Res.row 52 z4 (r.Notes : List Note), Res.box b5 §1 39, Res.box b4 §14 52, Res.box b3 §3 30, Res.box b2 §7 33, Res.box b1 §22 30, Res.held w own]) (fun k : Nat => §8) (fun k : Nat => k ≤ r.Notes.length ∧ ∀ (j : Nat) y, j < k → r.Notes[j]? = some y → (y.Port == (mayR r p 2 1).1.Thing) = false) (fun k : Nat => r.Notes.length - k) 0 rfl (by exact ⟨by omega, fun j x hj => absurd hj (Nat.not_lt_zero _)⟩) ⟨rfl, rfl, rfl, rfl, rfl, rfl, trivial⟩ (fun _ => Wd.pick [0, 1, 2, 3, 4, 5, 6, 7, 8, 9] [0, 1, 2, 3] rfl rfl rfl) ?_
    rintro k ⟨hk1, HA⟩
    refine R.reg rfl <| R.u 1 rfl <| R.q §32 rfl <| R.q (q.ld 8 rfl rfl tOne_28 rfl) rfl <| R.q (q.len' (fun _ => Wd.row 3 rfl) rfl Tryz.underlying28) rfl <| ?_
    by_cases h2 : k < r.Notes.length
    · refine R.q (q.lss rfl rfl (decide_eq_true (by omega))) rfl <| R.nil ?_
      refine R.condT rfl rfl ?_
      refine R.reg rfl <| R.q §32 rfl <| R.q (q.ld 8 rfl rfl tOne_28 rfl) rfl <| R.u 1 rfl <| ?_
      obtain ⟨x1, hx1⟩ : ∃ z, r.Notes[k]? = some z := ⟨_, List.getElem?_eq_getElem (by omega)⟩
      refine R.q (q.idx (i := k) (fun _ => Wd.row 3 rfl) rfl rfl tSl_28 rfl hx1) rfl <| R.q (q.ldES (ds := §2) (fun _ => Wd.row 3 rfl) hx1 rfl tAgg_52 rfl) rfl <| ?_
      refine R.s rfl (s.alloc (cs := §14) tZero_52 rfl rfl) fun b6 => ?_
      refine R.s rfl (s.st (us := §2) (cs' := §2) 0 _ rfl rfl rfl rfl (.inl tAgg_52) rfl rfl rfl rfl) fun _ => ?_
      refine R.nil ?_
      refine R.reg rfl <| R.q (q.fld (off' := 0) rfl tFld_52_0 rfl) rfl <| R.q (q.ld 0 rfl rfl tOne_3 rfl) rfl <| R.q (q.fld (off' := 1) rfl tFld_39_1 rfl) rfl <| R.q (q.ld 5 rfl rfl tOne_3 rfl) rfl <| ?_
      by_cases h3 : x1.Port = ((mayR r p 2 1).1).Thing
      · refine R.q (q.neq rfl rfl (bne_eq_false_iff_eq.2 (by omega))) rfl <| R.nil ?_
        refine R.condF rfl rfl ?_
        have hix : idxOf (fun n : Note => n.Port == (mayR r p 2 1).1.Thing) r.Notes = (k : Int) := idxOf_hit hx1 (beq_iff_eq.2 (by omega)) HA
        have hfs := free_spec r.Held p.Holder
        refine R.reg rfl <| R.u 1 rfl <| R.nil ?_
        refine R.reg rfl <| R.q (q.fld (off' := 3) rfl tFld_52_3 rfl) rfl <| R.q (q.ld 0 rfl rfl tOne_3 rfl) rfl <| ?_
        by_cases h4 : 0 < x1.Writ
        · refine R.q §63 rfl <| R.nil ?_
          refine R.condT rfl rfl ?_
          refine R.reg rfl <| R.q (q.fld (off' := 2) rfl tFld_30_2 rfl) rfl <| R.q (q.ld 9 rfl rfl tOne_27 rfl) rfl <| R.q (q.fld (off' := 0) rfl tFld_33_0 rfl) rfl <| R.q (q.ld 8 rfl rfl tOne_3 rfl) rfl <| R.c (q.call eg_72 rfl rfl (fun w hw => (freeG_any _ (r.Held) (p.Holder) w ((fun _ => Wd.row 3 rfl) w hw) (by first | assumption | exact hI.good | exact hP.good | exact good_put hI.good (by assumption))))) rfl <| R.u 1 rfl <| R.nil ?_
          refine R.reg rfl <| R.u 1 rfl <| ?_
          by_cases h5 : freeH r.Held p.Holder < 0
          · refine R.q (q.lss rfl rfl (decide_eq_true (by omega))) rfl <| R.nil ?_
            refine R.condT rfl rfl ?_
            refine R.reg rfl <| R.q §51 rfl <| R.q (q.build (cs := §14) tB_52 rfl rfl) rfl <| ?_
            refine R.s rfl (s.st (us := §3) (cs' := §3) 7 _ rfl rfl rfl rfl (.inl tAgg_30) rfl rfl rfl rfl) fun _ => ?_
            refine R.s rfl (s.st (us := §14) (cs' := §14) 6 _ rfl rfl rfl rfl (.inl tAgg_52) rfl rfl rfl rfl) fun _ => ?_
            refine R.u 2 rfl <| R.nil ?_
            refine R.mp §54 ?_
            refine R.mp §52 ?_
            refine R.mp §55 ?_
            refine R.mp §56 ?_
            have hz : takeR r p = (§50, (⟨0, ⟨#[]⟩, 0, 0⟩ : Note), 0, 9) := by (unfold takeR; rw [if_pos mq, hix, Int.toNat_natCast, hx1, decide_eq_true (by omega)]; dsimp only; rw [if_pos (by omega), if_pos (by omega)]; rfl)
            rw [hz]
            exact R.w4 ((.slice none 0 0), (.slice none 0 0), (.slice none 0 0), (.slice none 0 0)) [10] [3, 2, 1, 0] rfl Tryz.results37 (RV.cell 7 rfl rfl tAgg_30) (RV.cell 6 rfl rfl tAgg_52) (RV.tmp rfl) (RV.tmp rfl) rfl rfl rfl (tup4 rfl rfl rfl rfl)
          · refine R.q (q.lss rfl rfl (decide_eq_false (by omega))) rfl <| R.nil ?_
            refine R.condF rfl rfl ?_
            refine R.reg rfl <| R.q (q.fld (off' := 2) rfl tFld_30_2 rfl) rfl <| R.q (q.ld 9 rfl rfl tOne_27 rfl) rfl <| R.q (q.fld (off' := 0) rfl tFld_33_0 rfl) rfl <| R.q (q.ld 8 rfl rfl tOne_3 rfl) rfl <| R.u 1 rfl <| R.q (q.build (cs := [.int .i64 p.Holder, .int .i64 (freeH r.Held p.Holder)]) tB_33 rfl rfl) rfl <| R.q (q.fld (off' := 3) rfl tFld_52_3 rfl) rfl <| R.q (q.ld 0 rfl rfl tOne_3 rfl) rfl <| ?_
            refine R.s (B' := (fun bz0_ : Value => [Res.row 93 bz0_ ((putH r.Held §24 x1.Writ) : List Held), Res.box b6 §2 52, Res.row 39 z1 (r.Writs : List Writ), Res.row 74 z2 (r.Things : List Thing), Res.row 52 z4 (r.Notes : List Note), Res.box b5 §1 39, Res.box b4 §14 52, Res.box b3 §3 30, Res.box b2 §7 33, Res.box b1 §22 30, Res.held w own])) (F' := (fun bz0_ : Value => §18)) rfl (s.pre (B2 := §59) (F2 := §18) (fun _ hw => hw.lendL 3 _ rfl rfl) (s.callV (B0 := []) (Br := §59) (F0 := [Res.ls z3 (r.Held : List Held)]) [0, 1, 2, 3, 4, 5, 6, 7, 8, 9] [0] (fun bz0_ : Value => bz0_) (fun bz0_ : Value => [Res.row 93 bz0_ ((putH r.Held §24 x1.Writ) : List Held)]) (fun bz0_ : Value => []) rfl rfl rfl eg_73 rfl rfl (fun w own hw H => putG_any z3 (r.Held) (§24) (x1.Writ) w own H (by first | omega | assumption | (simp; done) | (simp; omega) | (dsimp only [addW]; omega)) (by first | assumption | exact hI.good | exact hP.good | exact good_put hI.good (by assumption))) rfl)) fun z5 => ?_
            refine R.q (q.fld (off' := 2) rfl tFld_30_2 rfl) rfl <| ?_
            refine R.s rfl (s.stV (us := [z5]) (cs' := [z1, z2, z5, z4, .int .i64 r.NextWrit, .int .i64 r.NextThing]) 9 _ rfl rfl rfl (fun w hw => Sl.cells1 §33) (.inr ⟨tOne_27, rfl⟩) §58 rfl rfl rfl) fun _ => ?_
            refine R.nil ?_
            refine R.regD (fuel := 13) (Wd w (blks [] ++ own) [Res.row 93 z5 (putH r.Held §24 x1.Writ : List Held), Res.box b6 §2 52, Res.row 39 z1 (r.Writs : List Writ), Res.row 74 z2 (r.Things : List Thing), Res.row 52 z4 (r.Notes : List Note), Res.box b5 §1 39, Res.box b4 §14 52, Res.box b3 §3 30, Res.box b2 §7 33, Res.held w own] §18) rfl mixed rfl ?_
            refine D.q (i := 0) rfl §13 §17 rfl §32 rfl <| D.q (i := 2) rfl §13 §17 rfl (q.mv rfl) rfl <| D.q (i := 5) rfl §13 §17 rfl §32 rfl <| D.q (i := 7) rfl §13 §17 rfl (q.mv rfl) rfl <| D.q (i := 8) rfl §13 §17 rfl §64 rfl <| ?_
            refine D.two (i := 1) (j := 6) §13 rfl rfl ?_ ?_
            · refine Do.s §49 (fun _ => §17) rfl fun _ => ?_
              refine D.q (i := 3) rfl §13 §17 rfl §44 rfl <| ?_
              refine D.two (i := 4) (j := 6) §13 rfl rfl ?_ ?_
              · refine Do.s §31 (fun _ => §15) rfl fun v1 => ?_
                refine D.one (i := 6) §13 rfl ?_
                refine Do.s (s.c (Qt.a (q.ld 10 rfl rfl tOne_28 rfl)) rfl) (fun _ => §15) rfl fun _ => ?_
                refine D.q (i := 9) rfl §13 §15 rfl §35 rfl <| ?_
                refine D.one (i := 10) §13 rfl ?_
                refine Do.s §21 (fun _ => §15) rfl fun v2 => ?_
                refine D.q (i := 11) rfl §13 §15 rfl §32 rfl <| ?_
                refine D.one (i := 12) §13 rfl ?_
                refine Do.s (s.stV (us := [v2]) (cs' := §27) 10 _ rfl rfl rfl (fun w hw => Sl.cells1 §33) (.inr ⟨tOne_28, rfl⟩) §58 rfl rfl rfl) (fun _ => §15) rfl fun _ => ?_
                refine D.done §13 <| ?_
                refine R.regD (fuel := 7) (Wd w (blks [] ++ own) [Res.row 52 v2 (((r.Notes.take k) ++ (r.Notes.drop (k + 1))) : List Note), Res.row 93 z5 (putH r.Held §24 x1.Writ : List Held), Res.box b6 §2 52, Res.row 39 z1 (r.Writs : List Writ), Res.row 74 z2 (r.Things : List Thing), Res.row 52 z4 (r.Notes : List Note), Res.box b5 §1 39, Res.box b2 §7 33, Res.box b1 §27 30, Res.held w own] §18) rfl mixed rfl ?_
                refine D.q (i := 0) rfl §13 §9 rfl (q.ldS 8 rfl rfl tAgg_30) rfl <| D.q (i := 1) rfl §13 §9 rfl (q.ldS 2 rfl rfl tAgg_52) rfl <| D.q (i := 2) rfl §13 §9 rfl (q.mv rfl) rfl <| ?_
                refine D.one (i := 3) §13 rfl ?_
                refine Do.s (s.stV (us := §27) (cs' := §27) 8 _ rfl rfl rfl (fun _ _ => rfl) (.inl tAgg_30) §37 rfl rfl rfl) (fun _ => §9) rfl fun _ => ?_
                refine D.one (i := 4) §13 rfl ?_
                refine Do.s §40 (fun _ => §9) rfl fun _ => ?_
                refine D.q (i := 5) rfl §13 §9 rfl (q.as rfl) rfl <| D.q (i := 6) rfl §13 §9 rfl (q.as rfl) rfl <| D.done §13 <| ?_
                refine R.mp (B' := [Res.row 52 v2 (((r.Notes.take k) ++ (r.Notes.drop (k + 1))) : List Note), Res.row 93 z5 (putH r.Held §24 x1.Writ : List Held), Res.box b6 §2 52, Res.row 74 z2 (r.Things : List Thing), Res.row 52 z4 (r.Notes : List Note), Res.box b5 §1 39, Res.box b4 §2 52, Res.box b3 §27 30, Res.box b2 §7 33, Res.box b1 §27 30, Res.held w own]) (fun _ hw => hw.lendL 3 _ rfl rfl) ?_
                refine R.mp (B' := [Res.row 52 v2 (((r.Notes.take k) ++ (r.Notes.drop (k + 1))) : List Note), Res.row 93 z5 (putH r.Held §24 x1.Writ : List Held), Res.box b6 §2 52, Res.row 52 z4 (r.Notes : List Note), Res.box b5 §1 39, Res.box b4 §2 52, Res.box b3 §27 30, Res.box b2 §7 33, Res.box b1 §27 30, Res.held w own]) (fun _ hw => hw.lendL 3 _ rfl rfl) ?_
                refine R.mp (B' := [Res.row 52 v2 (((r.Notes.take k) ++ (r.Notes.drop (k + 1))) : List Note), Res.box b6 §2 52, Res.row 52 z4 (r.Notes : List Note), Res.box b5 §1 39, Res.box b4 §2 52, Res.box b3 §27 30, Res.box b2 §7 33, Res.box b1 §27 30, Res.held w own]) §47 ?_
                refine R.mp (B' := [Res.box b6 §2 52, Res.row 52 z4 (r.Notes : List Note), Res.box b5 §1 39, Res.box b4 §2 52, Res.box b3 §27 30, Res.box b2 §7 33, Res.box b1 §27 30, Res.held w own]) (fun _ hw => hw.lendL 0 _ rfl rfl) ?_
                have hz : takeR r p = §45 := by (unfold takeR; rw [if_pos mq, hix, Int.toNat_natCast, hx1, decide_eq_true (by omega)]; dsimp only; rw [if_pos (by omega), if_neg (by omega)]; rfl)
                rw [hz]
                exact R.w4 (z1, z2, z5, v2) [7] [3, 2, 1, 0] rfl Tryz.results37 (RV.cell 4 rfl rfl tAgg_30) (RV.cell 3 rfl rfl tAgg_52) (RV.tmp rfl) (RV.tmp rfl) rfl rfl rfl (tup4 rfl rfl rfl rfl)
              · refine Do.s §49 (fun _ => §17) rfl fun _ => ?_
                refine D.q (i := 9) rfl §13 §17 rfl §35 rfl <| ?_
                refine D.one (i := 4) §13 rfl ?_
                refine Do.s §31 (fun _ => §15) rfl fun v3 => ?_
                refine D.one (i := 10) §13 rfl ?_
                refine Do.s §21 (fun _ => §15) rfl fun v4 => ?_
                refine D.q (i := 11) rfl §13 §15 rfl §32 rfl <| ?_
                refine D.one (i := 12) §13 rfl ?_
                refine Do.s (s.stV (us := [v4]) (cs' := §28) 10 _ rfl rfl rfl (fun w hw => Sl.cells1 §33) (.inr ⟨tOne_28, rfl⟩) §58 rfl rfl rfl) (fun _ => §15) rfl fun _ => ?_
                refine D.done §13 <| ?_
                refine R.regD (fuel := 7) (Wd w (blks [] ++ own) [Res.row 52 v4 (((r.Notes.take k) ++ (r.Notes.drop (k + 1))) : List Note), Res.row 93 z5 (putH r.Held §24 x1.Writ : List Held), Res.box b6 §2 52, Res.row 39 z1 (r.Writs : List Writ), Res.row 74 z2 (r.Things : List Thing), Res.row 52 z4 (r.Notes : List Note), Res.box b5 §1 39, Res.box b2 §7 33, Res.box b1 §28 30, Res.held w own] §18) rfl mixed rfl ?_
                refine D.q (i := 0) rfl §13 §9 rfl (q.ldS 8 rfl rfl tAgg_30) rfl <| D.q (i := 1) rfl §13 §9 rfl (q.ldS 2 rfl rfl tAgg_52) rfl <| D.q (i := 2) rfl §13 §9 rfl (q.mv rfl) rfl <| ?_
                refine D.one (i := 3) §13 rfl ?_
                refine Do.s (s.stV (us := §28) (cs' := §28) 8 _ rfl rfl rfl (fun _ _ => rfl) (.inl tAgg_30) §37 rfl rfl rfl) (fun _ => §9) rfl fun _ => ?_
                refine D.one (i := 4) §13 rfl ?_
                refine Do.s §40 (fun _ => §9) rfl fun _ => ?_
                refine D.q (i := 5) rfl §13 §9 rfl (q.as rfl) rfl <| D.q (i := 6) rfl §13 §9 rfl (q.as rfl) rfl <| D.done §13 <| ?_
                refine R.mp (B' := [Res.row 52 v4 (((r.Notes.take k) ++ (r.Notes.drop (k + 1))) : List Note), Res.row 93 z5 (putH r.Held §24 x1.Writ : List Held), Res.box b6 §2 52, Res.row 74 z2 (r.Things : List Thing), Res.row 52 z4 (r.Notes : List Note), Res.box b5 §1 39, Res.box b4 §2 52, Res.box b3 §28 30, Res.box b2 §7 33, Res.box b1 §28 30, Res.held w own]) (fun _ hw => hw.lendL 3 _ rfl rfl) ?_
                refine R.mp (B' := [Res.row 52 v4 (((r.Notes.take k) ++ (r.Notes.drop (k + 1))) : List Note), Res.row 93 z5 (putH r.Held §24 x1.Writ : List Held), Res.box b6 §2 52, Res.row 52 z4 (r.Notes : List Note), Res.box b5 §1 39, Res.box b4 §2 52, Res.box b3 §28 30, Res.box b2 §7 33, Res.box b1 §28 30, Res.held w own]) (fun _ hw => hw.lendL 3 _ rfl rfl) ?_
                refine R.mp (B' := [Res.row 52 v4 (((r.Notes.take k) ++ (r.Notes.drop (k + 1))) : List Note), Res.box b6 §2 52, Res.row 52 z4 (r.Notes : List Note), Res.box b5 §1 39, Res.box b4 §2 52, Res.box b3 §28 30, Res.box b2 §7 33, Res.box b1 §28 30, Res.held w own]) §47 ?_
                refine R.mp (B' := [Res.box b6 §2 52, Res.row 52 z4 (r.Notes : List Note), Res.box b5 §1 39, Res.box b4 §2 52, Res.box b3 §28 30, Res.box b2 §7 33, Res.box b1 §28 30, Res.held w own]) (fun _ hw => hw.lendL 0 _ rfl rfl) ?_
                have hz : takeR r p = §45 := by (unfold takeR; rw [if_pos mq, hix, Int.toNat_natCast, hx1, decide_eq_true (by omega)]; dsimp only; rw [if_pos (by omega), if_neg (by omega)]; rfl)
                rw [hz]
                exact R.w4 (z1, z2, z5, v4) [7] [3, 2, 1, 0] rfl Tryz.results37 (RV.cell 4 rfl rfl tAgg_30) (RV.cell 3 rfl rfl tAgg_52) (RV.tmp rfl) (RV.tmp rfl) rfl rfl rfl (tup4 rfl rfl rfl rfl)
            · refine Do.s §49 (fun _ => §17) rfl fun _ => ?_
              refine D.q (i := 9) rfl §13 §17 rfl §35 rfl <| ?_
              refine D.one (i := 1) §13 rfl ?_
              refine Do.s §49 (fun _ => §17) rfl fun _ => ?_
              refine D.q (i := 3) rfl §13 §17 rfl §44 rfl <| ?_
              refine D.one (i := 4) §13 rfl ?_
              refine Do.s §31 (fun _ => §15) rfl fun v5 => ?_
              refine D.one (i := 10) §13 rfl ?_
              refine Do.s §21 (fun _ => §15) rfl fun v6 => ?_
              refine D.q (i := 11) rfl §13 §15 rfl §32 rfl <| ?_
              refine D.one (i := 12) §13 rfl ?_
              refine Do.s (s.stV (us := [v6]) (cs' := §29) 10 _ rfl rfl rfl (fun w hw => Sl.cells1 §33) (.inr ⟨tOne_28, rfl⟩) §58 rfl rfl rfl) (fun _ => §15) rfl fun _ => ?_
              refine D.done §13 <| ?_
              refine R.regD (fuel := 7) (Wd w (blks [] ++ own) [Res.row 52 v6 (((r.Notes.take k) ++ (r.Notes.drop (k + 1))) : List Note), Res.row 93 z5 (putH r.Held §24 x1.Writ : List Held), Res.box b6 §2 52, Res.row 39 z1 (r.Writs : List Writ), Res.row 74 z2 (r.Things : List Thing), Res.row 52 z4 (r.Notes : List Note), Res.box b5 §1 39, Res.box b2 §7 33, Res.box b1 §29 30, Res.held w own] §18) rfl mixed rfl ?_
              refine D.q (i := 0) rfl §13 §9 rfl (q.ldS 8 rfl rfl tAgg_30) rfl <| D.q (i := 1) rfl §13 §9 rfl (q.ldS 2 rfl rfl tAgg_52) rfl <| D.q (i := 2) rfl §13 §9 rfl (q.mv rfl) rfl <| ?_
              refine D.one (i := 3) §13 rfl ?_
              refine Do.s (s.stV (us := §29) (cs' := §29) 8 _ rfl rfl rfl (fun _ _ => rfl) (.inl tAgg_30) §37 rfl rfl rfl) (fun _ => §9) rfl fun _ => ?_
              refine D.one (i := 4) §13 rfl ?_
              refine Do.s §40 (fun _ => §9) rfl fun _ => ?_
              refine D.q (i := 5) rfl §13 §9 rfl (q.as rfl) rfl <| D.q (i := 6) rfl §13 §9 rfl (q.as rfl) rfl <| D.done §13 <| ?_
              refine R.mp (B' := [Res.row 52 v6 (((r.Notes.take k) ++ (r.Notes.drop (k + 1))) : List Note), Res.row 93 z5 (putH r.Held §24 x1.Writ : List Held), Res.box b6 §2 52, Res.row 74 z2 (r.Things : List Thing), Res.row 52 z4 (r.Notes : List Note), Res.box b5 §1 39, Res.box b4 §2 52, Res.box b3 §29 30, Res.box b2 §7 33, Res.box b1 §29 30, Res.held w own]) (fun _ hw => hw.lendL 3 _ rfl rfl) ?_
              refine R.mp (B' := [Res.row 52 v6 (((r.Notes.take k) ++ (r.Notes.drop (k + 1))) : List Note), Res.row 93 z5 (putH r.Held §24 x1.Writ : List Held), Res.box b6 §2 52, Res.row 52 z4 (r.Notes : List Note), Res.box b5 §1 39, Res.box b4 §2 52, Res.box b3 §29 30, Res.box b2 §7 33, Res.box b1 §29 30, Res.held w own]) (fun _ hw => hw.lendL 3 _ rfl rfl) ?_
              refine R.mp (B' := [Res.row 52 v6 (((r.Notes.take k) ++ (r.Notes.drop (k + 1))) : List Note), Res.box b6 §2 52, Res.row 52 z4 (r.Notes : List Note), Res.box b5 §1 39, Res.box b4 §2 52, Res.box b3 §29 30, Res.box b2 §7 33, Res.box b1 §29 30, Res.held w own]) §47 ?_
              refine R.mp (B' := [Res.box b6 §2 52, Res.row 52 z4 (r.Notes : List Note), Res.box b5 §1 39, Res.box b4 §2 52, Res.box b3 §29 30, Res.box b2 §7 33, Res.box b1 §29 30, Res.held w own]) (fun _ hw => hw.lendL 0 _ rfl rfl) ?_
              have hz : takeR r p = §45 := by (unfold takeR; rw [if_pos mq, hix, Int.toNat_natCast, hx1, decide_eq_true (by omega)]; dsimp only; rw [if_pos (by omega), if_neg (by omega)]; rfl)
              rw [hz]
              exact R.w4 (z1, z2, z5, v6) [7] [3, 2, 1, 0] rfl Tryz.results37 (RV.cell 4 rfl rfl tAgg_30) (RV.cell 3 rfl rfl tAgg_52) (RV.tmp rfl) (RV.tmp rfl) rfl rfl rfl (tup4 rfl rfl rfl rfl)
        · refine R.q §62 rfl <| R.nil ?_
          refine R.condF rfl rfl ?_
          refine R.regD (fuel := 13) (Wd w (blks [] ++ own) [Res.box b6 §2 52, Res.row 39 z1 (r.Writs : List Writ), Res.row 74 z2 (r.Things : List Thing), Res.row 93 z3 (r.Held : List Held), Res.row 52 z4 (r.Notes : List Note), Res.box b5 §1 39, Res.box b4 §14 52, Res.box b3 §3 30, Res.box b2 §7 33, Res.held w own] §8) rfl mixed rfl ?_
          refine D.q (i := 0) rfl §13 §19 rfl §32 rfl <| D.q (i := 2) rfl §13 §19 rfl (q.mv rfl) rfl <| D.q (i := 5) rfl §13 §19 rfl §32 rfl <| D.q (i := 7) rfl §13 §19 rfl (q.mv rfl) rfl <| D.q (i := 8) rfl §13 §19 rfl §64 rfl <| ?_
          refine D.two (i := 1) (j := 6) §13 rfl rfl ?_ ?_
          · refine Do.s §49 (fun _ => §19) rfl fun _ => ?_
            refine D.q (i := 3) rfl §13 §19 rfl §44 rfl <| ?_
            refine D.two (i := 4) (j := 6) §13 rfl rfl ?_ ?_
            · refine Do.s §31 (fun _ => §16) rfl fun v7 => ?_
              refine D.one (i := 6) §13 rfl ?_
              refine Do.s (s.c (Qt.a (q.ld 10 rfl rfl tOne_28 rfl)) rfl) (fun _ => §16) rfl fun _ => ?_
              refine D.q (i := 9) rfl §13 §16 rfl §35 rfl <| ?_
              refine D.one (i := 10) §13 rfl ?_
              refine Do.s §21 (fun _ => §16) rfl fun v8 => ?_
              refine D.q (i := 11) rfl §13 §16 rfl §32 rfl <| ?_
              refine D.one (i := 12) §13 rfl ?_
              refine Do.s (s.stV (us := [v8]) (cs' := §30) 10 _ rfl rfl rfl (fun w hw => Sl.cells1 §33) (.inr ⟨tOne_28, rfl⟩) §58 rfl rfl rfl) (fun _ => §16) rfl fun _ => ?_
              refine D.done §13 <| ?_
              refine R.regD (fuel := 7) (Wd w (blks [] ++ own) [Res.row 52 v8 (((r.Notes.take k) ++ (r.Notes.drop (k + 1))) : List Note), Res.box b6 §2 52, Res.row 39 z1 (r.Writs : List Writ), Res.row 74 z2 (r.Things : List Thing), Res.row 93 z3 (r.Held : List Held), Res.row 52 z4 (r.Notes : List Note), Res.box b5 §1 39, Res.box b2 §7 33, Res.box b1 §30 30, Res.held w own] §8) rfl mixed rfl ?_
              refine D.q (i := 0) rfl §13 §10 rfl (q.ldS 8 rfl rfl tAgg_30) rfl <| D.q (i := 1) rfl §13 §10 rfl (q.ldS 1 rfl rfl tAgg_52) rfl <| D.q (i := 2) rfl §13 §10 rfl (q.mv rfl) rfl <| ?_
              refine D.one (i := 3) §13 rfl ?_
              refine Do.s (s.stV (us := §30) (cs' := §30) 8 _ rfl rfl rfl (fun _ _ => rfl) (.inl tAgg_30) §38 rfl rfl rfl) (fun _ => §10) rfl fun _ => ?_
              refine D.one (i := 4) §13 rfl ?_
              refine Do.s §40 (fun _ => §10) rfl fun _ => ?_
              refine D.q (i := 5) rfl §13 §10 rfl (q.as rfl) rfl <| D.q (i := 6) rfl §13 §10 rfl (q.as rfl) rfl <| D.done §13 <| ?_
              refine R.mp (B' := [Res.row 52 v8 (((r.Notes.take k) ++ (r.Notes.drop (k + 1))) : List Note), Res.box b6 §2 52, Res.row 74 z2 (r.Things : List Thing), Res.row 93 z3 (r.Held : List Held), Res.row 52 z4 (r.Notes : List Note), Res.box b5 §1 39, Res.box b4 §2 52, Res.box b3 §30 30, Res.box b2 §7 33, Res.box b1 §30 30, Res.held w own]) §42 ?_
              refine R.mp (B' := [Res.row 52 v8 (((r.Notes.take k) ++ (r.Notes.drop (k + 1))) : List Note), Res.box b6 §2 52, Res.row 93 z3 (r.Held : List Held), Res.row 52 z4 (r.Notes : List Note), Res.box b5 §1 39, Res.box b4 §2 52, Res.box b3 §30 30, Res.box b2 §7 33, Res.box b1 §30 30, Res.held w own]) §42 ?_
              refine R.mp (B' := [Res.row 52 v8 (((r.Notes.take k) ++ (r.Notes.drop (k + 1))) : List Note), Res.box b6 §2 52, Res.row 52 z4 (r.Notes : List Note), Res.box b5 §1 39, Res.box b4 §2 52, Res.box b3 §30 30, Res.box b2 §7 33, Res.box b1 §30 30, Res.held w own]) §42 ?_
              refine R.mp (B' := [Res.box b6 §2 52, Res.row 52 z4 (r.Notes : List Note), Res.box b5 §1 39, Res.box b4 §2 52, Res.box b3 §30 30, Res.box b2 §7 33, Res.box b1 §30 30, Res.held w own]) (fun _ hw => hw.lendL 0 _ rfl rfl) ?_
              have hz : takeR r p = §60 := by (unfold takeR; rw [if_pos mq, hix, Int.toNat_natCast, hx1, decide_eq_true (by omega)]; dsimp only; rw [if_neg (by omega)]; rfl)
              rw [hz]
              exact R.w4 (z1, z2, z3, v8) [7] [3, 2, 1, 0] rfl Tryz.results37 (RV.cell 4 rfl rfl tAgg_30) (RV.cell 3 rfl rfl tAgg_52) (RV.tmp rfl) (RV.tmp rfl) rfl rfl rfl (tup4 rfl rfl rfl rfl)
            · refine Do.s §49 (fun _ => §19) rfl fun _ => ?_
              refine D.q (i := 9) rfl §13 §19 rfl §35 rfl <| ?_
              refine D.one (i := 4) §13 rfl ?_
              refine Do.s §31 (fun _ => §16) rfl fun v9 => ?_
              refine D.one (i := 10) §13 rfl ?_
              refine Do.s §21 (fun _ => §16) rfl fun v10 => ?_
              refine D.q (i := 11) rfl §13 §16 rfl §32 rfl <| ?_
              refine D.one (i := 12) §13 rfl ?_
              refine Do.s (s.stV (us := [v10]) (cs' := §25) 10 _ rfl rfl rfl (fun w hw => Sl.cells1 §33) (.inr ⟨tOne_28, rfl⟩) §58 rfl rfl rfl) (fun _ => §16) rfl fun _ => ?_
              refine D.done §13 <| ?_
              refine R.regD (fuel := 7) (Wd w (blks [] ++ own) [Res.row 52 v10 (((r.Notes.take k) ++ (r.Notes.drop (k + 1))) : List Note), Res.box b6 §2 52, Res.row 39 z1 (r.Writs : List Writ), Res.row 74 z2 (r.Things : List Thing), Res.row 93 z3 (r.Held : List Held), Res.row 52 z4 (r.Notes : List Note), Res.box b5 §1 39, Res.box b2 §7 33, Res.box b1 §25 30, Res.held w own] §8) rfl mixed rfl ?_
              refine D.q (i := 0) rfl §13 §10 rfl (q.ldS 8 rfl rfl tAgg_30) rfl <| D.q (i := 1) rfl §13 §10 rfl (q.ldS 1 rfl rfl tAgg_52) rfl <| D.q (i := 2) rfl §13 §10 rfl (q.mv rfl) rfl <| ?_
              refine D.one (i := 3) §13 rfl ?_
              refine Do.s (s.stV (us := §25) (cs' := §25) 8 _ rfl rfl rfl (fun _ _ => rfl) (.inl tAgg_30) §38 rfl rfl rfl) (fun _ => §10) rfl fun _ => ?_
              refine D.one (i := 4) §13 rfl ?_
              refine Do.s §40 (fun _ => §10) rfl fun _ => ?_
              refine D.q (i := 5) rfl §13 §10 rfl (q.as rfl) rfl <| D.q (i := 6) rfl §13 §10 rfl (q.as rfl) rfl <| D.done §13 <| ?_
              refine R.mp (B' := [Res.row 52 v10 (((r.Notes.take k) ++ (r.Notes.drop (k + 1))) : List Note), Res.box b6 §2 52, Res.row 74 z2 (r.Things : List Thing), Res.row 93 z3 (r.Held : List Held), Res.row 52 z4 (r.Notes : List Note), Res.box b5 §1 39, Res.box b4 §2 52, Res.box b3 §25 30, Res.box b2 §7 33, Res.box b1 §25 30, Res.held w own]) §42 ?_
              refine R.mp (B' := [Res.row 52 v10 (((r.Notes.take k) ++ (r.Notes.drop (k + 1))) : List Note), Res.box b6 §2 52, Res.row 93 z3 (r.Held : List Held), Res.row 52 z4 (r.Notes : List Note), Res.box b5 §1 39, Res.box b4 §2 52, Res.box b3 §25 30, Res.box b2 §7 33, Res.box b1 §25 30, Res.held w own]) §42 ?_
              refine R.mp (B' := [Res.row 52 v10 (((r.Notes.take k) ++ (r.Notes.drop (k + 1))) : List Note), Res.box b6 §2 52, Res.row 52 z4 (r.Notes : List Note), Res.box b5 §1 39, Res.box b4 §2 52, Res.box b3 §25 30, Res.box b2 §7 33, Res.box b1 §25 30, Res.held w own]) §42 ?_
              refine R.mp (B' := [Res.box b6 §2 52, Res.row 52 z4 (r.Notes : List Note), Res.box b5 §1 39, Res.box b4 §2 52, Res.box b3 §25 30, Res.box b2 §7 33, Res.box b1 §25 30, Res.held w own]) (fun _ hw => hw.lendL 0 _ rfl rfl) ?_
              have hz : takeR r p = §60 := by (unfold takeR; rw [if_pos mq, hix, Int.toNat_natCast, hx1, decide_eq_true (by omega)]; dsimp only; rw [if_neg (by omega)]; rfl)
              rw [hz]
              exact R.w4 (z1, z2, z3, v10) [7] [3, 2, 1, 0] rfl Tryz.results37 (RV.cell 4 rfl rfl tAgg_30) (RV.cell 3 rfl rfl tAgg_52) (RV.tmp rfl) (RV.tmp rfl) rfl rfl rfl (tup4 rfl rfl rfl rfl)
          · refine Do.s §49 (fun _ => §19) rfl fun _ => ?_
            refine D.q (i := 9) rfl §13 §19 rfl §35 rfl <| ?_
            refine D.one (i := 1) §13 rfl ?_
            refine Do.s §49 (fun _ => §19) rfl fun _ => ?_
            refine D.q (i := 3) rfl §13 §19 rfl §44 rfl <| ?_
            refine D.one (i := 4) §13 rfl ?_
            refine Do.s §31 (fun _ => §16) rfl fun v11 => ?_
            refine D.one (i := 10) §13 rfl ?_
            refine Do.s §21 (fun _ => §16) rfl fun v12 => ?_
            refine D.q (i := 11) rfl §13 §16 rfl §32 rfl <| ?_
            refine D.one (i := 12) §13 rfl ?_
            refine Do.s (s.stV (us := [v12]) (cs' := §26) 10 _ rfl rfl rfl (fun w hw => Sl.cells1 §33) (.inr ⟨tOne_28, rfl⟩) §58 rfl rfl rfl) (fun _ => §16) rfl fun _ => ?_
            refine D.done §13 <| ?_
            refine R.regD (fuel := 7) (Wd w (blks [] ++ own) [Res.row 52 v12 (((r.Notes.take k) ++ (r.Notes.drop (k + 1))) : List Note), Res.box b6 §2 52, Res.row 39 z1 (r.Writs : List Writ), Res.row 74 z2 (r.Things : List Thing), Res.row 93 z3 (r.Held : List Held), Res.row 52 z4 (r.Notes : List Note), Res.box b5 §1 39, Res.box b2 §7 33, Res.box b1 §26 30, Res.held w own] §8) rfl mixed rfl ?_
            refine D.q (i := 0) rfl §13 §10 rfl (q.ldS 8 rfl rfl tAgg_30) rfl <| D.q (i := 1) rfl §13 §10 rfl (q.ldS 1 rfl rfl tAgg_52) rfl <| D.q (i := 2) rfl §13 §10 rfl (q.mv rfl) rfl <| ?_
            refine D.one (i := 3) §13 rfl ?_
            refine Do.s (s.stV (us := §26) (cs' := §26) 8 _ rfl rfl rfl (fun _ _ => rfl) (.inl tAgg_30) §38 rfl rfl rfl) (fun _ => §10) rfl fun _ => ?_
            refine D.one (i := 4) §13 rfl ?_
            refine Do.s §40 (fun _ => §10) rfl fun _ => ?_
            refine D.q (i := 5) rfl §13 §10 rfl (q.as rfl) rfl <| D.q (i := 6) rfl §13 §10 rfl (q.as rfl) rfl <| D.done §13 <| ?_
            refine R.mp (B' := [Res.row 52 v12 (((r.Notes.take k) ++ (r.Notes.drop (k + 1))) : List Note), Res.box b6 §2 52, Res.row 74 z2 (r.Things : List Thing), Res.row 93 z3 (r.Held : List Held), Res.row 52 z4 (r.Notes : List Note), Res.box b5 §1 39, Res.box b4 §2 52, Res.box b3 §26 30, Res.box b2 §7 33, Res.box b1 §26 30, Res.held w own]) §42 ?_
            refine R.mp (B' := [Res.row 52 v12 (((r.Notes.take k) ++ (r.Notes.drop (k + 1))) : List Note), Res.box b6 §2 52, Res.row 93 z3 (r.Held : List Held), Res.row 52 z4 (r.Notes : List Note), Res.box b5 §1 39, Res.box b4 §2 52, Res.box b3 §26 30, Res.box b2 §7 33, Res.box b1 §26 30, Res.held w own]) §42 ?_
            refine R.mp (B' := [Res.row 52 v12 (((r.Notes.take k) ++ (r.Notes.drop (k + 1))) : List Note), Res.box b6 §2 52, Res.row 52 z4 (r.Notes : List Note), Res.box b5 §1 39, Res.box b4 §2 52, Res.box b3 §26 30, Res.box b2 §7 33, Res.box b1 §26 30, Res.held w own]) §42 ?_
            refine R.mp (B' := [Res.box b6 §2 52, Res.row 52 z4 (r.Notes : List Note), Res.box b5 §1 39, Res.box b4 §2 52, Res.box b3 §26 30, Res.box b2 §7 33, Res.box b1 §26 30, Res.held w own]) (fun _ hw => hw.lendL 0 _ rfl rfl) ?_
            have hz : takeR r p = §60 := by (unfold takeR; rw [if_pos mq, hix, Int.toNat_natCast, hx1, decide_eq_true (by omega)]; dsimp only; rw [if_neg (by omega)]; rfl)
            rw [hz]
            exact R.w4 (z1, z2, z3, v12) [7] [3, 2, 1, 0] rfl Tryz.results37 (RV.cell 4 rfl rfl tAgg_30) (RV.cell 3 rfl rfl tAgg_52) (RV.tmp rfl) (RV.tmp rfl) rfl rfl rfl (tup4 rfl rfl rfl rfl)
      · refine R.q (q.neq rfl rfl (bne_iff_ne.2 (by omega))) rfl <| R.nil ?_
        refine R.condT rfl rfl ?_
        refine R.reg rfl <| R.u 1 rfl <| R.q §64 rfl <| R.u 1 rfl <| R.nil ?_
        refine R.back (k + 1) rfl (by (exact ⟨by omega, none_step (p := fun y : Note => y.Port == (mayR r p 2 1).1.Thing) HA hx1 (beq_eq_false_iff_ne.2 (by omega))⟩)) (by omega) ⟨rfl, rfl, rfl, rfl, rfl, rfl, trivial⟩ (fun _ => Wd.pik [1, 2, 3, 4, 5, 6, 7, 8, 9, 10] [0, 1, 2, 3] rfl rfl rfl)
    · refine R.q (q.lss rfl rfl (decide_eq_false (by omega))) rfl <| R.nil ?_
      refine R.condF rfl rfl ?_
      refine R.reg rfl <| R.q §51 rfl <| R.q (q.build (cs := §14) tB_52 rfl rfl) rfl <| ?_
      refine R.s rfl (s.st (us := §3) (cs' := §3) 6 _ rfl rfl rfl rfl (.inl tAgg_30) rfl rfl rfl rfl) fun _ => ?_
      refine R.s rfl (s.st (us := §14) (cs' := §14) 5 _ rfl rfl rfl rfl (.inl tAgg_52) rfl rfl rfl rfl) fun _ => ?_
      refine R.u 2 rfl <| R.nil ?_
      refine R.mp §54 ?_
      refine R.mp §52 ?_
      refine R.mp §55 ?_
      refine R.mp §56 ?_
      have hz : takeR r p = (§50, (⟨0, ⟨#[]⟩, 0, 0⟩ : Note), 0, 5) := by (have hix : idxOf (fun n : Note => n.Port == (mayR r p 2 1).1.Thing) r.Notes = -1 := idxOf_miss (by omega) HA; unfold takeR; rw [if_pos mq, hix, show decide ((0 : Int) ≤ -1) = false from rfl]; cases r.Notes[(-1 : Int).toNat]? <;> rfl)
      rw [hz]
      exact R.w4 ((.slice none 0 0), (.slice none 0 0), (.slice none 0 0), (.slice none 0 0)) [9] [3, 2, 1, 0] rfl Tryz.results37 (RV.cell 6 rfl rfl tAgg_30) (RV.cell 5 rfl rfl tAgg_52) (RV.tmp rfl) (RV.tmp rfl) rfl rfl rfl (tup4 rfl rfl rfl rfl)

end Go.Proofs.YtpipachmngdegaaGreat
end
