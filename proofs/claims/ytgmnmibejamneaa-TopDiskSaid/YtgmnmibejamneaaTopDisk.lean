/-
  The walk of a law of the disk: what was flushed is there behind any fall.
-/
import Derived.Test.YtgmnmibejamneaaDiskW
import Derived.Test.YtgmnmibejamneaaLight
namespace Go.Proofs.Ytgmnmibejamneaa
open Go Go.RowKit
set_option linter.unusedVariables false
set_option linter.unusedSimpArgs false
set_option maxRecDepth 100000

/-- a disk of four sectors, sector by sector -/
theorem four_is {m : Nat} {d : Dsk} (h : DOk 4 m d) (hd : d.Down = false) : d.Now = [(dRead d 0).1, (dRead d 1).1, (dRead d 2).1, (dRead d 3).1] := by
  have hl := h.nl
  match hn : d.Now, hl with
  | [a, b, c, e], _ =>
    rw [show dRead d 0 = (a, 0) from dRead_live (i := 0) hd (by rw [hn]; rfl), show dRead d 1 = (b, 0) from dRead_live (i := 1) hd (by rw [hn]; rfl), show dRead d 2 = (c, 0) from dRead_live (i := 2) hd (by rw [hn]; rfl), show dRead d 3 = (e, 0) from dRead_live (i := 3) hd (by rw [hn]; rfl)]
theorem four_ok {m : Nat} {d : Dsk} (h : DOk 4 m d) (hd : d.Down = false) : (dRead d 0).2 = 0 ∧ (dRead d 1).2 = 0 ∧ (dRead d 2).2 = 0 ∧ (dRead d 3).2 = 0 := by
  have hl := h.nl
  match hn : d.Now, hl with
  | [a, b, c, e], _ =>
    rw [show dRead d 0 = (a, 0) from dRead_live (i := 0) hd (by rw [hn]; rfl), show dRead d 1 = (b, 0) from dRead_live (i := 1) hd (by rw [hn]; rfl), show dRead d 2 = (c, 0) from dRead_live (i := 2) hd (by rw [hn]; rfl), show dRead d 3 = (e, 0) from dRead_live (i := 3) hd (by rw [hn]; rfl)]
    exact ⟨rfl, rfl, rfl, rfl⟩
theorem four_at {d : Dsk} {a b c e : ByteArray} (hd : d.Down = false) (hn : d.Now = [a, b, c, e]) : dRead d 0 = (a, 0) ∧ dRead d 1 = (b, 0) ∧ dRead d 2 = (c, 0) ∧ dRead d 3 = (e, 0) :=
  ⟨dRead_live (i := 0) hd (by rw [hn]; rfl), dRead_live (i := 1) hd (by rw [hn]; rfl), dRead_live (i := 2) hd (by rw [hn]; rfl), dRead_live (i := 3) hd (by rw [hn]; rfl)⟩
/-- how it stands while more is written -/
structure More (kp : Int) (k c : Nat) (em : Dsk) (s0 s1 s2 s3 : ByteArray) : Prop where
  ok : DOk 4 k em
  cl : c = em.Wait.length
  down : em.Down = false
  fuse : em.Fuse = -1
  lay : layT kp em.Wait em.Kept = [s0, s1, s2, s3]
theorem More.skip {kp : Int} {k c : Nat} {em : Dsk} {s0 s1 s2 s3 : ByteArray} (h : More kp k c em s0 s1 s2 s3) {i : Int} {x : ByteArray} (hw : ¬ (dWrite em i x).2 = 0) : More kp (k + 1) c (dWrite em i x).1 s0 s1 s2 s3 := by
  rw [dWrite_keep h.down h.fuse hw]; exact ⟨h.ok.up (by omega), h.cl, h.down, h.fuse, h.lay⟩
theorem More.miss {kp : Int} {k c : Nat} {em : Dsk} {s0 s1 s2 s3 : ByteArray} (h : More kp k c em s0 s1 s2 s3) {i : Int} {x : ByteArray} (hw : (dWrite em i x).2 = 0) (hc : c < 64) (hb : ¬ kp / ((2 ^ c : Nat) : Int) % 2 = 1) : More kp (k + 1) (c + 1) (dWrite em i x).1 s0 s1 s2 s3 := by
  have hok := h.ok.write i x
  have hcl := h.cl
  have e := (dWrite_yes h.down h.fuse hw).1
  rw [e] at hok ⊢
  refine ⟨hok, by simp; omega, rfl, rfl, ?_⟩
  show layT kp (em.Wait ++ [_]) em.Kept = _
  rw [layT_add, h.lay, ← h.cl]
  exact if_neg (fun hh => hb ((bitOf_small hc).mp hh))
theorem More.hit {kp : Int} {k c : Nat} {em : Dsk} {s0 s1 s2 s3 : ByteArray} (h : More kp k c em s0 s1 s2 s3) {i : Int} {x : ByteArray} (hw : (dWrite em i x).2 = 0) (hc : c < 64) (hb : kp / ((2 ^ c : Nat) : Int) % 2 = 1) :
    (dRead (dWrite em i x).1 i).2 = 0 ∧ (i = 0 ∨ i = 1 ∨ i = 2 ∨ i = 3) ∧ (i = 0 → More kp (k + 1) (c + 1) (dWrite em i x).1 (dRead (dWrite em i x).1 i).1 s1 s2 s3) ∧ (i = 1 → More kp (k + 1) (c + 1) (dWrite em i x).1 s0 (dRead (dWrite em i x).1 i).1 s2 s3) ∧
    (i = 2 → More kp (k + 1) (c + 1) (dWrite em i x).1 s0 s1 (dRead (dWrite em i x).1 i).1 s3) ∧ (i = 3 → More kp (k + 1) (c + 1) (dWrite em i x).1 s0 s1 s2 (dRead (dWrite em i x).1 i).1) := by
  have hok := h.ok.write i x
  have hcl := h.cl
  obtain ⟨e, b0, b1, b2⟩ := dWrite_yes h.down h.fuse hw
  have hl := h.ok.nl
  rw [e] at hok ⊢
  have hrd : dRead (⟨em.Kept, em.Now.set i.toNat (full x), em.Wait ++ [⟨i, full x⟩], -1, false⟩ : Dsk) i = (full x, 0) := dRead_ok rfl b0 (by
    show (em.Now.set i.toNat (full x))[i.toNat]? = _
    rw [List.getElem?_set_self (by omega)])
  dsimp only
  rw [hrd]
  have hlay : layT kp (em.Wait ++ [⟨i, full x⟩]) em.Kept = [s0, s1, s2, s3].set i.toNat (full x) := by
    rw [layT_add, h.lay, ← h.cl]
    exact if_pos ((bitOf_small hc).mpr hb)
  refine ⟨rfl, by omega, ?_, ?_, ?_, ?_⟩ <;> (rintro rfl; exact ⟨hok, by simp; omega, rfl, rfl, by rw [hlay]; rfl⟩)
theorem lightC_any (v_l : Value) (l : List Change) (most : Int) (w : World) (s_l : Sl w v_l l) : Calls Try.prog 46 #[v_l, .int .i64 most] w fun e w' => e = .returned (.bool (lightC l most)) ∧ Ext w w' := by
  have b_l := s_l.lenle
  refine R.enter (n := 32) (vs := [v_l, .int .i64 most]) [] [(0, v_l), (1, .int .i64 most)] Try.func46 rfl rfl rfl rfl ?_
  refine R.oldL s_l ?_
  refine R.reg rfl <| R.u 1 rfl <| R.nil ?_
  refine R.reg rfl <| R.u 1 rfl <| R.q (q.len' (fun _ => Wd.fls 0 rfl) rfl Try.underlying49) rfl <| R.u 1 rfl <| ?_
  by_cases h1 : most < (l.length : Int)
  · refine R.q (q.gtr rfl rfl (decide_eq_true (by omega))) rfl <| R.nil ?_
    refine R.condT rfl rfl ?_
    refine R.reg rfl <| R.u 1 rfl <| R.nil ?_
    exact R.rv rfl Try.results46 rfl (rB (by (unfold lightC; first | (rw [decide_eq_false (by omega)]; rfl) | (rw [decide_eq_true (by omega), all_up (by omega) HA]; rfl) | (rw [all_hit hx1 (show lightC1 _ = false from by unfold lightC1; simp; omega)]; simp) | (rw [all_hit hx1 (show lightC1 _ = false from by unfold lightC1; simp_all)]; simp))))
  · refine R.q (q.gtr rfl rfl (decide_eq_false (by omega))) rfl <| R.nil ?_
    refine R.condF rfl rfl ?_
    refine R.reg rfl <| R.u 1 rfl <| R.nil ?_
    refine R.loop (fun k : Nat => [(0, v_l), (5, .int .i64 (k : Int))]) (fun k : Nat => []) (fun k : Nat => [Res.ls v_l (l : List Change)]) (fun k : Nat => k ≤ l.length ∧ (l.take k).all lightC1 = true) (fun k : Nat => l.length - k) 0 rfl (by exact ⟨by omega, rfl⟩) ⟨rfl, rfl, trivial⟩ (fun _ => Wd.pick [] [0] rfl rfl rfl) ?_
    rintro k ⟨hk, HA⟩
    refine R.reg rfl <| R.u 2 rfl <| R.q (q.len' (fun _ => Wd.fls 0 rfl) rfl Try.underlying49) rfl <| ?_
    by_cases h2 : k < l.length
    · refine R.q (q.lss rfl rfl (decide_eq_true (by omega))) rfl <| R.nil ?_
      refine R.condT rfl rfl ?_
      refine R.reg rfl <| R.u 2 rfl <| ?_
      obtain ⟨x1, hx1⟩ : ∃ z, l[k]? = some z := ⟨_, List.getElem?_eq_getElem (by omega)⟩
      refine R.q (q.idx (i := k) (fun _ => Wd.fls 0 rfl) rfl rfl tSl_49 rfl hx1) rfl <| R.q (q.fldE (j' := 0) (fun _ => Wd.fls 0 rfl) hx1 rfl tFld_75_0 rfl) rfl <| R.q (q.ldE (fun _ => Wd.fls 0 rfl) hx1 rfl tOne_9 rfl) rfl <| R.q (q.lenS rfl Try.underlying9) rfl <| ?_
      by_cases h3 : 20 < x1.Key.size
      · refine R.q (q.gtr rfl rfl (decide_eq_true (by omega))) rfl <| R.u 9 rfl <| R.nil ?_
        refine R.condT rfl rfl ?_
        refine R.reg rfl <| R.u 1 rfl <| R.nil ?_
        exact R.rv rfl Try.results46 rfl (rB (by (unfold lightC; first | (rw [decide_eq_false (by omega)]; rfl) | (rw [decide_eq_true (by omega), all_up (by omega) HA]; rfl) | (rw [all_hit hx1 (show lightC1 _ = false from by unfold lightC1; simp; omega)]; simp) | (rw [all_hit hx1 (show lightC1 _ = false from by unfold lightC1; simp_all)]; simp))))
      · refine R.q (q.gtr rfl rfl (decide_eq_false (by omega))) rfl <| R.u 3 rfl <| R.qg rfl (q.idx (i := k) (fun _ => Wd.fls 0 rfl) rfl rfl tSl_49 rfl hx1) rfl <| R.qg rfl (q.fldE (j' := 1) (fun _ => Wd.fls 0 rfl) hx1 rfl tFld_75_1 rfl) rfl <| R.qg rfl (q.ldE (fun _ => Wd.fls 0 rfl) hx1 rfl tOne_9 rfl) rfl <| R.qg rfl (q.lenS rfl Try.underlying9) rfl <| ?_
        by_cases h4 : 40 < x1.Val.size
        · refine R.qg rfl (q.gtr rfl rfl (decide_eq_true (by omega))) rfl <| R.u 1 rfl <| R.nil ?_
          refine R.condT rfl rfl ?_
          refine R.reg rfl <| R.u 1 rfl <| R.nil ?_
          exact R.rv rfl Try.results46 rfl (rB (by (unfold lightC; first | (rw [decide_eq_false (by omega)]; rfl) | (rw [decide_eq_true (by omega), all_up (by omega) HA]; rfl) | (rw [all_hit hx1 (show lightC1 _ = false from by unfold lightC1; simp; omega)]; simp) | (rw [all_hit hx1 (show lightC1 _ = false from by unfold lightC1; simp_all)]; simp))))
        · refine R.qg rfl (q.gtr rfl rfl (decide_eq_false (by omega))) rfl <| R.u 1 rfl <| R.nil ?_
          refine R.condF rfl rfl ?_
          refine R.reg rfl <| R.u 1 rfl <| R.q (q.add (r := ((k + 1 : Nat) : Int)) rfl rfl (wr (by omega))) rfl <| R.u 1 rfl <| R.nil ?_
          refine R.back (k + 1) rfl (by (exact ⟨by omega, all_snoc hx1 HA (by unfold lightC1; simp_all)⟩)) (by omega) ⟨rfl, rfl, trivial⟩ (fun _ => Wd.pik [] [0] rfl rfl rfl)
    · refine R.q (q.lss rfl rfl (decide_eq_false (by omega))) rfl <| R.nil ?_
      refine R.condF rfl rfl ?_
      refine R.reg rfl <| R.u 1 rfl <| R.nil ?_
      exact R.rv rfl Try.results46 rfl (rB (by (unfold lightC; first | (rw [decide_eq_false (by omega)]; rfl) | (rw [decide_eq_true (by omega), all_up (by omega) HA]; rfl) | (rw [all_hit hx1 (show lightC1 _ = false from by unfold lightC1; simp; omega)]; simp) | (rw [all_hit hx1 (show lightC1 _ = false from by unfold lightC1; simp_all)]; simp))))

theorem lightA_any (v_l : Value) (l : List Deed) (most : Int) (w : World) (s_l : Sl w v_l l) (c_l : ∀ x ∈ l, Sl w x.cv x.Changes) : Calls Try.prog 23 #[v_l, .int .i64 most] w fun e w' => e = .returned (.bool (lightA l most)) ∧ Ext w w' := by
  have b_l := s_l.lenle
  refine R.enter (n := 32) (vs := [v_l, .int .i64 most]) [] [(0, v_l), (1, .int .i64 most)] Try.func23 rfl rfl rfl rfl ?_
  refine R.oldL s_l ?_
  refine R.oldF (r := Res.acts l) c_l (acts_lt c_l) ?_
  refine R.reg rfl <| R.u 1 rfl <| R.nil ?_
  refine R.reg rfl <| R.u 1 rfl <| R.q (q.len' (fun _ => Wd.fls 1 rfl) rfl Try.underlying36) rfl <| R.u 1 rfl <| ?_
  by_cases h1 : most < (l.length : Int)
  · refine R.q (q.gtr rfl rfl (decide_eq_true (by omega))) rfl <| R.nil ?_
    refine R.condT rfl rfl ?_
    refine R.reg rfl <| R.u 1 rfl <| R.nil ?_
    exact R.rv rfl Try.results23 rfl (rB (by (unfold lightA; first | (rw [decide_eq_false (by omega)]; rfl) | (rw [decide_eq_true (by omega), all_up (by omega) HA]; rfl) | (rw [all_hit hx1 (show lightA1 _ = false from by unfold lightA1; simp; omega)]; simp) | (rw [all_hit hx1 (show lightA1 _ = false from by unfold lightA1; simp_all)]; simp))))
  · refine R.q (q.gtr rfl rfl (decide_eq_false (by omega))) rfl <| R.nil ?_
    refine R.condF rfl rfl ?_
    refine R.reg rfl <| R.u 1 rfl <| R.nil ?_
    refine R.loop (fun k : Nat => [(0, v_l), (5, .int .i64 (k : Int))]) (fun k : Nat => []) (fun k : Nat => [Res.acts l, Res.ls v_l (l : List Deed)]) (fun k : Nat => k ≤ l.length ∧ (l.take k).all lightA1 = true) (fun k : Nat => l.length - k) 0 rfl (by exact ⟨by omega, rfl⟩) ⟨rfl, rfl, trivial⟩ (fun _ => Wd.pick [] [0, 1] rfl rfl rfl) ?_
    rintro k ⟨hk, HA⟩
    refine R.reg rfl <| R.u 2 rfl <| R.q (q.len' (fun _ => Wd.fls 1 rfl) rfl Try.underlying36) rfl <| ?_
    by_cases h2 : k < l.length
    · refine R.q (q.lss rfl rfl (decide_eq_true (by omega))) rfl <| R.nil ?_
      refine R.condT rfl rfl ?_
      refine R.reg rfl <| R.u 2 rfl <| ?_
      obtain ⟨x1, hx1⟩ : ∃ z, l[k]? = some z := ⟨_, List.getElem?_eq_getElem (by omega)⟩
      refine R.q (q.idx (i := k) (fun _ => Wd.fls 1 rfl) rfl rfl tSl_36 rfl hx1) rfl <| R.q (q.fldE (j' := 1) (fun _ => Wd.fls 1 rfl) hx1 rfl tFld_51_1 rfl) rfl <| R.q (q.ldE (fun _ => Wd.fls 1 rfl) hx1 rfl tOne_9 rfl) rfl <| R.q (q.lenS rfl Try.underlying9) rfl <| ?_
      by_cases h3 : 100 < x1.S.size
      · refine R.q (q.gtr rfl rfl (decide_eq_true (by omega))) rfl <| R.u 9 rfl <| R.nil ?_
        refine R.condT rfl rfl ?_
        refine R.reg rfl <| R.u 1 rfl <| R.nil ?_
        exact R.rv rfl Try.results23 rfl (rB (by (unfold lightA; first | (rw [decide_eq_false (by omega)]; rfl) | (rw [decide_eq_true (by omega), all_up (by omega) HA]; rfl) | (rw [all_hit hx1 (show lightA1 _ = false from by unfold lightA1; simp; omega)]; simp) | (rw [all_hit hx1 (show lightA1 _ = false from by unfold lightA1; simp_all)]; simp))))
      · refine R.q (q.gtr rfl rfl (decide_eq_false (by omega))) rfl <| R.u 3 rfl <| R.qg rfl (q.idx (i := k) (fun _ => Wd.fls 1 rfl) rfl rfl tSl_36 rfl hx1) rfl <| R.qg rfl (q.fldE (j' := 10) (fun _ => Wd.fls 1 rfl) hx1 rfl tFld_51_8 rfl) rfl <| R.qg rfl (q.ldE (fun _ => Wd.fls 1 rfl) hx1 rfl tOne_49 rfl) rfl <| ?_
        rcases Bool.eq_false_or_eq_true (lightC x1.Changes 70) with h4 | h4
        · refine R.cg rfl (q.call eg_46 rfl rfl (fun w hw => (cv (congrArg Value.bool h4) (lightC_any _ (x1.Changes) (70) w ((fun _ => Wd.actX (l := l) 0 rfl (List.mem_of_getElem? hx1)) w hw) )))) rfl <| R.u 2 rfl <| R.nil ?_
          refine R.condF rfl rfl ?_
          refine R.reg rfl <| R.u 1 rfl <| R.q (q.add (r := ((k + 1 : Nat) : Int)) rfl rfl (wr (by omega))) rfl <| R.u 1 rfl <| R.nil ?_
          refine R.back (k + 1) rfl (by (exact ⟨by omega, all_snoc hx1 HA (by unfold lightA1; simp_all)⟩)) (by omega) ⟨rfl, rfl, trivial⟩ (fun _ => Wd.pik [] [0, 1] rfl rfl rfl)
        · refine R.cg rfl (q.call eg_46 rfl rfl (fun w hw => (cv (congrArg Value.bool h4) (lightC_any _ (x1.Changes) (70) w ((fun _ => Wd.actX (l := l) 0 rfl (List.mem_of_getElem? hx1)) w hw) )))) rfl <| R.u 2 rfl <| R.nil ?_
          refine R.condT rfl rfl ?_
          refine R.reg rfl <| R.u 1 rfl <| R.nil ?_
          exact R.rv rfl Try.results23 rfl (rB (by (unfold lightA; first | (rw [decide_eq_false (by omega)]; rfl) | (rw [decide_eq_true (by omega), all_up (by omega) HA]; rfl) | (rw [all_hit hx1 (show lightA1 _ = false from by unfold lightA1; simp; omega)]; simp) | (rw [all_hit hx1 (show lightA1 _ = false from by unfold lightA1; simp_all)]; simp))))
    · refine R.q (q.lss rfl rfl (decide_eq_false (by omega))) rfl <| R.nil ?_
      refine R.condF rfl rfl ?_
      refine R.reg rfl <| R.u 1 rfl <| R.nil ?_
      exact R.rv rfl Try.results23 rfl (rB (by (unfold lightA; first | (rw [decide_eq_false (by omega)]; rfl) | (rw [decide_eq_true (by omega), all_up (by omega) HA]; rfl) | (rw [all_hit hx1 (show lightA1 _ = false from by unfold lightA1; simp; omega)]; simp) | (rw [all_hit hx1 (show lightA1 _ = false from by unfold lightA1; simp_all)]; simp))))

set_option maxRecDepth 100000 in
theorem topDisk_any (v_l : Value) (l : List Deed) (v_mo : Value) (mo : List Deed) (kp : Int) (w : World) (s_l : Sl w v_l l) (c_l : ∀ x ∈ l, Sl w x.cv x.Changes) (s_mo : Sl w v_mo mo) (c_mo : ∀ x ∈ mo, Sl w x.cv x.Changes) (hkp : 0 ≤ kp ∧ kp ≤ 18446744073709551615) : Calls Try.prog 12 #[v_l, v_mo, .int .u64 kp] w fun e w' => e = .returned (.bool true) ∧ Ext w w' := by
  have b_l := s_l.lenle
  have b_mo := s_mo.lenle
  have e0 : DOk 4 0 (dNew (Int.toNat 4)) := dNew_ok 4; have e1 := e0.flush; have e2 := e0.fine (by decide) (by decide); have e3 : dFlush (dNew (Int.toNat 4)) = (⟨(dNew (Int.toNat 4)).Now, (dNew (Int.toNat 4)).Now, [], -1, false⟩, 0) := dFlush_live rfl rfl; have e4 : (dFlush (dNew (Int.toNat 4))).2 = 0 := by rw [e3]
  have e5 : (dFlush (dNew (Int.toNat 4))).1.Now.length = 4 := e1.nl; have e6 : (dFlush (dNew (Int.toNat 4))).1.Down = false := by rw [e3]
  have e7 : (dFlush (dNew (Int.toNat 4))).1.Fuse = -1 := by rw [e3]
  refine R.enter (n := 152) (vs := [v_l, v_mo, .int .u64 kp]) [] [(0, v_l), (1, v_mo), (2, .int .u64 kp)] Try.func12 rfl rfl rfl rfl ?_
  refine R.oldL s_l ?_
  refine R.oldF (r := Res.acts l) c_l (acts_lt c_l) ?_
  refine R.oldL s_mo ?_
  refine R.oldF (r := Res.acts mo) c_mo (acts_lt c_mo) ?_
  refine R.reg rfl <| R.u 1 rfl <| R.nil ?_
  refine R.reg rfl <| ?_
  refine R.s (B' := (fun g_ : Nat × Value × Value × Value => [Res.box g_.1 [g_.2.1, g_.2.2.1, g_.2.2.2, .int .i64 (((dNew (Int.toNat 4))).Fuse), .bool (((dNew (Int.toNat 4))).Down)] 128, Res.row 9 g_.2.1 (((dNew (Int.toNat 4))).Kept : List ByteArray), Res.row 9 g_.2.2.1 (((dNew (Int.toNat 4))).Now : List ByteArray), Res.row 130 g_.2.2.2 (((dNew (Int.toNat 4))).Wait : List Turn)])) (F' := (fun g_ : Nat × Value × Value × Value => [Res.acts mo, Res.ls v_mo (mo : List Deed), Res.acts l, Res.ls v_l (l : List Deed)])) rfl (s.callV (B0 := []) (Br := []) (F0 := []) [] [] (fun g_ : Nat × Value × Value × Value => .tuple #[.pointer (some ⟨g_.1, 0, none⟩), .nilIface]) (fun g_ : Nat × Value × Value × Value => [Res.box g_.1 [g_.2.1, g_.2.2.1, g_.2.2.2, .int .i64 (((dNew (Int.toNat 4))).Fuse), .bool (((dNew (Int.toNat 4))).Down)] 128, Res.row 9 g_.2.1 (((dNew (Int.toNat 4))).Kept : List ByteArray), Res.row 9 g_.2.2.1 (((dNew (Int.toNat 4))).Now : List ByteArray), Res.row 130 g_.2.2.2 (((dNew (Int.toNat 4))).Wait : List Turn)]) (fun g_ : Nat × Value × Value × Value => []) rfl rfl rfl eg_24 rfl rfl (fun w own hw H => newD_any (4) w own H (by first | omega | assumption)) rfl) ?_
  rintro ⟨z1, z2, z3, z4⟩
  dsimp only
  refine R.u 5 rfl <| R.nil ?_
  refine R.reg rfl <| R.u 1 rfl <| R.q (q.neqNN rfl rfl Try.underlying26) rfl <| R.u 2 rfl <| R.qg rfl (q.eqlP rfl rfl Try.underlying39) rfl <| R.u 3 rfl <| ?_
  refine R.s (B' := (fun g_ : Value × Value × Value => [Res.box z1 [g_.1, g_.2.1, g_.2.2, .int .i64 ((((dFlush (dNew (Int.toNat 4)))).1).Fuse), .bool ((((dFlush (dNew (Int.toNat 4)))).1).Down)] 128, Res.row 9 g_.1 ((((dFlush (dNew (Int.toNat 4)))).1).Kept : List ByteArray), Res.row 9 g_.2.1 ((((dFlush (dNew (Int.toNat 4)))).1).Now : List ByteArray), Res.row 130 g_.2.2 ((((dFlush (dNew (Int.toNat 4)))).1).Wait : List Turn)])) (F' := (fun g_ : Value × Value × Value => [Res.acts mo, Res.ls v_mo (mo : List Deed), Res.acts l, Res.ls v_l (l : List Deed)])) rfl (s.callV (B0 := [Res.box z1 [z2, z3, z4, .int .i64 ((dNew (Int.toNat 4)).Fuse), .bool ((dNew (Int.toNat 4)).Down)] 128, Res.row 9 z2 ((dNew (Int.toNat 4)).Kept : List ByteArray), Res.row 9 z3 ((dNew (Int.toNat 4)).Now : List ByteArray), Res.row 130 z4 ((dNew (Int.toNat 4)).Wait : List Turn)]) (Br := []) (F0 := []) [0, 1, 2, 3] [] (fun g_ : Value × Value × Value => errv (((dFlush (dNew (Int.toNat 4)))).2)) (fun g_ : Value × Value × Value => [Res.box z1 [g_.1, g_.2.1, g_.2.2, .int .i64 ((((dFlush (dNew (Int.toNat 4)))).1).Fuse), .bool ((((dFlush (dNew (Int.toNat 4)))).1).Down)] 128, Res.row 9 g_.1 ((((dFlush (dNew (Int.toNat 4)))).1).Kept : List ByteArray), Res.row 9 g_.2.1 ((((dFlush (dNew (Int.toNat 4)))).1).Now : List ByteArray), Res.row 130 g_.2.2 ((((dFlush (dNew (Int.toNat 4)))).1).Wait : List Turn)]) (fun g_ : Value × Value × Value => []) rfl rfl rfl eg_31 rfl rfl (fun w own hw H => dFlush_any z1 z2 z3 z4 ((dNew (Int.toNat 4))) w own H (by first | assumption | omega)) rfl) ?_
  rintro ⟨z5, z6, z7⟩
  dsimp only
  refine R.qg rfl (q.neqE0 rfl rfl Try.underlying26 (by omega)) rfl <| R.u 3 rfl <| R.cg rfl (q.call eg_26 rfl rfl (fun w hw => (dSectors_any z1 z5 z6 z7 (((dFlush (dNew (Int.toNat 4))).1)) w (hw.b 0 rfl) ((fun _ => Wd.row 1 rfl) w hw) ((fun _ => Wd.row 2 rfl) w hw) ((fun _ => Wd.row 3 rfl) w hw) ))) rfl <| R.qg rfl (q.neq rfl rfl (bne_eq_false_iff_eq.2 (by omega))) rfl <| R.u 1 rfl <| R.nil ?_
  refine R.condF rfl rfl ?_
  refine R.reg rfl <| R.u 1 rfl <| ?_
  rcases Bool.eq_false_or_eq_true (lightA l 40) with h1 | h1
  · refine R.c (q.call eg_23 rfl rfl (fun w hw => (cv (congrArg Value.bool h1) (lightA_any _ (l) (40) w ((fun _ => Wd.fls 3 rfl) w hw) (hw.acts 2 rfl) )))) rfl <| R.u 3 rfl <| ?_
    rcases Bool.eq_false_or_eq_true (lightA mo 60) with h2 | h2
    · refine R.cg rfl (q.call eg_23 rfl rfl (fun w hw => (cv (congrArg Value.bool h2) (lightA_any _ (mo) (60) w ((fun _ => Wd.fls 1 rfl) w hw) (hw.acts 0 rfl) )))) rfl <| R.u 2 rfl <| R.nil ?_
      refine R.condF rfl rfl ?_
      have hll := lightA_len (l := l) (most := 40) (by assumption); have hlm := lightA_len (l := mo) (most := 60) (by assumption)
      refine R.reg rfl <| R.u 1 rfl <| R.nil ?_
      refine R.loop (fun g_ : Nat × Dsk × Value × Value × Value => [(0, v_l), (1, v_mo), (2, .int .u64 kp), (7, .pointer (some ⟨z1, 0, none⟩)), (9, .int .i64 (g_.1 : Int))]) (fun g_ : Nat × Dsk × Value × Value × Value => [Res.box z1 [g_.2.2.1, g_.2.2.2.1, g_.2.2.2.2, .int .i64 g_.2.1.Fuse, .bool g_.2.1.Down] 128, Res.row 9 g_.2.2.1 (g_.2.1.Kept : List ByteArray), Res.row 9 g_.2.2.2.1 (g_.2.1.Now : List ByteArray), Res.row 130 g_.2.2.2.2 (g_.2.1.Wait : List Turn)]) (fun g_ : Nat × Dsk × Value × Value × Value => [Res.acts mo, Res.ls v_mo (mo : List Deed), Res.acts l, Res.ls v_l (l : List Deed)]) (fun g_ : Nat × Dsk × Value × Value × Value => g_.1 ≤ l.length ∧ DOk 4 g_.1 g_.2.1 ∧ g_.2.1.Down = false ∧ g_.2.1.Fuse = -1) (fun g_ : Nat × Dsk × Value × Value × Value => l.length - g_.1) (0, ((dFlush (dNew (Int.toNat 4))).1), z5, z6, z7) rfl (by exact ⟨by omega, e1, e6, e7⟩) ⟨rfl, rfl, rfl, rfl, rfl, trivial⟩ (fun _ => Wd.pick [0, 1, 2, 3] [0, 1, 2, 3] rfl rfl rfl) ?_
      rintro ⟨i, dm, dm_Kept, dm_Now, dm_Wait⟩ ⟨hi, hO, hD, hF⟩
      dsimp only at *
      have p1 := hO.fine (by omega) (by omega); have p2 := fun (i : Int) (x : ByteArray) => dWrite_live (i := i) (x := x) hD hF
      refine R.reg rfl <| R.u 2 rfl <| R.q (q.len' (fun _ => Wd.fls 3 rfl) rfl Try.underlying36) rfl <| ?_
      by_cases h3 : i < l.length
      · refine R.q (q.lss rfl rfl (decide_eq_true (by omega))) rfl <| R.nil ?_
        refine R.condT rfl rfl ?_
        obtain ⟨x1, hx1⟩ : ∃ z, l[i]? = some z := ⟨_, List.getElem?_eq_getElem (by omega)⟩
        refine R.regD (fuel := 12) (Wd w [] [] [Res.acts mo, Res.ls v_mo (mo : List Deed), Res.acts l, Res.ls v_l (l : List Deed)]) rfl mixed rfl ?_
        refine D.q (i := 0) rfl (by kernel_rfl) (fun _ => Wd.pik [] [0, 1, 2, 3] rfl rfl rfl) rfl (q.mv rfl) rfl <| D.q (i := 1) rfl (by kernel_rfl) (fun _ => Wd.pik [] [0, 1, 2, 3] rfl rfl rfl) rfl (q.mv rfl) rfl <| D.q (i := 2) rfl (by kernel_rfl) (fun _ => Wd.pik [] [0, 1, 2, 3] rfl rfl rfl) rfl (q.mv rfl) rfl <| D.q (i := 3) rfl (by kernel_rfl) (fun _ => Wd.pik [] [0, 1, 2, 3] rfl rfl rfl) rfl (q.idx (i := i) (fun _ => Wd.fls 3 rfl) rfl rfl tSl_36 rfl hx1) rfl <| D.q (i := 4) rfl (by kernel_rfl) (fun _ => Wd.pik [] [0, 1, 2, 3] rfl rfl rfl) rfl (q.fldE (j' := 8) (fun _ => Wd.fls 3 rfl) hx1 rfl tFld_51_6 rfl) rfl <| D.q (i := 5) rfl (by kernel_rfl) (fun _ => Wd.pik [] [0, 1, 2, 3] rfl rfl rfl) rfl (q.ldE (fun _ => Wd.fls 3 rfl) hx1 rfl tOne_3 rfl) rfl <| D.q (i := 6) rfl (by kernel_rfl) (fun _ => Wd.pik [] [0, 1, 2, 3] rfl rfl rfl) rfl (q.mv rfl) rfl <| D.q (i := 7) rfl (by kernel_rfl) (fun _ => Wd.pik [] [0, 1, 2, 3] rfl rfl rfl) rfl (q.mv rfl) rfl <| D.q (i := 8) rfl (by kernel_rfl) (fun _ => Wd.pik [] [0, 1, 2, 3] rfl rfl rfl) rfl (q.idx (i := i) (fun _ => Wd.fls 3 rfl) rfl rfl tSl_36 rfl hx1) rfl <| D.q (i := 9) rfl (by kernel_rfl) (fun _ => Wd.pik [] [0, 1, 2, 3] rfl rfl rfl) rfl (q.fldE (j' := 1) (fun _ => Wd.fls 3 rfl) hx1 rfl tFld_51_1 rfl) rfl <| D.q (i := 10) rfl (by kernel_rfl) (fun _ => Wd.pik [] [0, 1, 2, 3] rfl rfl rfl) rfl (q.ldE (fun _ => Wd.fls 3 rfl) hx1 rfl tOne_9 rfl) rfl <| ?_
        refine D.one (i := 11) (by kernel_rfl) rfl ?_
        refine Do.s (B' := (fun g_ : Value × Value × Value => [Res.box z1 [g_.1, g_.2.1, g_.2.2, .int .i64 ((((dWrite dm x1.N x1.S)).1).Fuse), .bool ((((dWrite dm x1.N x1.S)).1).Down)] 128, Res.row 9 g_.1 ((((dWrite dm x1.N x1.S)).1).Kept : List ByteArray), Res.row 9 g_.2.1 ((((dWrite dm x1.N x1.S)).1).Now : List ByteArray), Res.row 130 g_.2.2 ((((dWrite dm x1.N x1.S)).1).Wait : List Turn)])) (F' := (fun g_ : Value × Value × Value => [Res.acts mo, Res.ls v_mo (mo : List Deed), Res.acts l, Res.ls v_l (l : List Deed)])) (s.callV (B0 := [Res.box z1 [dm_Kept, dm_Now, dm_Wait, .int .i64 dm.Fuse, .bool dm.Down] 128, Res.row 9 dm_Kept (dm.Kept : List ByteArray), Res.row 9 dm_Now (dm.Now : List ByteArray), Res.row 130 dm_Wait (dm.Wait : List Turn)]) (Br := []) (F0 := []) [0, 1, 2, 3] [] (fun g_ : Value × Value × Value => errv (((dWrite dm x1.N x1.S)).2)) (fun g_ : Value × Value × Value => [Res.box z1 [g_.1, g_.2.1, g_.2.2, .int .i64 ((((dWrite dm x1.N x1.S)).1).Fuse), .bool ((((dWrite dm x1.N x1.S)).1).Down)] 128, Res.row 9 g_.1 ((((dWrite dm x1.N x1.S)).1).Kept : List ByteArray), Res.row 9 g_.2.1 ((((dWrite dm x1.N x1.S)).1).Now : List ByteArray), Res.row 130 g_.2.2 ((((dWrite dm x1.N x1.S)).1).Wait : List Turn)]) (fun g_ : Value × Value × Value => []) rfl rfl rfl eg_27 rfl rfl (fun w own hw H => dWrite_any z1 dm_Kept dm_Now dm_Wait (dm) (x1.N) (x1.S) w own H (by first | assumption | omega)) rfl) (fun _ => (fun _ => Wd.pik [] [0, 1, 2, 3] rfl rfl rfl)) rfl ?_
        rintro ⟨z11, z12, z13⟩
        dsimp only
        refine D.done (by kernel_rfl) <| ?_
        refine R.reg rfl <| R.u 1 rfl <| R.q (q.add (r := ((i + 1 : Nat) : Int)) rfl rfl (wr (by omega))) rfl <| R.u 1 rfl <| R.nil ?_
        refine R.back (i + 1, ((dWrite dm x1.N x1.S).1), z11, z12, z13) rfl (by (exact ⟨by omega, hO.write _ _, (p2 _ _).1, (p2 _ _).2⟩)) (by dsimp only; omega) ⟨rfl, rfl, rfl, rfl, rfl, trivial⟩ (fun _ => Wd.pik [0, 1, 2, 3] [0, 1, 2, 3] rfl rfl rfl)
      · refine R.q (q.lss rfl rfl (decide_eq_false (by omega))) rfl <| R.nil ?_
        refine R.condF rfl rfl ?_
        have f1 := dFlush_live hD hF; have f2 : (dFlush dm).2 = 0 := by rw [f1]
        have f3 : (dFlush dm).1.Down = false := by rw [f1]
        have f4 : (dFlush dm).1.Fuse = -1 := by rw [f1]
        have f5 := hO.flush; have f6 := four_ok f5 f3; have f7 := four_is f5 f3; obtain ⟨f8, f9, f10, f11⟩ := f6
        refine R.reg rfl <| R.u 1 rfl <| ?_
        refine R.s (B' := (fun g_ : Value × Value × Value => [Res.box z1 [g_.1, g_.2.1, g_.2.2, .int .i64 ((((dFlush dm)).1).Fuse), .bool ((((dFlush dm)).1).Down)] 128, Res.row 9 g_.1 ((((dFlush dm)).1).Kept : List ByteArray), Res.row 9 g_.2.1 ((((dFlush dm)).1).Now : List ByteArray), Res.row 130 g_.2.2 ((((dFlush dm)).1).Wait : List Turn)])) (F' := (fun g_ : Value × Value × Value => [Res.acts mo, Res.ls v_mo (mo : List Deed), Res.acts l, Res.ls v_l (l : List Deed)])) rfl (s.callV (B0 := [Res.box z1 [dm_Kept, dm_Now, dm_Wait, .int .i64 dm.Fuse, .bool dm.Down] 128, Res.row 9 dm_Kept (dm.Kept : List ByteArray), Res.row 9 dm_Now (dm.Now : List ByteArray), Res.row 130 dm_Wait (dm.Wait : List Turn)]) (Br := []) (F0 := []) [0, 1, 2, 3] [] (fun g_ : Value × Value × Value => errv (((dFlush dm)).2)) (fun g_ : Value × Value × Value => [Res.box z1 [g_.1, g_.2.1, g_.2.2, .int .i64 ((((dFlush dm)).1).Fuse), .bool ((((dFlush dm)).1).Down)] 128, Res.row 9 g_.1 ((((dFlush dm)).1).Kept : List ByteArray), Res.row 9 g_.2.1 ((((dFlush dm)).1).Now : List ByteArray), Res.row 130 g_.2.2 ((((dFlush dm)).1).Wait : List Turn)]) (fun g_ : Value × Value × Value => []) rfl rfl rfl eg_31 rfl rfl (fun w own hw H => dFlush_any z1 dm_Kept dm_Now dm_Wait (dm) w own H (by first | assumption | omega)) rfl) ?_
        rintro ⟨z14, z15, z16⟩
        dsimp only
        refine R.q (q.neqE0 rfl rfl Try.underlying26 (by omega)) rfl <| R.nil ?_
        refine R.condF rfl rfl ?_
        refine R.reg rfl <| ?_
        refine R.s rfl (s.alloc (cs := [.string (⟨#[]⟩), .string (⟨#[]⟩), .string (⟨#[]⟩), .string (⟨#[]⟩)]) tZero_115 rfl rfl) fun b1 => ?_
        refine R.nil ?_
        refine R.reg rfl <| R.u 1 rfl <| R.nil ?_
        refine R.unroll 4 rfl ?_
        refine R.reg rfl <| R.u 1 rfl <| R.q (q.lss (b := true) rfl rfl (by decide)) rfl <| R.nil ?_
        refine R.condT rfl rfl ?_
        refine R.reg rfl <| R.u 2 rfl <| R.c (q.call eg_29 rfl rfl (fun w hw => (dRead_any z1 z14 z15 z16 (((dFlush dm).1)) (0) w (hw.b 1 rfl) ((fun _ => Wd.row 2 rfl) w hw) ((fun _ => Wd.row 3 rfl) w hw) ((fun _ => Wd.row 4 rfl) w hw) ))) rfl <| R.u 5 rfl <| R.nil ?_
        refine R.reg rfl <| R.u 1 rfl <| R.q (q.neqE0 rfl rfl Try.underlying26 (by omega)) rfl <| R.nil ?_
        refine R.condF rfl rfl ?_
        refine R.reg rfl <| R.u 2 rfl <| R.q (q.idxA (j := 0) rfl rfl Try.underlying115 rfl rfl (by omega) (by decide) rfl) rfl <| ?_
        refine R.s rfl (s.st (us := [.string ((dRead ((dFlush dm).1) 0).1)]) (cs' := [.string ((dRead ((dFlush dm).1) 0).1), .string (⟨#[]⟩), .string (⟨#[]⟩), .string (⟨#[]⟩)]) 0 _ rfl rfl rfl rfl (.inr ⟨tOne_9, rfl⟩) rfl rfl rfl rfl) fun _ => ?_
        refine R.nil ?_
        refine R.reg rfl <| R.u 1 rfl <| R.q (q.add (r := 1) rfl rfl (by decide)) rfl <| R.u 1 rfl <| R.nil ?_
        refine R.again rfl rfl ?_
        refine R.reg rfl <| R.u 1 rfl <| R.q (q.lss (b := true) rfl rfl (by decide)) rfl <| R.nil ?_
        refine R.condT rfl rfl ?_
        refine R.reg rfl <| R.u 2 rfl <| R.c (q.call eg_29 rfl rfl (fun w hw => (dRead_any z1 z14 z15 z16 (((dFlush dm).1)) (1) w (hw.b 1 rfl) ((fun _ => Wd.row 2 rfl) w hw) ((fun _ => Wd.row 3 rfl) w hw) ((fun _ => Wd.row 4 rfl) w hw) ))) rfl <| R.u 5 rfl <| R.nil ?_
        refine R.reg rfl <| R.u 1 rfl <| R.q (q.neqE0 rfl rfl Try.underlying26 (by omega)) rfl <| R.nil ?_
        refine R.condF rfl rfl ?_
        refine R.reg rfl <| R.u 2 rfl <| R.q (q.idxA (j := 1) rfl rfl Try.underlying115 rfl rfl (by omega) (by decide) rfl) rfl <| ?_
        refine R.s rfl (s.st (us := [.string ((dRead ((dFlush dm).1) 1).1)]) (cs' := [.string ((dRead ((dFlush dm).1) 0).1), .string ((dRead ((dFlush dm).1) 1).1), .string (⟨#[]⟩), .string (⟨#[]⟩)]) 0 _ rfl rfl rfl rfl (.inr ⟨tOne_9, rfl⟩) rfl rfl rfl rfl) fun _ => ?_
        refine R.nil ?_
        refine R.reg rfl <| R.u 1 rfl <| R.q (q.add (r := 2) rfl rfl (by decide)) rfl <| R.u 1 rfl <| R.nil ?_
        refine R.again rfl rfl ?_
        refine R.reg rfl <| R.u 1 rfl <| R.q (q.lss (b := true) rfl rfl (by decide)) rfl <| R.nil ?_
        refine R.condT rfl rfl ?_
        refine R.reg rfl <| R.u 2 rfl <| R.c (q.call eg_29 rfl rfl (fun w hw => (dRead_any z1 z14 z15 z16 (((dFlush dm).1)) (2) w (hw.b 1 rfl) ((fun _ => Wd.row 2 rfl) w hw) ((fun _ => Wd.row 3 rfl) w hw) ((fun _ => Wd.row 4 rfl) w hw) ))) rfl <| R.u 5 rfl <| R.nil ?_
        refine R.reg rfl <| R.u 1 rfl <| R.q (q.neqE0 rfl rfl Try.underlying26 (by omega)) rfl <| R.nil ?_
        refine R.condF rfl rfl ?_
        refine R.reg rfl <| R.u 2 rfl <| R.q (q.idxA (j := 2) rfl rfl Try.underlying115 rfl rfl (by omega) (by decide) rfl) rfl <| ?_
        refine R.s rfl (s.st (us := [.string ((dRead ((dFlush dm).1) 2).1)]) (cs' := [.string ((dRead ((dFlush dm).1) 0).1), .string ((dRead ((dFlush dm).1) 1).1), .string ((dRead ((dFlush dm).1) 2).1), .string (⟨#[]⟩)]) 0 _ rfl rfl rfl rfl (.inr ⟨tOne_9, rfl⟩) rfl rfl rfl rfl) fun _ => ?_
        refine R.nil ?_
        refine R.reg rfl <| R.u 1 rfl <| R.q (q.add (r := 3) rfl rfl (by decide)) rfl <| R.u 1 rfl <| R.nil ?_
        refine R.again rfl rfl ?_
        refine R.reg rfl <| R.u 1 rfl <| R.q (q.lss (b := true) rfl rfl (by decide)) rfl <| R.nil ?_
        refine R.condT rfl rfl ?_
        refine R.reg rfl <| R.u 2 rfl <| R.c (q.call eg_29 rfl rfl (fun w hw => (dRead_any z1 z14 z15 z16 (((dFlush dm).1)) (3) w (hw.b 1 rfl) ((fun _ => Wd.row 2 rfl) w hw) ((fun _ => Wd.row 3 rfl) w hw) ((fun _ => Wd.row 4 rfl) w hw) ))) rfl <| R.u 5 rfl <| R.nil ?_
        refine R.reg rfl <| R.u 1 rfl <| R.q (q.neqE0 rfl rfl Try.underlying26 (by omega)) rfl <| R.nil ?_
        refine R.condF rfl rfl ?_
        refine R.reg rfl <| R.u 2 rfl <| R.q (q.idxA (j := 3) rfl rfl Try.underlying115 rfl rfl (by omega) (by decide) rfl) rfl <| ?_
        refine R.s rfl (s.st (us := [.string ((dRead ((dFlush dm).1) 3).1)]) (cs' := [.string ((dRead ((dFlush dm).1) 0).1), .string ((dRead ((dFlush dm).1) 1).1), .string ((dRead ((dFlush dm).1) 2).1), .string ((dRead ((dFlush dm).1) 3).1)]) 0 _ rfl rfl rfl rfl (.inr ⟨tOne_9, rfl⟩) rfl rfl rfl rfl) fun _ => ?_
        refine R.nil ?_
        refine R.reg rfl <| R.u 1 rfl <| R.q (q.add (r := 4) rfl rfl (by decide)) rfl <| R.u 1 rfl <| R.nil ?_
        refine R.again rfl rfl ?_
        refine R.reg rfl <| R.u 1 rfl <| R.q (q.lss (b := false) rfl rfl (by decide)) rfl <| R.nil ?_
        refine R.condF rfl rfl ?_
        refine R.reg rfl <| R.u 1 rfl <| R.nil ?_
        refine R.reg rfl <| R.u 1 rfl <| R.nil ?_
        refine R.loop (fun g_ : Nat × Nat × ByteArray × ByteArray × ByteArray × ByteArray × Dsk × Value × Value × Value => [(1, v_mo), (2, .int .u64 kp), (7, .pointer (some ⟨z1, 0, none⟩)), (10, .pointer (some ⟨b1, 0, none⟩)), (14, .int .i64 (g_.2.1 : Int)), (15, .int .i64 (g_.1 : Int))]) (fun g_ : Nat × Nat × ByteArray × ByteArray × ByteArray × ByteArray × Dsk × Value × Value × Value => [Res.box b1 [.string g_.2.2.1, .string g_.2.2.2.1, .string g_.2.2.2.2.1, .string g_.2.2.2.2.2.1] 115, Res.box z1 [g_.2.2.2.2.2.2.2.1, g_.2.2.2.2.2.2.2.2.1, g_.2.2.2.2.2.2.2.2.2, .int .i64 g_.2.2.2.2.2.2.1.Fuse, .bool g_.2.2.2.2.2.2.1.Down] 128, Res.row 9 g_.2.2.2.2.2.2.2.1 (g_.2.2.2.2.2.2.1.Kept : List ByteArray), Res.row 9 g_.2.2.2.2.2.2.2.2.1 (g_.2.2.2.2.2.2.1.Now : List ByteArray), Res.row 130 g_.2.2.2.2.2.2.2.2.2 (g_.2.2.2.2.2.2.1.Wait : List Turn)]) (fun g_ : Nat × Nat × ByteArray × ByteArray × ByteArray × ByteArray × Dsk × Value × Value × Value => [Res.acts mo, Res.ls v_mo (mo : List Deed), Res.acts l, Res.ls v_l (l : List Deed)]) (fun g_ : Nat × Nat × ByteArray × ByteArray × ByteArray × ByteArray × Dsk × Value × Value × Value => g_.1 ≤ mo.length ∧ g_.2.1 ≤ g_.1 ∧ More kp g_.1 g_.2.1 g_.2.2.2.2.2.2.1 g_.2.2.1 g_.2.2.2.1 g_.2.2.2.2.1 g_.2.2.2.2.2.1) (fun g_ : Nat × Nat × ByteArray × ByteArray × ByteArray × ByteArray × Dsk × Value × Value × Value => mo.length - g_.1) (0, 0, (dRead ((dFlush dm).1) 0).1, (dRead ((dFlush dm).1) 1).1, (dRead ((dFlush dm).1) 2).1, (dRead ((dFlush dm).1) 3).1, ((dFlush dm).1), z14, z15, z16) rfl (by dsimp only; refine ⟨by omega, by omega, ⟨f5.kl, f5.nl, f5.ks, f5.ns, by rw [f1]; exact Nat.le_refl _, f5.wat, f5.f0, f5.f1⟩, by rw [f1]; rfl, f3, f4, ?_⟩; rw [← f7, f1]; rfl) ⟨rfl, rfl, rfl, rfl, rfl, rfl, trivial⟩ (fun _ => Wd.pick [0, 1, 2, 3, 4] [0, 1, 2, 3] rfl rfl rfl) ?_
        rintro ⟨k, c, s0, s1, s2, s3, em, em_Kept, em_Now, em_Wait⟩ ⟨hk, hc, hM⟩
        dsimp only at *
        have p3 := hM.ok.fine (by omega) (by omega); have p4 := hM.ok.rest (by omega)
        refine R.reg rfl <| R.u 2 rfl <| R.q (q.len' (fun _ => Wd.fls 1 rfl) rfl Try.underlying36) rfl <| ?_
        by_cases h4 : k < mo.length
        · refine R.q (q.lss rfl rfl (decide_eq_true (by omega))) rfl <| R.nil ?_
          refine R.condT rfl rfl ?_
          obtain ⟨x2, hx2⟩ : ∃ z, mo[k]? = some z := ⟨_, List.getElem?_eq_getElem (by omega)⟩
          by_cases h5 : (dWrite em x2.N x2.S).2 = 0
          · refine R.regD (fuel := 13) (Wd w [] [Res.box b1 [.string s0, .string s1, .string s2, .string s3] 115] [Res.acts mo, Res.ls v_mo (mo : List Deed), Res.acts l, Res.ls v_l (l : List Deed)]) rfl mixed rfl ?_
            refine D.q (i := 0) rfl (by kernel_rfl) (fun _ => Wd.pik [0] [0, 1, 2, 3] rfl rfl rfl) rfl (q.mv rfl) rfl <| D.q (i := 1) rfl (by kernel_rfl) (fun _ => Wd.pik [0] [0, 1, 2, 3] rfl rfl rfl) rfl (q.mv rfl) rfl <| D.q (i := 2) rfl (by kernel_rfl) (fun _ => Wd.pik [0] [0, 1, 2, 3] rfl rfl rfl) rfl (q.mv rfl) rfl <| D.q (i := 3) rfl (by kernel_rfl) (fun _ => Wd.pik [0] [0, 1, 2, 3] rfl rfl rfl) rfl (q.idx (i := k) (fun _ => Wd.fls 1 rfl) rfl rfl tSl_36 rfl hx2) rfl <| D.q (i := 4) rfl (by kernel_rfl) (fun _ => Wd.pik [0] [0, 1, 2, 3] rfl rfl rfl) rfl (q.fldE (j' := 8) (fun _ => Wd.fls 1 rfl) hx2 rfl tFld_51_6 rfl) rfl <| D.q (i := 5) rfl (by kernel_rfl) (fun _ => Wd.pik [0] [0, 1, 2, 3] rfl rfl rfl) rfl (q.ldE (fun _ => Wd.fls 1 rfl) hx2 rfl tOne_3 rfl) rfl <| D.q (i := 6) rfl (by kernel_rfl) (fun _ => Wd.pik [0] [0, 1, 2, 3] rfl rfl rfl) rfl (q.mv rfl) rfl <| D.q (i := 7) rfl (by kernel_rfl) (fun _ => Wd.pik [0] [0, 1, 2, 3] rfl rfl rfl) rfl (q.mv rfl) rfl <| D.q (i := 8) rfl (by kernel_rfl) (fun _ => Wd.pik [0] [0, 1, 2, 3] rfl rfl rfl) rfl (q.idx (i := k) (fun _ => Wd.fls 1 rfl) rfl rfl tSl_36 rfl hx2) rfl <| D.q (i := 9) rfl (by kernel_rfl) (fun _ => Wd.pik [0] [0, 1, 2, 3] rfl rfl rfl) rfl (q.fldE (j' := 1) (fun _ => Wd.fls 1 rfl) hx2 rfl tFld_51_1 rfl) rfl <| D.q (i := 10) rfl (by kernel_rfl) (fun _ => Wd.pik [0] [0, 1, 2, 3] rfl rfl rfl) rfl (q.ldE (fun _ => Wd.fls 1 rfl) hx2 rfl tOne_9 rfl) rfl <| ?_
            refine D.one (i := 11) (by kernel_rfl) rfl ?_
            refine Do.s (B' := (fun g_ : Value × Value × Value => [Res.box z1 [g_.1, g_.2.1, g_.2.2, .int .i64 ((((dWrite em x2.N x2.S)).1).Fuse), .bool ((((dWrite em x2.N x2.S)).1).Down)] 128, Res.row 9 g_.1 ((((dWrite em x2.N x2.S)).1).Kept : List ByteArray), Res.row 9 g_.2.1 ((((dWrite em x2.N x2.S)).1).Now : List ByteArray), Res.row 130 g_.2.2 ((((dWrite em x2.N x2.S)).1).Wait : List Turn), Res.box b1 [.string s0, .string s1, .string s2, .string s3] 115])) (F' := (fun g_ : Value × Value × Value => [Res.acts mo, Res.ls v_mo (mo : List Deed), Res.acts l, Res.ls v_l (l : List Deed)])) (s.callV (B0 := [Res.box z1 [em_Kept, em_Now, em_Wait, .int .i64 em.Fuse, .bool em.Down] 128, Res.row 9 em_Kept (em.Kept : List ByteArray), Res.row 9 em_Now (em.Now : List ByteArray), Res.row 130 em_Wait (em.Wait : List Turn)]) (Br := [Res.box b1 [.string s0, .string s1, .string s2, .string s3] 115]) (F0 := []) [1, 2, 3, 4, 0] [] (fun g_ : Value × Value × Value => errv (((dWrite em x2.N x2.S)).2)) (fun g_ : Value × Value × Value => [Res.box z1 [g_.1, g_.2.1, g_.2.2, .int .i64 ((((dWrite em x2.N x2.S)).1).Fuse), .bool ((((dWrite em x2.N x2.S)).1).Down)] 128, Res.row 9 g_.1 ((((dWrite em x2.N x2.S)).1).Kept : List ByteArray), Res.row 9 g_.2.1 ((((dWrite em x2.N x2.S)).1).Now : List ByteArray), Res.row 130 g_.2.2 ((((dWrite em x2.N x2.S)).1).Wait : List Turn)]) (fun g_ : Value × Value × Value => []) rfl rfl rfl eg_27 rfl rfl (fun w own hw H => dWrite_any z1 em_Kept em_Now em_Wait (em) (x2.N) (x2.S) w own H (by first | assumption | omega)) rfl) (fun _ => (fun _ => Wd.pik [4] [0, 1, 2, 3] rfl rfl rfl)) rfl ?_
            rintro ⟨z23, z24, z25⟩
            dsimp only
            refine D.q (i := 12) rfl (by kernel_rfl) (fun _ => Wd.pik [4] [0, 1, 2, 3] rfl rfl rfl) rfl (q.neqE0 rfl rfl Try.underlying26 (by omega)) rfl <| D.done (by kernel_rfl) <| ?_
            refine R.condF rfl rfl ?_
            refine R.reg rfl <| R.u 2 rfl <| R.q (q.shr (r := kp / ((2 ^ c : Nat) : Int)) rfl rfl (by omega) (shrV rfl (by omega))) rfl <| R.q (q.and (r := (kp / ((2 ^ c : Nat) : Int)) % 2) rfl rfl (u64_and1 ⟨rfl, Int.ediv_nonneg hkp.1 (Int.natCast_nonneg _), Int.le_trans (Int.ediv_le_self _ hkp.1) hkp.2⟩)) rfl <| ?_
            by_cases h6 : ((kp / ((2 ^ c : Nat) : Int)) % 2) = 1
            · refine R.q (q.eql rfl rfl (beq_iff_eq.2 (by omega))) rfl <| R.nil ?_
              refine R.condT rfl rfl ?_
              obtain ⟨m1, m2, m3, m4, m5, m6⟩ := hM.hit (i := x2.N) (x := x2.S) (by assumption) (by omega) (by assumption)
              refine R.reg rfl <| R.u 3 rfl <| R.q (q.idx (i := k) (fun _ => Wd.fls 1 rfl) rfl rfl tSl_36 rfl hx2) rfl <| R.q (q.fldE (j' := 8) (fun _ => Wd.fls 1 rfl) hx2 rfl tFld_51_6 rfl) rfl <| R.q (q.ldE (fun _ => Wd.fls 1 rfl) hx2 rfl tOne_3 rfl) rfl <| R.c (q.call eg_29 rfl rfl (fun w hw => (dRead_any z1 z23 z24 z25 (((dWrite em x2.N x2.S).1)) (x2.N) w (hw.b 0 rfl) ((fun _ => Wd.row 1 rfl) w hw) ((fun _ => Wd.row 2 rfl) w hw) ((fun _ => Wd.row 3 rfl) w hw) ))) rfl <| R.u 5 rfl <| R.nil ?_
              refine R.reg rfl <| R.u 1 rfl <| R.q (q.neqE0 rfl rfl Try.underlying26 (by omega)) rfl <| R.nil ?_
              refine R.condF rfl rfl ?_
              refine R.reg rfl <| R.u 2 rfl <| R.q (q.idx (i := k) (fun _ => Wd.fls 1 rfl) rfl rfl tSl_36 rfl hx2) rfl <| R.q (q.fldE (j' := 8) (fun _ => Wd.fls 1 rfl) hx2 rfl tFld_51_6 rfl) rfl <| R.q (q.ldE (fun _ => Wd.fls 1 rfl) hx2 rfl tOne_3 rfl) rfl <| R.u 1 rfl <| ?_
              by_cases h7 : x2.N = 0
              · refine R.q (q.idxA (j := 0) rfl rfl Try.underlying115 rfl rfl (by omega) (by decide) rfl) rfl <| ?_
                refine R.s rfl (s.st (us := [.string ((dRead ((dWrite em x2.N x2.S).1) x2.N).1)]) (cs' := [.string ((dRead ((dWrite em x2.N x2.S).1) x2.N).1), .string s1, .string s2, .string s3]) 4 _ rfl rfl rfl rfl (.inr ⟨tOne_9, rfl⟩) rfl rfl rfl rfl) fun _ => ?_
                refine R.nil ?_
                refine R.reg rfl <| R.u 1 rfl <| R.q (q.add (r := ((c + 1 : Nat) : Int)) rfl rfl (wr (by omega))) rfl <| R.u 1 rfl <| R.nil ?_
                refine R.reg rfl <| R.u 1 rfl <| R.q (q.add (r := ((k + 1 : Nat) : Int)) rfl rfl (wr (by omega))) rfl <| R.u 1 rfl <| R.nil ?_
                refine R.back ((k + 1), (c + 1), (dRead ((dWrite em x2.N x2.S).1) x2.N).1, s1, s2, s3, ((dWrite em x2.N x2.S).1), z23, z24, z25) rfl (by (dsimp only; first | exact ⟨by omega, by omega, m3 (by omega)⟩ | exact ⟨by omega, by omega, m4 (by omega)⟩ | exact ⟨by omega, by omega, m5 (by omega)⟩ | exact ⟨by omega, by omega, m6 (by omega)⟩)) (by dsimp only; omega) ⟨rfl, rfl, rfl, rfl, rfl, rfl, trivial⟩ (fun _ => Wd.pik [4, 0, 1, 2, 3] [0, 1, 2, 3] rfl rfl rfl)
              · by_cases h8 : x2.N = 1
                · refine R.q (q.idxA (j := 1) rfl rfl Try.underlying115 rfl rfl (by omega) (by decide) rfl) rfl <| ?_
                  refine R.s rfl (s.st (us := [.string ((dRead ((dWrite em x2.N x2.S).1) x2.N).1)]) (cs' := [.string s0, .string ((dRead ((dWrite em x2.N x2.S).1) x2.N).1), .string s2, .string s3]) 4 _ rfl rfl rfl rfl (.inr ⟨tOne_9, rfl⟩) rfl rfl rfl rfl) fun _ => ?_
                  refine R.nil ?_
                  refine R.reg rfl <| R.u 1 rfl <| R.q (q.add (r := ((c + 1 : Nat) : Int)) rfl rfl (wr (by omega))) rfl <| R.u 1 rfl <| R.nil ?_
                  refine R.reg rfl <| R.u 1 rfl <| R.q (q.add (r := ((k + 1 : Nat) : Int)) rfl rfl (wr (by omega))) rfl <| R.u 1 rfl <| R.nil ?_
                  refine R.back ((k + 1), (c + 1), s0, (dRead ((dWrite em x2.N x2.S).1) x2.N).1, s2, s3, ((dWrite em x2.N x2.S).1), z23, z24, z25) rfl (by (dsimp only; first | exact ⟨by omega, by omega, m3 (by omega)⟩ | exact ⟨by omega, by omega, m4 (by omega)⟩ | exact ⟨by omega, by omega, m5 (by omega)⟩ | exact ⟨by omega, by omega, m6 (by omega)⟩)) (by dsimp only; omega) ⟨rfl, rfl, rfl, rfl, rfl, rfl, trivial⟩ (fun _ => Wd.pik [4, 0, 1, 2, 3] [0, 1, 2, 3] rfl rfl rfl)
                · by_cases h9 : x2.N = 2
                  · refine R.q (q.idxA (j := 2) rfl rfl Try.underlying115 rfl rfl (by omega) (by decide) rfl) rfl <| ?_
                    refine R.s rfl (s.st (us := [.string ((dRead ((dWrite em x2.N x2.S).1) x2.N).1)]) (cs' := [.string s0, .string s1, .string ((dRead ((dWrite em x2.N x2.S).1) x2.N).1), .string s3]) 4 _ rfl rfl rfl rfl (.inr ⟨tOne_9, rfl⟩) rfl rfl rfl rfl) fun _ => ?_
                    refine R.nil ?_
                    refine R.reg rfl <| R.u 1 rfl <| R.q (q.add (r := ((c + 1 : Nat) : Int)) rfl rfl (wr (by omega))) rfl <| R.u 1 rfl <| R.nil ?_
                    refine R.reg rfl <| R.u 1 rfl <| R.q (q.add (r := ((k + 1 : Nat) : Int)) rfl rfl (wr (by omega))) rfl <| R.u 1 rfl <| R.nil ?_
                    refine R.back ((k + 1), (c + 1), s0, s1, (dRead ((dWrite em x2.N x2.S).1) x2.N).1, s3, ((dWrite em x2.N x2.S).1), z23, z24, z25) rfl (by (dsimp only; first | exact ⟨by omega, by omega, m3 (by omega)⟩ | exact ⟨by omega, by omega, m4 (by omega)⟩ | exact ⟨by omega, by omega, m5 (by omega)⟩ | exact ⟨by omega, by omega, m6 (by omega)⟩)) (by dsimp only; omega) ⟨rfl, rfl, rfl, rfl, rfl, rfl, trivial⟩ (fun _ => Wd.pik [4, 0, 1, 2, 3] [0, 1, 2, 3] rfl rfl rfl)
                  · refine R.q (q.idxA (j := 3) rfl rfl Try.underlying115 rfl rfl (by omega) (by decide) rfl) rfl <| ?_
                    refine R.s rfl (s.st (us := [.string ((dRead ((dWrite em x2.N x2.S).1) x2.N).1)]) (cs' := [.string s0, .string s1, .string s2, .string ((dRead ((dWrite em x2.N x2.S).1) x2.N).1)]) 4 _ rfl rfl rfl rfl (.inr ⟨tOne_9, rfl⟩) rfl rfl rfl rfl) fun _ => ?_
                    refine R.nil ?_
                    refine R.reg rfl <| R.u 1 rfl <| R.q (q.add (r := ((c + 1 : Nat) : Int)) rfl rfl (wr (by omega))) rfl <| R.u 1 rfl <| R.nil ?_
                    refine R.reg rfl <| R.u 1 rfl <| R.q (q.add (r := ((k + 1 : Nat) : Int)) rfl rfl (wr (by omega))) rfl <| R.u 1 rfl <| R.nil ?_
                    refine R.back ((k + 1), (c + 1), s0, s1, s2, (dRead ((dWrite em x2.N x2.S).1) x2.N).1, ((dWrite em x2.N x2.S).1), z23, z24, z25) rfl (by (dsimp only; first | exact ⟨by omega, by omega, m3 (by omega)⟩ | exact ⟨by omega, by omega, m4 (by omega)⟩ | exact ⟨by omega, by omega, m5 (by omega)⟩ | exact ⟨by omega, by omega, m6 (by omega)⟩)) (by dsimp only; omega) ⟨rfl, rfl, rfl, rfl, rfl, rfl, trivial⟩ (fun _ => Wd.pik [4, 0, 1, 2, 3] [0, 1, 2, 3] rfl rfl rfl)
            · refine R.q (q.eql rfl rfl (beq_eq_false_iff_ne.2 (by omega))) rfl <| R.nil ?_
              refine R.condF rfl rfl ?_
              refine R.reg rfl <| R.u 1 rfl <| R.q (q.add (r := ((c + 1 : Nat) : Int)) rfl rfl (wr (by omega))) rfl <| R.u 1 rfl <| R.nil ?_
              refine R.reg rfl <| R.u 1 rfl <| R.q (q.add (r := ((k + 1 : Nat) : Int)) rfl rfl (wr (by omega))) rfl <| R.u 1 rfl <| R.nil ?_
              refine R.back ((k + 1), (c + 1), s0, s1, s2, s3, ((dWrite em x2.N x2.S).1), z23, z24, z25) rfl (by (dsimp only; exact ⟨by omega, by omega, hM.miss (by assumption) (by omega) (by assumption)⟩)) (by dsimp only; omega) ⟨rfl, rfl, rfl, rfl, rfl, rfl, trivial⟩ (fun _ => Wd.pik [4, 0, 1, 2, 3] [0, 1, 2, 3] rfl rfl rfl)
          · refine R.regD (fuel := 13) (Wd w [] [Res.box b1 [.string s0, .string s1, .string s2, .string s3] 115] [Res.acts mo, Res.ls v_mo (mo : List Deed), Res.acts l, Res.ls v_l (l : List Deed)]) rfl mixed rfl ?_
            refine D.q (i := 0) rfl (by kernel_rfl) (fun _ => Wd.pik [0] [0, 1, 2, 3] rfl rfl rfl) rfl (q.mv rfl) rfl <| D.q (i := 1) rfl (by kernel_rfl) (fun _ => Wd.pik [0] [0, 1, 2, 3] rfl rfl rfl) rfl (q.mv rfl) rfl <| D.q (i := 2) rfl (by kernel_rfl) (fun _ => Wd.pik [0] [0, 1, 2, 3] rfl rfl rfl) rfl (q.mv rfl) rfl <| D.q (i := 3) rfl (by kernel_rfl) (fun _ => Wd.pik [0] [0, 1, 2, 3] rfl rfl rfl) rfl (q.idx (i := k) (fun _ => Wd.fls 1 rfl) rfl rfl tSl_36 rfl hx2) rfl <| D.q (i := 4) rfl (by kernel_rfl) (fun _ => Wd.pik [0] [0, 1, 2, 3] rfl rfl rfl) rfl (q.fldE (j' := 8) (fun _ => Wd.fls 1 rfl) hx2 rfl tFld_51_6 rfl) rfl <| D.q (i := 5) rfl (by kernel_rfl) (fun _ => Wd.pik [0] [0, 1, 2, 3] rfl rfl rfl) rfl (q.ldE (fun _ => Wd.fls 1 rfl) hx2 rfl tOne_3 rfl) rfl <| D.q (i := 6) rfl (by kernel_rfl) (fun _ => Wd.pik [0] [0, 1, 2, 3] rfl rfl rfl) rfl (q.mv rfl) rfl <| D.q (i := 7) rfl (by kernel_rfl) (fun _ => Wd.pik [0] [0, 1, 2, 3] rfl rfl rfl) rfl (q.mv rfl) rfl <| D.q (i := 8) rfl (by kernel_rfl) (fun _ => Wd.pik [0] [0, 1, 2, 3] rfl rfl rfl) rfl (q.idx (i := k) (fun _ => Wd.fls 1 rfl) rfl rfl tSl_36 rfl hx2) rfl <| D.q (i := 9) rfl (by kernel_rfl) (fun _ => Wd.pik [0] [0, 1, 2, 3] rfl rfl rfl) rfl (q.fldE (j' := 1) (fun _ => Wd.fls 1 rfl) hx2 rfl tFld_51_1 rfl) rfl <| D.q (i := 10) rfl (by kernel_rfl) (fun _ => Wd.pik [0] [0, 1, 2, 3] rfl rfl rfl) rfl (q.ldE (fun _ => Wd.fls 1 rfl) hx2 rfl tOne_9 rfl) rfl <| ?_
            refine D.one (i := 11) (by kernel_rfl) rfl ?_
            refine Do.s (B' := (fun g_ : Value × Value × Value => [Res.box z1 [g_.1, g_.2.1, g_.2.2, .int .i64 ((((dWrite em x2.N x2.S)).1).Fuse), .bool ((((dWrite em x2.N x2.S)).1).Down)] 128, Res.row 9 g_.1 ((((dWrite em x2.N x2.S)).1).Kept : List ByteArray), Res.row 9 g_.2.1 ((((dWrite em x2.N x2.S)).1).Now : List ByteArray), Res.row 130 g_.2.2 ((((dWrite em x2.N x2.S)).1).Wait : List Turn), Res.box b1 [.string s0, .string s1, .string s2, .string s3] 115])) (F' := (fun g_ : Value × Value × Value => [Res.acts mo, Res.ls v_mo (mo : List Deed), Res.acts l, Res.ls v_l (l : List Deed)])) (s.callV (B0 := [Res.box z1 [em_Kept, em_Now, em_Wait, .int .i64 em.Fuse, .bool em.Down] 128, Res.row 9 em_Kept (em.Kept : List ByteArray), Res.row 9 em_Now (em.Now : List ByteArray), Res.row 130 em_Wait (em.Wait : List Turn)]) (Br := [Res.box b1 [.string s0, .string s1, .string s2, .string s3] 115]) (F0 := []) [1, 2, 3, 4, 0] [] (fun g_ : Value × Value × Value => errv (((dWrite em x2.N x2.S)).2)) (fun g_ : Value × Value × Value => [Res.box z1 [g_.1, g_.2.1, g_.2.2, .int .i64 ((((dWrite em x2.N x2.S)).1).Fuse), .bool ((((dWrite em x2.N x2.S)).1).Down)] 128, Res.row 9 g_.1 ((((dWrite em x2.N x2.S)).1).Kept : List ByteArray), Res.row 9 g_.2.1 ((((dWrite em x2.N x2.S)).1).Now : List ByteArray), Res.row 130 g_.2.2 ((((dWrite em x2.N x2.S)).1).Wait : List Turn)]) (fun g_ : Value × Value × Value => []) rfl rfl rfl eg_27 rfl rfl (fun w own hw H => dWrite_any z1 em_Kept em_Now em_Wait (em) (x2.N) (x2.S) w own H (by first | assumption | omega)) rfl) (fun _ => (fun _ => Wd.pik [4] [0, 1, 2, 3] rfl rfl rfl)) rfl ?_
            rintro ⟨z29, z30, z31⟩
            dsimp only
            refine D.q (i := 12) rfl (by kernel_rfl) (fun _ => Wd.pik [4] [0, 1, 2, 3] rfl rfl rfl) rfl (q.neqE1 rfl rfl Try.underlying26 (by omega)) rfl <| D.done (by kernel_rfl) <| ?_
            refine R.condT rfl rfl ?_
            refine R.reg rfl <| R.u 1 rfl <| R.q (q.add (r := ((k + 1 : Nat) : Int)) rfl rfl (wr (by omega))) rfl <| R.u 1 rfl <| R.nil ?_
            refine R.back ((k + 1), c, s0, s1, s2, s3, ((dWrite em x2.N x2.S).1), z29, z30, z31) rfl (by (dsimp only; exact ⟨by omega, by omega, hM.skip (by assumption)⟩)) (by dsimp only; omega) ⟨rfl, rfl, rfl, rfl, rfl, rfl, trivial⟩ (fun _ => Wd.pik [4, 0, 1, 2, 3] [0, 1, 2, 3] rfl rfl rfl)
        · refine R.q (q.lss rfl rfl (decide_eq_false (by omega))) rfl <| R.nil ?_
          refine R.condF rfl rfl ?_
          have g1 : (dRestart em kp).Now = [s0, s1, s2, s3] := hM.lay; obtain ⟨g2, g3, g4, g5⟩ := four_at (d := (dRestart em kp)) rfl g1; have r0 : (dRead (dRestart em kp) 0).1 = s0 := (by rw [g2]); have r1 : (dRead (dRestart em kp) 1).1 = s1 := (by rw [g3]); have r2 : (dRead (dRestart em kp) 2).1 = s2 := (by rw [g4]); have r3 : (dRead (dRestart em kp) 3).1 = s3 := (by rw [g5]); have u0 : (dRead (dRestart em kp) 0).2 = 0 := (by rw [g2]); have u1 : (dRead (dRestart em kp) 1).2 = 0 := (by rw [g3]); have u2 : (dRead (dRestart em kp) 2).2 = 0 := (by rw [g4]); have u3 : (dRead (dRestart em kp) 3).2 = 0 := (by rw [g5])
          refine R.reg rfl <| R.u 2 rfl <| ?_
          refine R.s (B' := (fun g_ : Value × Value × Value => [Res.box z1 [g_.1, g_.2.1, g_.2.2, .int .i64 (((dRestart em kp)).Fuse), .bool (((dRestart em kp)).Down)] 128, Res.row 9 g_.1 (((dRestart em kp)).Kept : List ByteArray), Res.row 9 g_.2.1 (((dRestart em kp)).Now : List ByteArray), Res.row 130 g_.2.2 (((dRestart em kp)).Wait : List Turn), Res.box b1 [.string s0, .string s1, .string s2, .string s3] 115])) (F' := (fun g_ : Value × Value × Value => [Res.acts mo, Res.ls v_mo (mo : List Deed), Res.acts l, Res.ls v_l (l : List Deed)])) rfl (s.callV (B0 := [Res.box z1 [em_Kept, em_Now, em_Wait, .int .i64 em.Fuse, .bool em.Down] 128, Res.row 9 em_Kept (em.Kept : List ByteArray), Res.row 9 em_Now (em.Now : List ByteArray), Res.row 130 em_Wait (em.Wait : List Turn)]) (Br := [Res.box b1 [.string s0, .string s1, .string s2, .string s3] 115]) (F0 := []) [1, 2, 3, 4, 0] [] (fun g_ : Value × Value × Value => .tuple #[]) (fun g_ : Value × Value × Value => [Res.box z1 [g_.1, g_.2.1, g_.2.2, .int .i64 (((dRestart em kp)).Fuse), .bool (((dRestart em kp)).Down)] 128, Res.row 9 g_.1 (((dRestart em kp)).Kept : List ByteArray), Res.row 9 g_.2.1 (((dRestart em kp)).Now : List ByteArray), Res.row 130 g_.2.2 (((dRestart em kp)).Wait : List Turn)]) (fun g_ : Value × Value × Value => []) rfl rfl rfl eg_34 rfl rfl (fun w own hw H => dRestart_any z1 em_Kept em_Now em_Wait (em) (kp) w own H (by first | assumption | omega) (by first | assumption | omega)) rfl) ?_
          rintro ⟨z32, z33, z34⟩
          dsimp only
          refine R.nil ?_
          refine R.reg rfl <| R.u 1 rfl <| R.nil ?_
          refine R.unroll 4 rfl ?_
          refine R.reg rfl <| R.u 1 rfl <| R.q (q.lss (b := true) rfl rfl (by decide)) rfl <| R.nil ?_
          refine R.condT rfl rfl ?_
          refine R.reg rfl <| R.u 2 rfl <| R.c (q.call eg_29 rfl rfl (fun w hw => (dRead_any z1 z32 z33 z34 ((dRestart em kp)) (0) w (hw.b 0 rfl) ((fun _ => Wd.row 1 rfl) w hw) ((fun _ => Wd.row 2 rfl) w hw) ((fun _ => Wd.row 3 rfl) w hw) ))) rfl <| R.u 5 rfl <| R.nil ?_
          refine R.reg rfl <| R.u 1 rfl <| R.q (q.neqE0 rfl rfl Try.underlying26 (by omega)) rfl <| R.u 3 rfl <| R.qg rfl (q.idxA (j := 0) rfl rfl Try.underlying115 rfl rfl (by omega) (by decide) rfl) rfl <| R.qg rfl (q.ld 4 rfl rfl tOne_9 rfl) rfl <| R.qg rfl (q.neqS1 rfl rfl ‹_›) rfl <| R.u 1 rfl <| R.nil ?_
          refine R.condF rfl rfl ?_
          refine R.reg rfl <| R.u 1 rfl <| R.q (q.add (r := 1) rfl rfl (by decide)) rfl <| R.u 1 rfl <| R.nil ?_
          refine R.again rfl rfl ?_
          refine R.reg rfl <| R.u 1 rfl <| R.q (q.lss (b := true) rfl rfl (by decide)) rfl <| R.nil ?_
          refine R.condT rfl rfl ?_
          refine R.reg rfl <| R.u 2 rfl <| R.c (q.call eg_29 rfl rfl (fun w hw => (dRead_any z1 z32 z33 z34 ((dRestart em kp)) (1) w (hw.b 0 rfl) ((fun _ => Wd.row 1 rfl) w hw) ((fun _ => Wd.row 2 rfl) w hw) ((fun _ => Wd.row 3 rfl) w hw) ))) rfl <| R.u 5 rfl <| R.nil ?_
          refine R.reg rfl <| R.u 1 rfl <| R.q (q.neqE0 rfl rfl Try.underlying26 (by omega)) rfl <| R.u 3 rfl <| R.qg rfl (q.idxA (j := 1) rfl rfl Try.underlying115 rfl rfl (by omega) (by decide) rfl) rfl <| R.qg rfl (q.ld 4 rfl rfl tOne_9 rfl) rfl <| R.qg rfl (q.neqS1 rfl rfl ‹_›) rfl <| R.u 1 rfl <| R.nil ?_
          refine R.condF rfl rfl ?_
          refine R.reg rfl <| R.u 1 rfl <| R.q (q.add (r := 2) rfl rfl (by decide)) rfl <| R.u 1 rfl <| R.nil ?_
          refine R.again rfl rfl ?_
          refine R.reg rfl <| R.u 1 rfl <| R.q (q.lss (b := true) rfl rfl (by decide)) rfl <| R.nil ?_
          refine R.condT rfl rfl ?_
          refine R.reg rfl <| R.u 2 rfl <| R.c (q.call eg_29 rfl rfl (fun w hw => (dRead_any z1 z32 z33 z34 ((dRestart em kp)) (2) w (hw.b 0 rfl) ((fun _ => Wd.row 1 rfl) w hw) ((fun _ => Wd.row 2 rfl) w hw) ((fun _ => Wd.row 3 rfl) w hw) ))) rfl <| R.u 5 rfl <| R.nil ?_
          refine R.reg rfl <| R.u 1 rfl <| R.q (q.neqE0 rfl rfl Try.underlying26 (by omega)) rfl <| R.u 3 rfl <| R.qg rfl (q.idxA (j := 2) rfl rfl Try.underlying115 rfl rfl (by omega) (by decide) rfl) rfl <| R.qg rfl (q.ld 4 rfl rfl tOne_9 rfl) rfl <| R.qg rfl (q.neqS1 rfl rfl ‹_›) rfl <| R.u 1 rfl <| R.nil ?_
          refine R.condF rfl rfl ?_
          refine R.reg rfl <| R.u 1 rfl <| R.q (q.add (r := 3) rfl rfl (by decide)) rfl <| R.u 1 rfl <| R.nil ?_
          refine R.again rfl rfl ?_
          refine R.reg rfl <| R.u 1 rfl <| R.q (q.lss (b := true) rfl rfl (by decide)) rfl <| R.nil ?_
          refine R.condT rfl rfl ?_
          refine R.reg rfl <| R.u 2 rfl <| R.c (q.call eg_29 rfl rfl (fun w hw => (dRead_any z1 z32 z33 z34 ((dRestart em kp)) (3) w (hw.b 0 rfl) ((fun _ => Wd.row 1 rfl) w hw) ((fun _ => Wd.row 2 rfl) w hw) ((fun _ => Wd.row 3 rfl) w hw) ))) rfl <| R.u 5 rfl <| R.nil ?_
          refine R.reg rfl <| R.u 1 rfl <| R.q (q.neqE0 rfl rfl Try.underlying26 (by omega)) rfl <| R.u 3 rfl <| R.qg rfl (q.idxA (j := 3) rfl rfl Try.underlying115 rfl rfl (by omega) (by decide) rfl) rfl <| R.qg rfl (q.ld 4 rfl rfl tOne_9 rfl) rfl <| R.qg rfl (q.neqS1 rfl rfl ‹_›) rfl <| R.u 1 rfl <| R.nil ?_
          refine R.condF rfl rfl ?_
          refine R.reg rfl <| R.u 1 rfl <| R.q (q.add (r := 4) rfl rfl (by decide)) rfl <| R.u 1 rfl <| R.nil ?_
          refine R.again rfl rfl ?_
          refine R.reg rfl <| R.u 1 rfl <| R.q (q.lss (b := false) rfl rfl (by decide)) rfl <| R.nil ?_
          refine R.condF rfl rfl ?_
          refine R.reg rfl <| R.u 1 rfl <| R.nil ?_
          exact R.rv rfl Try.results12 rfl (rB (by (first | rfl | (exfalso; omega))))
    · refine R.cg rfl (q.call eg_23 rfl rfl (fun w hw => (cv (congrArg Value.bool h2) (lightA_any _ (mo) (60) w ((fun _ => Wd.fls 1 rfl) w hw) (hw.acts 0 rfl) )))) rfl <| R.u 2 rfl <| R.nil ?_
      refine R.condT rfl rfl ?_
      refine R.reg rfl <| R.u 1 rfl <| R.nil ?_
      exact R.rv rfl Try.results12 rfl (rB (by (first | rfl | (exfalso; omega))))
  · refine R.c (q.call eg_23 rfl rfl (fun w hw => (cv (congrArg Value.bool h1) (lightA_any _ (l) (40) w ((fun _ => Wd.fls 3 rfl) w hw) (hw.acts 2 rfl) )))) rfl <| R.u 6 rfl <| R.nil ?_
    refine R.condT rfl rfl ?_
    refine R.reg rfl <| R.u 1 rfl <| R.nil ?_
    exact R.rv rfl Try.results12 rfl (rB (by (first | rfl | (exfalso; omega))))

end Go.Proofs.Ytgmnmibejamneaa
