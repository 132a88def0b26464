import Derived.Test.YtpipachmngdegaaStoreSaysProofG27
import Derived.Test.YtpipachmngdegaaStoreSaysProofG44
section
/-
  The walks of chapter 9: a log. The document's, and the tests of lists of changes.
-/
namespace Go.Proofs.Ytpipachmngdegaa
open Go Go.RowKit
set_option linter.unusedVariables false
set_option linter.unusedSimpArgs false
set_option maxRecDepth 100000
set_option hygiene false
local macro:max "§0" : term => `([.string (((chP (x1.extract 7 (7 + (y1.toNat + (256 * y2.toNat))))).1).Key), .string (((chP (x1.extract 7 (7 + (y1.toNat + (256 * y2.toNat))))).1).Val), .bool (((chP (x1.extract 7 (7 + (y1.toNat + (256 * y2.toNat))))).1).Gone)])
local macro:max "§1" : term => `((by (first | exact same_len (by rw [List.length_map, List.length_map]; assumption) | exact same_all (by rw [List.length_map, List.length_map]; assumption) (by rw [List.length_map]; assumption) HA | exact same_hit (bL_at hx1) (bL_at hx2) (of_decide_eq_false (by assumption)))))
local macro:max "§2" : term => `((by rw [et]; assumption))
local macro:max "§3" : term => `((by ((try dsimp only); have e := cO (s := x1) (n := first + (i : Int)) (k := (dd.length : Int)) (by assumption) (by omega) (by omega) (by rw [et]; omega); exact ⟨by omega, by rw [← et]; exact sc_open HS hx1 e.1 e.2, by simp; omega, by omega, by omega⟩)))
local macro:max "§4" : term => `((s.app (l2 := [((chP (x1.extract 7 (7 + (y1.toNat + (256 * y2.toNat))))).1)]) 2 _ rfl rfl rfl (fun _ => Wd.row 0 rfl) tApp_46 (by first | omega | (simp; done) | (simp; omega)) (by first | omega | (simp; done) | (simp; omega)) (fun _ => rfl) rfl))
local macro:max "§5" : term => `((q.call eg_28 rfl rfl (fun w hw => (cv (congrArg Value.bool h3) (sameChanges_any _ (x1.L) _ (x2.L) w ((fun _ => Wd.old (c_a x1 (List.mem_of_getElem? hx1))) w hw) ((fun _ => Wd.old (c_b x2 (List.mem_of_getElem? hx2))) w hw) )))))

theorem fourR_any (n : Int) (w : World) (hn : 0 ≤ n ∧ n ≤ 9000000000000000000) : Calls Try.prog 46 #[.int .i64 n] w fun e w' => e = .returned (.string (fourB n)) ∧ Ext w w' := by
  refine R.enter (n := 20) (vs := [.int .i64 n]) [] [(0, .int .i64 n)] Try.func46 rfl rfl rfl rfl ?_
  refine R.reg rfl <| R.u 1 rfl <| R.nil ?_
  refine R.reg rfl <| R.u 1 rfl <| R.q (q.rem (r := n % 256) rfl rfl (by omega) (remI (by omega))) rfl <| R.q (q.cvi (r := (n % 256)) rfl (by rw [Try.underlying3]; rfl) Try.underlying5 (wr_u8 (by omega))) rfl <| R.u 1 rfl <| R.q (q.quo (r := n / 256) rfl rfl (by omega) (quoI (by omega))) rfl <| R.q (q.rem (r := (n / 256) % 256) rfl rfl (by omega) (remI (by omega))) rfl <| R.q (q.cvi (r := ((n / 256) % 256)) rfl (by rw [Try.underlying3]; rfl) Try.underlying5 (wr_u8 (by omega))) rfl <| R.u 1 rfl <| R.q (q.quo (r := n / 65536) rfl rfl (by omega) (quoI (by omega))) rfl <| R.q (q.rem (r := (n / 65536) % 256) rfl rfl (by omega) (remI (by omega))) rfl <| R.q (q.cvi (r := ((n / 65536) % 256)) rfl (by rw [Try.underlying3]; rfl) Try.underlying5 (wr_u8 (by omega))) rfl <| R.u 1 rfl <| R.q (q.quo (r := n / 16777216) rfl rfl (by omega) (quoI (by omega))) rfl <| R.q (q.rem (r := (n / 16777216) % 256) rfl rfl (by omega) (remI (by omega))) rfl <| R.q (q.cvi (r := ((n / 16777216) % 256)) rfl (by rw [Try.underlying3]; rfl) Try.underlying5 (wr_u8 (by omega))) rfl <| ?_
  refine R.s rfl (s.bs (l := ([(u8 (n % 256)), (u8 ((n / 256) % 256)), (u8 ((n / 65536) % 256)), (u8 ((n / 16777216) % 256))] : List UInt8)) tSl_109 tZero_5 rfl rfl rfl rfl rfl (cl_cons (u8_cell (by omega)) (cl_cons (u8_cell (by omega)) (cl_cons (u8_cell (by omega)) (cl_cons (u8_cell (by omega)) cl_nil)))) rfl) fun b1 => ?_
  refine R.q (q.b2s (fun _ => Wd.row 0 rfl) rfl tSl_109 Try.underlying5 Try.underlying9) rfl <| R.u 1 rfl <| R.nil ?_
  exact R.rv rfl Try.results46 rfl (rS (by (rfl)))

set_option maxHeartbeats 1600000 in
theorem closedDeeds_any (v_l : Value) (l : List ByteArray) (first : Int) (w : World) (own : List Nat) (H : Wd w (blks [] ++ own) ([] ++ [Res.held w own]) [Res.ls v_l (l : List ByteArray)] w) (hs : ∀ s ∈ l, s.size = 48) (hb : 1 ≤ first ∧ first ≤ 4000000000000000000 ∧ l.length ≤ 100000) : Calls Try.prog 15 #[v_l, .int .i64 first] w fun e w' => ∃ z : Value × List Bat, e = .returned (.tuple #[z.1, .int .i64 (((scan l first).2) : Int)]) ∧ Wd w (blks [] ++ own) ([] ++ [Res.held w own]) [Res.ls z.1 (z.2 : List Bat), Res.batsE (z.2 : List Bat) (((scan l first).1))] w' := by
  have m_l := H.lenF 0 rfl
  refine R.enterN (n := 80) (vs := [v_l, .int .i64 first]) (B := [Res.held w own]) [(0, v_l), (1, .int .i64 first)] Try.func15 rfl rfl rfl rfl H ?_
  refine R.reg rfl <| R.u 2 rfl <| R.nil ?_
  refine R.reg rfl <| R.u 1 rfl <| R.nil ?_
  refine R.reg rfl <| R.u 1 rfl <| R.nil ?_
  refine R.reg rfl <| R.u 1 rfl <| R.nil ?_
  refine R.reg rfl <| R.u 1 rfl <| R.nil ?_
  refine R.mp (fun _ hw => hw.bats0) ?_
  refine R.row0 (α := Bat) 46 ?_
  refine R.row0 (α := Change) 51 ?_
  refine R.loop (fun g_ : Nat × Nat × Value × (List Bat) × Value × (List Change) => [(0, v_l), (1, .int .i64 first), (6, g_.2.2.1), (7, g_.2.2.2.2.1), (8, .int .i64 (g_.2.1 : Int)), (9, .int .i64 (g_.1 : Int))]) (fun g_ : Nat × Nat × Value × (List Bat) × Value × (List Change) => [Res.row 51 g_.2.2.2.2.1 (g_.2.2.2.2.2 : List Change), Res.row 46 g_.2.2.1 (g_.2.2.2.1 : List Bat), Res.held w own]) (fun g_ : Nat × Nat × Value × (List Bat) × Value × (List Change) => [Res.bats (g_.2.2.2.1 : List Bat), Res.bats ([] : List Bat), Res.ls v_l (l : List ByteArray)]) (fun g_ : Nat × Nat × Value × (List Bat) × Value × (List Change) => g_.1 ≤ l.length ∧ scD (l.drop g_.1) (first + (g_.1 : Int)) (g_.2.2.2.1.map Bat.L) g_.2.2.2.2.2 g_.2.1 g_.1 = scan l first ∧ g_.2.2.2.2.2.length ≤ g_.1 ∧ g_.2.2.2.1.length ≤ g_.1 ∧ g_.2.1 ≤ g_.1) (fun g_ : Nat × Nat × Value × (List Bat) × Value × (List Change) => l.length - g_.1) (0, 0, (.slice none 0 0), [], (.slice none 0 0), []) rfl (by dsimp only; exact ⟨by omega, by show scD _ (first + 0) _ _ _ _ = _; rw [Int.add_zero]; rfl, by simp, by simp, by simp⟩) ⟨rfl, rfl, rfl, rfl, rfl, rfl, trivial⟩ (fun _ => Wd.pick [0, 1, 2] [0, 0, 1] rfl rfl rfl) ?_
  rintro ⟨i, u, qo, ob, qd, dd⟩ ⟨hi, HS, hdl, hol, hui⟩
  dsimp only at *
  refine R.reg rfl <| R.u 2 rfl <| R.q (q.len' (fun _ => Wd.fls 2 rfl) rfl Try.underlying22) rfl <| ?_
  by_cases h1 : i < l.length
  · refine R.q (q.lss rfl rfl (decide_eq_true (by omega))) rfl <| R.nil ?_
    refine R.condT rfl rfl ?_
    refine R.reg rfl <| R.u 2 rfl <| ?_
    obtain ⟨x1, hx1⟩ : ∃ z, l[i]? = some z := ⟨_, List.getElem?_eq_getElem (by omega)⟩
    have sx1 := hs x1 (List.mem_of_getElem? hx1)
    refine R.q (q.idx (i := i) (fun _ => Wd.fls 2 rfl) rfl rfl tSl_22 rfl hx1) rfl <| R.q (q.ldE (fun _ => Wd.fls 2 rfl) hx1 rfl tOne_9 rfl) rfl <| R.u 1 rfl <| R.nil ?_
    obtain ⟨y1, hy1⟩ : ∃ z, x1.data[5]? = some z := ⟨_, Array.getElem?_eq_getElem (show 5 < x1.size from by omega)⟩
    have by1 := y1.toNat_lt
    obtain ⟨y2, hy2⟩ : ∃ z, x1.data[6]? = some z := ⟨_, Array.getElem?_eq_getElem (show 6 < x1.size from by omega)⟩
    have by2 := y2.toNat_lt
    refine R.regQ rfl mixed (by kernel_rfl) <| Q.u 1 rfl <| Q.q (q.sIdx (i := 5) rfl rfl Try.underlying9 rfl hy1) rfl <| Q.q (q.cvi (r := ((y1.toNat : Nat) : Int)) rfl (by rw [Try.underlying5]; rfl) Try.underlying3 (wr (by omega))) rfl <| Q.u 1 rfl <| Q.q (q.sIdx (i := 6) rfl rfl Try.underlying9 rfl hy2) rfl <| Q.q (q.cvi (r := ((y2.toNat : Nat) : Int)) rfl (by rw [Try.underlying5]; rfl) Try.underlying3 (wr (by omega))) rfl <| Q.q (q.mul (r := ((256 * y2.toNat : Nat) : Int)) rfl rfl (wr (by omega))) rfl <| Q.q (q.add (r := ((y1.toNat + (256 * y2.toNat) : Nat) : Int)) rfl rfl (wr (by omega))) rfl <| Q.u 1 rfl <| Q.nil ?_
    have el : lenB x1 = y1.toNat + 256 * y2.toNat := by unfold lenB; rw [byteAt_of hy1, byteAt_of hy2]
    have et : txtB x1 = x1.extract 7 (7 + (y1.toNat + 256 * y2.toNat)) := by unfold txtB; rw [el]
    by_cases h2 : (x1.extract 1 5) = fourB (first + (i : Int))
    · by_cases h3 : 41 < (y1.toNat + (256 * y2.toNat))
      · refine R.regQ rfl mixed (by kernel_rfl) <| Q.u 1 rfl <| Q.q (q.sSl (i := 1) (j := 5) rfl rfl rfl Try.underlying9 rfl rfl (by omega) (by omega)) rfl <| Q.u 2 rfl <| Q.q (q.add (r := first + (i : Int)) rfl rfl (wr (by omega))) rfl <| Q.c (q.call eg_46 rfl rfl (fun w hw => (fourR_any ((first + (i : Int))) w  (by omega)))) rfl <| Q.q (q.neqS1 rfl rfl h2) rfl <| Q.u 2 rfl <| Q.qg rfl (q.gtr rfl rfl (decide_eq_true (by omega))) rfl <| Q.u 1 rfl <| Q.nil ?_
        refine R.condT rfl rfl ?_
        refine R.reg rfl <| R.u 4 rfl <| R.nil ?_
        refine R.mp (fun _ hw => hw.batsIs 0 rfl) ?_
        refine R.mp (B' := [Res.row 51 qd (dd : List Change), Res.held w own]) (fun _ hw => hw.lendL 1 _ rfl rfl) ?_
        have hz : ((scan l first).1, (scan l first).2) = ((ob.map Bat.L), u) := by (first | (have e : scan l first = _ := sc_stop HS hx1 (noH (k := (dd.length : Int)) (by assumption)).1 (noH (k := (dd.length : Int)) (by assumption)).2; rw [e]) | (have e : scan l first = _ := sc_stop HS hx1 (noL (k := (dd.length : Int)) (by omega)).1 (noL (k := (dd.length : Int)) (by omega)).2; rw [e]) | (have e : scan l first = _ := sc_stop HS hx1 (noC (k := (dd.length : Int)) (by omega) §2).1 (noC (k := (dd.length : Int)) (by omega) §2).2; rw [e]) | (have e : scan l first = _ := sc_stop HS hx1 (noK (k := (dd.length : Int)) (by omega) (by omega)).1 (noK (k := (dd.length : Int)) (by omega) (by omega)).2; rw [e]) | (have e : scan l first = _ := sc_stop HS hx1 (noP (k := (dd.length : Int)) (by omega) (by rw [et]; omega)).1 (noP (k := (dd.length : Int)) (by omega) (by rw [et]; omega)).2; rw [e]) | (have e : scan l first = _ := sc_end HS (by omega); rw [e]))
        have hz0 : (scan l first).1 = (ob.map Bat.L) := congrArg (fun t_ => t_.1) hz
        rw [hz0]
        have hz1 : (scan l first).2 = u := congrArg (fun t_ => t_.2) hz
        rw [hz1]
        exact R.w2 (qo, ob) [1] [0, 1] rfl Try.results15 (RV.tmp rfl) (RV.tmp rfl) rfl rfl rfl (tup2 rfl rfl)
      · refine R.regQ rfl mixed (by kernel_rfl) <| Q.u 1 rfl <| Q.q (q.sSl (i := 1) (j := 5) rfl rfl rfl Try.underlying9 rfl rfl (by omega) (by omega)) rfl <| Q.u 2 rfl <| Q.q (q.add (r := first + (i : Int)) rfl rfl (wr (by omega))) rfl <| Q.c (q.call eg_46 rfl rfl (fun w hw => (fourR_any ((first + (i : Int))) w  (by omega)))) rfl <| Q.q (q.neqS1 rfl rfl h2) rfl <| Q.u 2 rfl <| Q.qg rfl (q.gtr rfl rfl (decide_eq_false (by omega))) rfl <| Q.u 1 rfl <| Q.nil ?_
        refine R.condF rfl rfl ?_
        refine R.reg rfl <| R.u 2 rfl <| R.q (q.add (r := ((7 + (y1.toNat + (256 * y2.toNat)) : Nat) : Int)) rfl rfl (wr (by omega))) rfl <| R.q (q.sSl (i := 7) (j := (7 + (y1.toNat + (256 * y2.toNat)))) rfl rfl rfl Try.underlying9 rfl rfl (by omega) (by omega)) rfl <| R.u 1 rfl <| R.nil ?_
        refine R.reg rfl <| R.u 1 rfl <| ?_
        obtain ⟨y3, hy3⟩ : ∃ z, x1.data[0]? = some z := ⟨_, Array.getElem?_eq_getElem (show 0 < x1.size from by omega)⟩
        have by3 := y3.toNat_lt
        refine R.q (q.sIdx (i := 0) rfl rfl Try.underlying9 rfl hy3) rfl <| ?_
        by_cases h4 : y3.toNat = 99
        · refine R.q (q.eql rfl rfl (beq_iff_eq.2 (by omega))) rfl <| R.u 3 rfl <| R.qg rfl (q.len' (fun _ => Wd.row 0 rfl) rfl Try.underlying46) rfl <| R.cg rfl (q.call eg_46 rfl rfl (fun w hw => (fourR_any ((dd.length : Int)) w  (by omega)))) rfl <| ?_
          by_cases h5 : (x1.extract 7 (7 + (y1.toNat + (256 * y2.toNat)))) = fourB (dd.length : Int)
          · refine R.qg rfl (q.eqlS1 rfl rfl h5) rfl <| R.u 1 rfl <| R.nil ?_
            refine R.condT rfl rfl ?_
            have e0 := byteAt_of hy3
            refine R.reg rfl <| R.u 2 rfl <| ?_
            refine R.s rfl (s.bsV (l := ([(⟨qd, dd⟩ : Bat)] : List Bat)) tSl_33 tZero_46 rfl rfl rfl rfl rfl (fun w hw => bat_cells ((fun _ => Wd.row 0 rfl) w hw)) rfl) fun b1 => ?_
            refine R.s rfl (s.app (l2 := [(⟨qd, dd⟩ : Bat)]) 2 _ rfl rfl rfl (fun _ => Wd.row 0 rfl) tApp_33 (by first | omega | (simp; done) | (simp; omega)) (by first | omega | (simp; done) | (simp; omega)) (fun _ => rfl) rfl) fun v1 => ?_
            refine R.u 1 rfl <| R.nil ?_
            refine R.reg rfl <| R.u 1 rfl <| R.nil ?_
            refine R.reg rfl <| R.u 1 rfl <| R.q (q.add (r := ((i + 1 : Nat) : Int)) rfl rfl (wr (by omega))) rfl <| R.u 1 rfl <| R.nil ?_
            refine R.reg rfl <| R.u 1 rfl <| R.q (q.add (r := ((i + 1 : Nat) : Int)) rfl rfl (wr (by omega))) rfl <| R.u 1 rfl <| R.nil ?_
            refine R.mp (B' := [Res.row 46 (.slice (some ⟨b1, 0, none⟩) 1 1) ([(⟨qd, dd⟩ : Bat)] : List Bat), Res.row 46 v1 ((ob ++ ([(⟨qd, dd⟩ : Bat)])) : List Bat), Res.held w own]) (fun _ hw => hw.lendL 1 _ rfl rfl) ?_
            refine R.mp (fun _ hw => hw.batsAdd 1 0 rfl rfl) ?_
            refine R.row0 (α := Change) 51 ?_
            refine R.back (i + 1, (i + 1), v1, (ob ++ ([(⟨qd, dd⟩ : Bat)])), (.slice none 0 0), []) rfl (by ((try dsimp only); exact ⟨by omega, by rw [List.map_append]; exact sc_close HS hx1 (cC (by assumption) (by omega) (by omega) §2), by simp, by simp; omega, by omega⟩)) (by dsimp only; omega) ⟨rfl, rfl, rfl, rfl, rfl, rfl, trivial⟩ (fun _ => Wd.pik [0, 2, 3] [0, 3, 4] rfl rfl rfl)
          · refine R.qg rfl (q.eqlS0 rfl rfl h5) rfl <| R.u 1 rfl <| R.nil ?_
            refine R.condF rfl rfl ?_
            have e0 := byteAt_of hy3
            refine R.reg rfl <| R.u 1 rfl <| R.q (q.sIdx (i := 0) rfl rfl Try.underlying9 rfl hy3) rfl <| ?_
            by_cases h6 : y3.toNat = 111
            · refine R.q (q.neq rfl rfl (bne_eq_false_iff_eq.2 (by omega))) rfl <| R.nil ?_
              refine R.condF rfl rfl ?_
              have ez : (x1.extract 7 (7 + (y1.toNat + (256 * y2.toNat)))).size ≤ 48 := by rw [ByteArray.size_extract]; omega
              have c4 := chP_04 (x1.extract 7 (7 + (y1.toNat + (256 * y2.toNat))))
              refine R.reg rfl <| R.u 1 rfl <| R.c (q.call eg_47 rfl rfl (fun w hw => (changeOf_any ((x1.extract 7 (7 + (y1.toNat + (256 * y2.toNat))))) w  (by omega)))) rfl <| R.u 3 rfl <| ?_
              refine R.s rfl (s.alloc (cs := [.string (⟨#[]⟩), .string (⟨#[]⟩), .bool false]) tZero_51 rfl rfl) fun b2 => ?_
              refine R.s rfl (s.st (us := §0) (cs' := §0) 0 _ rfl rfl rfl rfl (.inl tAgg_51) rfl rfl rfl rfl) fun _ => ?_
              refine R.u 1 rfl <| R.nil ?_
              refine R.reg rfl <| R.u 1 rfl <| ?_
              by_cases h7 : 0 < (chP (x1.extract 7 (7 + (y1.toNat + (256 * y2.toNat))))).2
              · refine R.q (q.gtr rfl rfl (decide_eq_true (by omega))) rfl <| R.nil ?_
                refine R.condT rfl rfl ?_
                refine R.reg rfl <| R.u 4 rfl <| R.nil ?_
                refine R.mp (fun _ hw => hw.batsIs 0 rfl) ?_
                refine R.mp (B' := [Res.box b2 §0 51, Res.row 51 qd (dd : List Change), Res.held w own]) (fun _ hw => hw.lendL 2 _ rfl rfl) ?_
                have hz : ((scan l first).1, (scan l first).2) = ((ob.map Bat.L), u) := by (first | (have e : scan l first = _ := sc_stop HS hx1 (noH (k := (dd.length : Int)) (by assumption)).1 (noH (k := (dd.length : Int)) (by assumption)).2; rw [e]) | (have e : scan l first = _ := sc_stop HS hx1 (noL (k := (dd.length : Int)) (by omega)).1 (noL (k := (dd.length : Int)) (by omega)).2; rw [e]) | (have e : scan l first = _ := sc_stop HS hx1 (noC (k := (dd.length : Int)) (by omega) §2).1 (noC (k := (dd.length : Int)) (by omega) §2).2; rw [e]) | (have e : scan l first = _ := sc_stop HS hx1 (noK (k := (dd.length : Int)) (by omega) (by omega)).1 (noK (k := (dd.length : Int)) (by omega) (by omega)).2; rw [e]) | (have e : scan l first = _ := sc_stop HS hx1 (noP (k := (dd.length : Int)) (by omega) (by rw [et]; omega)).1 (noP (k := (dd.length : Int)) (by omega) (by rw [et]; omega)).2; rw [e]) | (have e : scan l first = _ := sc_end HS (by omega); rw [e]))
                have hz0 : (scan l first).1 = (ob.map Bat.L) := congrArg (fun t_ => t_.1) hz
                rw [hz0]
                have hz1 : (scan l first).2 = u := congrArg (fun t_ => t_.2) hz
                rw [hz1]
                exact R.w2 (qo, ob) [2] [0, 1] rfl Try.results15 (RV.tmp rfl) (RV.tmp rfl) rfl rfl rfl (tup2 rfl rfl)
              · refine R.q (q.gtr rfl rfl (decide_eq_false (by omega))) rfl <| R.nil ?_
                refine R.condF rfl rfl ?_
                refine R.reg rfl <| R.u 1 rfl <| R.q (q.ldS 0 rfl rfl tAgg_51) rfl <| ?_
                refine R.s rfl (s.bs (l := ([((chP (x1.extract 7 (7 + (y1.toNat + (256 * y2.toNat))))).1)] : List Change)) tSl_46 tZero_51 rfl rfl rfl rfl rfl rfl rfl) fun b3 => ?_
                refine R.s rfl §4 fun v2 => ?_
                refine R.u 1 rfl <| R.nil ?_
                refine R.reg rfl <| R.u 1 rfl <| R.q (q.add (r := ((i + 1 : Nat) : Int)) rfl rfl (wr (by omega))) rfl <| R.u 1 rfl <| R.nil ?_
                refine R.back (i + 1, u, qo, ob, v2, (dd ++ ([((chP (x1.extract 7 (7 + (y1.toNat + (256 * y2.toNat))))).1)]))) rfl §3 (by dsimp only; omega) ⟨rfl, rfl, rfl, rfl, rfl, rfl, trivial⟩ (fun _ => Wd.pik [2, 3, 4] [0, 1, 2] rfl rfl rfl)
            · refine R.q (q.neq rfl rfl (bne_iff_ne.2 (by omega))) rfl <| R.nil ?_
              refine R.condT rfl rfl ?_
              refine R.reg rfl <| R.u 4 rfl <| R.nil ?_
              refine R.mp (fun _ hw => hw.batsIs 0 rfl) ?_
              refine R.mp (B' := [Res.row 51 qd (dd : List Change), Res.held w own]) (fun _ hw => hw.lendL 1 _ rfl rfl) ?_
              have hz : ((scan l first).1, (scan l first).2) = ((ob.map Bat.L), u) := by (first | (have e : scan l first = _ := sc_stop HS hx1 (noH (k := (dd.length : Int)) (by assumption)).1 (noH (k := (dd.length : Int)) (by assumption)).2; rw [e]) | (have e : scan l first = _ := sc_stop HS hx1 (noL (k := (dd.length : Int)) (by omega)).1 (noL (k := (dd.length : Int)) (by omega)).2; rw [e]) | (have e : scan l first = _ := sc_stop HS hx1 (noC (k := (dd.length : Int)) (by omega) §2).1 (noC (k := (dd.length : Int)) (by omega) §2).2; rw [e]) | (have e : scan l first = _ := sc_stop HS hx1 (noK (k := (dd.length : Int)) (by omega) (by omega)).1 (noK (k := (dd.length : Int)) (by omega) (by omega)).2; rw [e]) | (have e : scan l first = _ := sc_stop HS hx1 (noP (k := (dd.length : Int)) (by omega) (by rw [et]; omega)).1 (noP (k := (dd.length : Int)) (by omega) (by rw [et]; omega)).2; rw [e]) | (have e : scan l first = _ := sc_end HS (by omega); rw [e]))
              have hz0 : (scan l first).1 = (ob.map Bat.L) := congrArg (fun t_ => t_.1) hz
              rw [hz0]
              have hz1 : (scan l first).2 = u := congrArg (fun t_ => t_.2) hz
              rw [hz1]
              exact R.w2 (qo, ob) [1] [0, 1] rfl Try.results15 (RV.tmp rfl) (RV.tmp rfl) rfl rfl rfl (tup2 rfl rfl)
        · refine R.q (q.eql rfl rfl (beq_eq_false_iff_ne.2 (by omega))) rfl <| R.u 7 rfl <| R.nil ?_
          refine R.condF rfl rfl ?_
          have e0 := byteAt_of hy3
          refine R.reg rfl <| R.u 1 rfl <| R.q (q.sIdx (i := 0) rfl rfl Try.underlying9 rfl hy3) rfl <| ?_
          by_cases h8 : y3.toNat = 111
          · refine R.q (q.neq rfl rfl (bne_eq_false_iff_eq.2 (by omega))) rfl <| R.nil ?_
            refine R.condF rfl rfl ?_
            have ez : (x1.extract 7 (7 + (y1.toNat + (256 * y2.toNat)))).size ≤ 48 := by rw [ByteArray.size_extract]; omega
            have c4 := chP_04 (x1.extract 7 (7 + (y1.toNat + (256 * y2.toNat))))
            refine R.reg rfl <| R.u 1 rfl <| R.c (q.call eg_47 rfl rfl (fun w hw => (changeOf_any ((x1.extract 7 (7 + (y1.toNat + (256 * y2.toNat))))) w  (by omega)))) rfl <| R.u 3 rfl <| ?_
            refine R.s rfl (s.alloc (cs := [.string (⟨#[]⟩), .string (⟨#[]⟩), .bool false]) tZero_51 rfl rfl) fun b4 => ?_
            refine R.s rfl (s.st (us := §0) (cs' := §0) 0 _ rfl rfl rfl rfl (.inl tAgg_51) rfl rfl rfl rfl) fun _ => ?_
            refine R.u 1 rfl <| R.nil ?_
            refine R.reg rfl <| R.u 1 rfl <| ?_
            by_cases h9 : 0 < (chP (x1.extract 7 (7 + (y1.toNat + (256 * y2.toNat))))).2
            · refine R.q (q.gtr rfl rfl (decide_eq_true (by omega))) rfl <| R.nil ?_
              refine R.condT rfl rfl ?_
              refine R.reg rfl <| R.u 4 rfl <| R.nil ?_
              refine R.mp (fun _ hw => hw.batsIs 0 rfl) ?_
              refine R.mp (B' := [Res.box b4 §0 51, Res.row 51 qd (dd : List Change), Res.held w own]) (fun _ hw => hw.lendL 2 _ rfl rfl) ?_
              have hz : ((scan l first).1, (scan l first).2) = ((ob.map Bat.L), u) := by (first | (have e : scan l first = _ := sc_stop HS hx1 (noH (k := (dd.length : Int)) (by assumption)).1 (noH (k := (dd.length : Int)) (by assumption)).2; rw [e]) | (have e : scan l first = _ := sc_stop HS hx1 (noL (k := (dd.length : Int)) (by omega)).1 (noL (k := (dd.length : Int)) (by omega)).2; rw [e]) | (have e : scan l first = _ := sc_stop HS hx1 (noC (k := (dd.length : Int)) (by omega) §2).1 (noC (k := (dd.length : Int)) (by omega) §2).2; rw [e]) | (have e : scan l first = _ := sc_stop HS hx1 (noK (k := (dd.length : Int)) (by omega) (by omega)).1 (noK (k := (dd.length : Int)) (by omega) (by omega)).2; rw [e]) | (have e : scan l first = _ := sc_stop HS hx1 (noP (k := (dd.length : Int)) (by omega) (by rw [et]; omega)).1 (noP (k := (dd.length : Int)) (by omega) (by rw [et]; omega)).2; rw [e]) | (have e : scan l first = _ := sc_end HS (by omega); rw [e]))
              have hz0 : (scan l first).1 = (ob.map Bat.L) := congrArg (fun t_ => t_.1) hz
              rw [hz0]
              have hz1 : (scan l first).2 = u := congrArg (fun t_ => t_.2) hz
              rw [hz1]
              exact R.w2 (qo, ob) [2] [0, 1] rfl Try.results15 (RV.tmp rfl) (RV.tmp rfl) rfl rfl rfl (tup2 rfl rfl)
            · refine R.q (q.gtr rfl rfl (decide_eq_false (by omega))) rfl <| R.nil ?_
              refine R.condF rfl rfl ?_
              refine R.reg rfl <| R.u 1 rfl <| R.q (q.ldS 0 rfl rfl tAgg_51) rfl <| ?_
              refine R.s rfl (s.bs (l := ([((chP (x1.extract 7 (7 + (y1.toNat + (256 * y2.toNat))))).1)] : List Change)) tSl_46 tZero_51 rfl rfl rfl rfl rfl rfl rfl) fun b5 => ?_
              refine R.s rfl §4 fun v3 => ?_
              refine R.u 1 rfl <| R.nil ?_
              refine R.reg rfl <| R.u 1 rfl <| R.q (q.add (r := ((i + 1 : Nat) : Int)) rfl rfl (wr (by omega))) rfl <| R.u 1 rfl <| R.nil ?_
              refine R.back (i + 1, u, qo, ob, v3, (dd ++ ([((chP (x1.extract 7 (7 + (y1.toNat + (256 * y2.toNat))))).1)]))) rfl §3 (by dsimp only; omega) ⟨rfl, rfl, rfl, rfl, rfl, rfl, trivial⟩ (fun _ => Wd.pik [2, 3, 4] [0, 1, 2] rfl rfl rfl)
          · refine R.q (q.neq rfl rfl (bne_iff_ne.2 (by omega))) rfl <| R.nil ?_
            refine R.condT rfl rfl ?_
            refine R.reg rfl <| R.u 4 rfl <| R.nil ?_
            refine R.mp (fun _ hw => hw.batsIs 0 rfl) ?_
            refine R.mp (B' := [Res.row 51 qd (dd : List Change), Res.held w own]) (fun _ hw => hw.lendL 1 _ rfl rfl) ?_
            have hz : ((scan l first).1, (scan l first).2) = ((ob.map Bat.L), u) := by (first | (have e : scan l first = _ := sc_stop HS hx1 (noH (k := (dd.length : Int)) (by assumption)).1 (noH (k := (dd.length : Int)) (by assumption)).2; rw [e]) | (have e : scan l first = _ := sc_stop HS hx1 (noL (k := (dd.length : Int)) (by omega)).1 (noL (k := (dd.length : Int)) (by omega)).2; rw [e]) | (have e : scan l first = _ := sc_stop HS hx1 (noC (k := (dd.length : Int)) (by omega) §2).1 (noC (k := (dd.length : Int)) (by omega) §2).2; rw [e]) | (have e : scan l first = _ := sc_stop HS hx1 (noK (k := (dd.length : Int)) (by omega) (by omega)).1 (noK (k := (dd.length : Int)) (by omega) (by omega)).2; rw [e]) | (have e : scan l first = _ := sc_stop HS hx1 (noP (k := (dd.length : Int)) (by omega) (by rw [et]; omega)).1 (noP (k := (dd.length : Int)) (by omega) (by rw [et]; omega)).2; rw [e]) | (have e : scan l first = _ := sc_end HS (by omega); rw [e]))
            have hz0 : (scan l first).1 = (ob.map Bat.L) := congrArg (fun t_ => t_.1) hz
            rw [hz0]
            have hz1 : (scan l first).2 = u := congrArg (fun t_ => t_.2) hz
            rw [hz1]
            exact R.w2 (qo, ob) [1] [0, 1] rfl Try.results15 (RV.tmp rfl) (RV.tmp rfl) rfl rfl rfl (tup2 rfl rfl)
    · refine R.regQ rfl mixed (by kernel_rfl) <| Q.u 1 rfl <| Q.q (q.sSl (i := 1) (j := 5) rfl rfl rfl Try.underlying9 rfl rfl (by omega) (by omega)) rfl <| Q.u 2 rfl <| Q.q (q.add (r := first + (i : Int)) rfl rfl (wr (by omega))) rfl <| Q.c (q.call eg_46 rfl rfl (fun w hw => (fourR_any ((first + (i : Int))) w  (by omega)))) rfl <| Q.q (q.neqS0 rfl rfl h2) rfl <| Q.u 4 rfl <| Q.nil ?_
      refine R.condT rfl rfl ?_
      refine R.reg rfl <| R.u 4 rfl <| R.nil ?_
      refine R.mp (fun _ hw => hw.batsIs 0 rfl) ?_
      refine R.mp (B' := [Res.row 51 qd (dd : List Change), Res.held w own]) (fun _ hw => hw.lendL 1 _ rfl rfl) ?_
      have hz : ((scan l first).1, (scan l first).2) = ((ob.map Bat.L), u) := by (first | (have e : scan l first = _ := sc_stop HS hx1 (noH (k := (dd.length : Int)) (by assumption)).1 (noH (k := (dd.length : Int)) (by assumption)).2; rw [e]) | (have e : scan l first = _ := sc_stop HS hx1 (noL (k := (dd.length : Int)) (by omega)).1 (noL (k := (dd.length : Int)) (by omega)).2; rw [e]) | (have e : scan l first = _ := sc_stop HS hx1 (noC (k := (dd.length : Int)) (by omega) §2).1 (noC (k := (dd.length : Int)) (by omega) §2).2; rw [e]) | (have e : scan l first = _ := sc_stop HS hx1 (noK (k := (dd.length : Int)) (by omega) (by omega)).1 (noK (k := (dd.length : Int)) (by omega) (by omega)).2; rw [e]) | (have e : scan l first = _ := sc_stop HS hx1 (noP (k := (dd.length : Int)) (by omega) (by rw [et]; omega)).1 (noP (k := (dd.length : Int)) (by omega) (by rw [et]; omega)).2; rw [e]) | (have e : scan l first = _ := sc_end HS (by omega); rw [e]))
      have hz0 : (scan l first).1 = (ob.map Bat.L) := congrArg (fun t_ => t_.1) hz
      rw [hz0]
      have hz1 : (scan l first).2 = u := congrArg (fun t_ => t_.2) hz
      rw [hz1]
      exact R.w2 (qo, ob) [1] [0, 1] rfl Try.results15 (RV.tmp rfl) (RV.tmp rfl) rfl rfl rfl (tup2 rfl rfl)
  · refine R.q (q.lss rfl rfl (decide_eq_false (by omega))) rfl <| R.nil ?_
    refine R.condF rfl rfl ?_
    refine R.reg rfl <| R.u 4 rfl <| R.nil ?_
    refine R.mp (fun _ hw => hw.batsIs 0 rfl) ?_
    refine R.mp (B' := [Res.row 51 qd (dd : List Change), Res.held w own]) (fun _ hw => hw.lendL 1 _ rfl rfl) ?_
    have hz : ((scan l first).1, (scan l first).2) = ((ob.map Bat.L), u) := by (first | (have e : scan l first = _ := sc_stop HS rfl (noH (k := (dd.length : Int)) (by assumption)).1 (noH (k := (dd.length : Int)) (by assumption)).2; rw [e]) | (have e : scan l first = _ := sc_stop HS rfl (noL (k := (dd.length : Int)) (by omega)).1 (noL (k := (dd.length : Int)) (by omega)).2; rw [e]) | (have e : scan l first = _ := sc_stop HS rfl (noC (k := (dd.length : Int)) (by omega) §2).1 (noC (k := (dd.length : Int)) (by omega) §2).2; rw [e]) | (have e : scan l first = _ := sc_stop HS rfl (noK (k := (dd.length : Int)) (by omega) (by omega)).1 (noK (k := (dd.length : Int)) (by omega) (by omega)).2; rw [e]) | (have e : scan l first = _ := sc_stop HS rfl (noP (k := (dd.length : Int)) (by omega) (by rw [et]; omega)).1 (noP (k := (dd.length : Int)) (by omega) (by rw [et]; omega)).2; rw [e]) | (have e : scan l first = _ := sc_end HS (by omega); rw [e]))
    have hz0 : (scan l first).1 = (ob.map Bat.L) := congrArg (fun t_ => t_.1) hz
    rw [hz0]
    have hz1 : (scan l first).2 = u := congrArg (fun t_ => t_.2) hz
    rw [hz1]
    exact R.w2 (qo, ob) [1] [0, 1] rfl Try.results15 (RV.tmp rfl) (RV.tmp rfl) rfl rfl rfl (tup2 rfl rfl)

theorem sameDeeds_any (v_a : Value) (a : List Bat) (v_b : Value) (b : List Bat) (w : World) (s_a : Sl w v_a a) (c_a : ∀ x ∈ a, Sl w x.cv x.L) (s_b : Sl w v_b b) (c_b : ∀ x ∈ b, Sl w x.cv x.L) : Calls Try.prog 16 #[v_a, v_b] w fun e w' => e = .returned (.bool (decide (a.map Bat.L = b.map Bat.L))) ∧ Ext w w' := by
  have b_a := s_a.lenle
  have b_b := s_b.lenle
  refine R.enter (n := 29) (vs := [v_a, v_b]) [] [(0, v_a), (1, v_b)] Try.func16 rfl rfl rfl rfl ?_
  refine R.reg rfl <| R.u 1 rfl <| R.nil ?_
  refine R.reg rfl <| R.u 1 rfl <| R.q (q.len' (fun _ => Wd.old s_a) rfl Try.underlying33) rfl <| R.u 1 rfl <| R.q (q.len' (fun _ => Wd.old s_b) rfl Try.underlying33) rfl <| ?_
  by_cases h1 : a.length = b.length
  · refine R.q (q.neq rfl rfl (bne_eq_false_iff_eq.2 (by omega))) rfl <| R.nil ?_
    refine R.condF rfl rfl ?_
    refine R.reg rfl <| R.u 1 rfl <| R.nil ?_
    refine R.loop (fun k : Nat => [(0, v_a), (1, v_b), (5, .int .i64 (k : Int))]) (fun k : Nat => []) (fun k : Nat => []) (fun k : Nat => k ≤ a.length ∧ ∀ j, j < k → (a.map Bat.L)[j]? = (b.map Bat.L)[j]?) (fun k : Nat => a.length - k) 0 rfl (by exact ⟨by omega, fun j hj => absurd hj (Nat.not_lt_zero _)⟩) ⟨rfl, rfl, rfl, trivial⟩ (fun _ => Wd.pick [] [] rfl rfl rfl) ?_
    rintro k ⟨hk, HA⟩
    refine R.reg rfl <| R.u 2 rfl <| R.q (q.len' (fun _ => Wd.old s_a) rfl Try.underlying33) rfl <| ?_
    by_cases h2 : k < a.length
    · refine R.q (q.lss rfl rfl (decide_eq_true (by omega))) rfl <| R.nil ?_
      refine R.condT rfl rfl ?_
      obtain ⟨x1, hx1⟩ : ∃ z, a[k]? = some z := ⟨_, List.getElem?_eq_getElem (by omega)⟩
      obtain ⟨x2, hx2⟩ : ∃ z, b[k]? = some z := ⟨_, List.getElem?_eq_getElem (by omega)⟩
      rcases Bool.eq_false_or_eq_true (decide (x1.L = x2.L)) with h3 | h3
      · refine R.regQ rfl mixed (by kernel_rfl) <| Q.u 2 rfl <| Q.q (q.idx (i := k) (fun _ => Wd.old s_a) rfl rfl tSl_33 rfl hx1) rfl <| Q.q (q.ldE (fun _ => Wd.old s_a) hx1 rfl tOne_46 rfl) rfl <| Q.u 2 rfl <| Q.q (q.idx (i := k) (fun _ => Wd.old s_b) rfl rfl tSl_33 rfl hx2) rfl <| Q.q (q.ldE (fun _ => Wd.old s_b) hx2 rfl tOne_46 rfl) rfl <| Q.c §5 rfl <| Q.u 1 rfl <| Q.nil ?_
        refine R.reg rfl <| R.u 2 rfl <| R.nil ?_
        refine R.condF rfl rfl ?_
        refine R.reg rfl <| R.u 1 rfl <| R.q (q.add (r := ((k + 1 : Nat) : Int)) rfl rfl (wr (by omega))) rfl <| R.u 1 rfl <| R.nil ?_
        refine R.back (k + 1) rfl (by (exact ⟨by omega, same_step HA (bL_at hx1) (bL_at hx2) (of_decide_eq_true (by assumption))⟩)) (by omega) ⟨rfl, rfl, rfl, trivial⟩ (fun _ => Wd.pick [] [] rfl rfl rfl)
      · refine R.regQ rfl mixed (by kernel_rfl) <| Q.u 2 rfl <| Q.q (q.idx (i := k) (fun _ => Wd.old s_a) rfl rfl tSl_33 rfl hx1) rfl <| Q.q (q.ldE (fun _ => Wd.old s_a) hx1 rfl tOne_46 rfl) rfl <| Q.u 2 rfl <| Q.q (q.idx (i := k) (fun _ => Wd.old s_b) rfl rfl tSl_33 rfl hx2) rfl <| Q.q (q.ldE (fun _ => Wd.old s_b) hx2 rfl tOne_46 rfl) rfl <| Q.c §5 rfl <| Q.u 1 rfl <| Q.nil ?_
        refine R.reg rfl <| R.u 2 rfl <| R.nil ?_
        refine R.condT rfl rfl ?_
        refine R.reg rfl <| R.u 1 rfl <| R.nil ?_
        exact R.rv rfl Try.results16 rfl (rB §1)
    · refine R.q (q.lss rfl rfl (decide_eq_false (by omega))) rfl <| R.nil ?_
      refine R.condF rfl rfl ?_
      refine R.reg rfl <| R.u 1 rfl <| R.nil ?_
      exact R.rv rfl Try.results16 rfl (rB §1)
  · refine R.q (q.neq rfl rfl (bne_iff_ne.2 (by omega))) rfl <| R.nil ?_
    refine R.condT rfl rfl ?_
    refine R.reg rfl <| R.u 1 rfl <| R.nil ?_
    exact R.rv rfl Try.results16 rfl (rB §1)

end Go.Proofs.Ytpipachmngdegaa
end
