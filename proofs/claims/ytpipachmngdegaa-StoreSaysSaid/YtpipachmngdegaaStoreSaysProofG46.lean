import Derived.Test.YtpipachmngdegaaStoreSaysProofG45
import Derived.Test.YtpipachmngdegaaStoreSaysProofG32
import Derived.Test.YtpipachmngdegaaStoreSaysProofG25
section
/-
  The walk of the law of chapter 9.
-/
namespace Go.Proofs.Ytpipachmngdegaa
open Go Go.RowKit
set_option linter.unusedVariables false
set_option linter.unusedSimpArgs false
set_option maxRecDepth 100000
set_option hygiene false
local macro:max "§0" : term => `([.string x3.Kind, .string x3.S, .int .i64 x3.P.Holder, .int .i64 x3.P.Slot, .int .i64 x3.Q.Holder, .int .i64 x3.Q.Slot, .int .i64 x3.A, .int .i64 x3.B, .int .i64 x3.N, .int .u64 x3.K, x3.cv])
local macro:max "§1" : term => `((s.callV (B0 := [Res.box bl [.pointer (some ⟨z1, 0, none⟩), .int .i64 lg.From, .int .i64 lg.Many, .int .i64 lg.First, .int .i64 lg.Next] 85, Res.box z1 [em_Kept, em_Now, em_Wait, .int .i64 em.Fuse, .bool em.Down] 81, Res.row 9 em_Kept (em.Kept : List ByteArray), Res.row 9 em_Now (em.Now : List ByteArray), Res.row 83 em_Wait (em.Wait : List Turn)]) (Br := [Res.box b2 §0 48]) (F0 := [Res.ls x3.cv (x3.Changes : List Change)]) [5, 1, 2, 3, 4, 0] [0] (fun g_ : Value × Value × Value => errv (((addL lg em x3.Changes)).2.2)) (fun g_ : Value × Value × Value => [Res.box bl [.pointer (some ⟨z1, 0, none⟩), .int .i64 ((((addL lg em x3.Changes)).1).From), .int .i64 ((((addL lg em x3.Changes)).1).Many), .int .i64 ((((addL lg em x3.Changes)).1).First), .int .i64 ((((addL lg em x3.Changes)).1).Next)] 85, Res.box z1 [g_.1, g_.2.1, g_.2.2, .int .i64 ((((addL lg em x3.Changes)).2.1).Fuse), .bool ((((addL lg em x3.Changes)).2.1).Down)] 81, Res.row 9 g_.1 ((((addL lg em x3.Changes)).2.1).Kept : List ByteArray), Res.row 9 g_.2.1 ((((addL lg em x3.Changes)).2.1).Now : List ByteArray), Res.row 83 g_.2.2 ((((addL lg em x3.Changes)).2.1).Wait : List Turn)]) (fun g_ : Value × Value × Value => []) rfl rfl rfl eg_20 rfl rfl (fun w own hw H => add_any bl  (lg) x3.cv (x3.Changes) z1 em_Kept em_Now em_Wait (em) w own H (by first | assumption | omega | (dsimp only; omega)) (by first | assumption | exact ⟨by assumption, by omega⟩)) rfl))
local macro:max "§2" : term => `([Res.ls x3.cv (x3.Changes : List Change), Res.bats (gb : List Bat), Res.ls qg (gb : List Bat), Res.bats (wb : List Bat), Res.ls qw (wb : List Bat), Res.bats (z15 : List Bat), Res.ls z14 (z15 : List Bat), Res.ls qn (ns : List ByteArray), Res.bats (z13 : List Bat), Res.ls z12 (z13 : List Bat), Res.acts acts, Res.ls v_acts (acts : List Deed), Res.ls v_sectors (sectors : List ByteArray)])
local macro:max "§3" : term => `((fun g_ : Value × Value × Value => [Res.box bl [.pointer (some ⟨z1, 0, none⟩), .int .i64 ((((addL lg em x3.Changes)).1).From), .int .i64 ((((addL lg em x3.Changes)).1).Many), .int .i64 ((((addL lg em x3.Changes)).1).First), .int .i64 ((((addL lg em x3.Changes)).1).Next)] 85, Res.box z1 [g_.1, g_.2.1, g_.2.2, .int .i64 ((((addL lg em x3.Changes)).2.1).Fuse), .bool ((((addL lg em x3.Changes)).2.1).Down)] 81, Res.row 9 g_.1 ((((addL lg em x3.Changes)).2.1).Kept : List ByteArray), Res.row 9 g_.2.1 ((((addL lg em x3.Changes)).2.1).Now : List ByteArray), Res.row 83 g_.2.2 ((((addL lg em x3.Changes)).2.1).Wait : List Turn), Res.box b2 §0 48]))
local macro:max "§4" : term => `([Res.box b2 §0 48, Res.box z1 [em_Kept, em_Now, em_Wait, .int .i64 em.Fuse, .bool em.Down] 81, Res.row 9 em_Kept (em.Kept : List ByteArray), Res.row 9 em_Now (em.Now : List ByteArray), Res.row 83 em_Wait (em.Wait : List Turn), Res.box bl [.pointer (some ⟨z1, 0, none⟩), .int .i64 lg.From, .int .i64 lg.Many, .int .i64 lg.First, .int .i64 lg.Next] 85])
local macro:max "§5" : term => `((⟨2, 6, 1, (opnU (dNew (Int.toNat 8)) 2 (Int.toNat 6) 1 : Int)⟩ : Lg))
local macro:max "§6" : term => `([.pointer (some ⟨z1, 0, none⟩), .int .i64 (((addL lg em x3.Changes).1).From), .int .i64 (((addL lg em x3.Changes).1).Many), .int .i64 (((addL lg em x3.Changes).1).First), .int .i64 (((addL lg em x3.Changes).1).Next)])
local macro:max "§7" : term => `((⟨⟨#[107]⟩, ⟨#[120]⟩, false⟩ : Change))
local macro:max "§8" : term => `((fun _ => Wd.pik [2, 3, 4, 5, 6, 7] [0, 1, 2, 3, 4, 5, 6, 7, 8, 9, 10, 11, 12] rfl rfl rfl))
local macro:max "§9" : term => `((by ((try dsimp only); have lk := addF_zero (hfe ▸ (by assumption) : addF lg x3.Changes = 0); obtain ⟨lk, _⟩ := lk; exact ⟨by omega, (addL_ok hEO).up (by omega), l2, l3, by rw [(l4 (by omega)).1], rfl, by rw [List.map_append]; exact (l4 (by omega)).2.1⟩)))
local macro:max "§10" : term => `((by first | omega | (simp; done) | (simp; omega)))
local macro:max "§11" : term => `((by ((try dsimp only); exact ⟨by omega, by rw [(l5 (by omega)).2]; exact hEO.up (by omega), l2, l3, by rw [(l5 (by omega)).1]; exact HG, HGW, by rw [(l5 (by omega)).2]; exact HS⟩)))
local macro:max "§12" : term => `((by (unfold lightC; first | (rw [decide_eq_false (by omega)]; rfl) | (rw [decide_eq_true (by omega), all_up (by omega) HA]; rfl) | (rw [all_hit hx1 (show lightC1 _ = false from by unfold lightC1; simp; omega)]; simp) | (rw [all_hit hx1 (show lightC1 _ = false from by unfold lightC1; simp_all)]; simp))))
local macro:max "§13" : term => `((by (unfold lightA; first | (rw [decide_eq_false (by omega)]; rfl) | (rw [decide_eq_true (by omega), all_up (by omega) HA]; rfl) | (rw [all_hit hx1 (show lightA1 _ = false from by unfold lightA1; simp; omega)]; simp) | (rw [all_hit hx1 (show lightA1 _ = false from by unfold lightA1; simp_all)]; simp))))
local macro:max "§14" : term => `((q.call eg_13 rfl rfl (fun w hw => (cv (congrArg Value.bool (decide_eq_true (by omega))) (same_any ((addL lg em x3.Changes).2.2) (f) w  (by first | omega | decide | assumption))))))
local macro:max "§15" : term => `((by (first | rfl | (exfalso; omega))))
local macro:max "§16" : term => `((fun g_ : Value × Value × Value => [Res.box z8 [.pointer (some ⟨z1, 0, none⟩), .int .i64 ((((addL §5 (dNew (Int.toNat 8)) ([§7]))).1).From), .int .i64 ((((addL §5 (dNew (Int.toNat 8)) ([§7]))).1).Many), .int .i64 ((((addL §5 (dNew (Int.toNat 8)) ([§7]))).1).First), .int .i64 ((((addL §5 (dNew (Int.toNat 8)) ([§7]))).1).Next)] 85, Res.box z1 [g_.1, g_.2.1, g_.2.2, .int .i64 ((((addL §5 (dNew (Int.toNat 8)) ([§7]))).2.1).Fuse), .bool ((((addL §5 (dNew (Int.toNat 8)) ([§7]))).2.1).Down)] 81, Res.row 9 g_.1 ((((addL §5 (dNew (Int.toNat 8)) ([§7]))).2.1).Kept : List ByteArray), Res.row 9 g_.2.1 ((((addL §5 (dNew (Int.toNat 8)) ([§7]))).2.1).Now : List ByteArray), Res.row 83 g_.2.2 ((((addL §5 (dNew (Int.toNat 8)) ([§7]))).2.1).Wait : List Turn)]))
local macro:max "§17" : term => `((s.bsV (l := ([(⟨x3.cv, x3.Changes⟩ : Bat)] : List Bat)) tSl_33 tZero_46 rfl rfl rfl rfl rfl (fun w hw => bat_cells ((fun _ => Wd.fls 0 rfl) w hw)) rfl))
local macro:max "§18" : term => `((fun g_ : Nat × Int => [Res.bats (gb : List Bat), Res.ls qg (gb : List Bat), Res.bats (wb : List Bat), Res.ls qw (wb : List Bat), Res.bats (z15 : List Bat), Res.ls z14 (z15 : List Bat), Res.ls qn (ns : List ByteArray), Res.bats (z13 : List Bat), Res.ls z12 (z13 : List Bat), Res.acts acts, Res.ls v_acts (acts : List Deed), Res.ls v_sectors (sectors : List ByteArray)]))
local macro:max "§19" : term => `((q.fld (off' := 10) rfl tFld_48_8 rfl))
local macro:max "§20" : term => `((fun g_ : Value × Value × Value × Nat × Value × List Bat => [Res.box z1 [g_.1, g_.2.1, g_.2.2.1, .int .i64 ((dm).Fuse), .bool ((dm).Down)] 81, Res.row 9 g_.1 ((dm).Kept : List ByteArray), Res.row 9 g_.2.1 ((dm).Now : List ByteArray), Res.row 83 g_.2.2.1 ((dm).Wait : List Turn), Res.box g_.2.2.2.1 [.pointer (some ⟨z1, 0, none⟩), .int .i64 (((⟨frm, many, first, (opnU dm frm (Int.toNat many) first : Int)⟩ : Lg)).From), .int .i64 (((⟨frm, many, first, (opnU dm frm (Int.toNat many) first : Int)⟩ : Lg)).Many), .int .i64 (((⟨frm, many, first, (opnU dm frm (Int.toNat many) first : Int)⟩ : Lg)).First), .int .i64 (((⟨frm, many, first, (opnU dm frm (Int.toNat many) first : Int)⟩ : Lg)).Next)] 85]))
local macro:max "§21" : term => `((fun g_ : Nat × Int => [(1, .int .i64 frm), (2, .int .i64 many), (3, .int .i64 first), (4, v_acts), (13, .pointer (some ⟨z1, 0, none⟩)), (16, .pointer (some ⟨bl, 0, none⟩)), (17, qg), (22, qw), (23, .int .i64 (u : Int)), (24, .int .i64 (i : Int)), (25, .pointer (some ⟨b2, 0, none⟩)), (26, .int .i64 g_.2), (27, .int .i64 (g_.1 : Int))]))
local macro:max "§22" : term => `((fun _ => Wd.pik [0, 1, 2, 3, 4, 5] [0, 1, 2, 3, 4, 5, 6, 7, 8, 9, 10, 11, 12] rfl rfl rfl))
local macro:max "§23" : term => `([Res.box z1 [z8, z9, z10, .int .i64 dm.Fuse, .bool dm.Down] 81, Res.row 9 z8 (dm.Kept : List ByteArray), Res.row 9 z9 (dm.Now : List ByteArray), Res.row 83 z10 (dm.Wait : List Turn), Res.box z11 [.pointer (some ⟨z1, 0, none⟩), .int .i64 frm, .int .i64 many, .int .i64 first, .int .i64 (opnU dm frm (Int.toNat many) first : Int)] 85])
local macro:max "§24" : term => `((q.add (r := ((i + 1 : Nat) : Int)) rfl rfl (wr (by omega))))
local macro:max "§25" : term => `((fun _ => Wd.actX (l := acts) 9 rfl (List.mem_of_getElem? hx3)))
local macro:max "§26" : term => `((q.gtr rfl rfl (decide_eq_false (by omega))))
local macro:max "§27" : term => `((q.lss rfl rfl (decide_eq_true (by omega))))
local macro:max "§28" : term => `((q.gtr rfl rfl (decide_eq_true (by omega))))
local macro:max "§29" : term => `((⟨x3.cv, x3.Changes⟩ : Bat))
local macro:max "§30" : term => `((q.lss rfl rfl (decide_eq_false (by omega))))
local macro:max "§31" : term => `((q.eql rfl rfl (beq_eq_false_iff_ne.2 (by omega))))
local macro:max "§32" : term => `((⟨frm, many, first, (opnU em frm (Int.toNat many) first : Int)⟩ : Lg))
local macro:max "§33" : term => `((fun g_ : Value × Value × Value × Nat × Value × List Bat => [Res.box z1 [g_.1, g_.2.1, g_.2.2.1, .int .i64 (((dNew (Int.toNat 8))).Fuse), .bool (((dNew (Int.toNat 8))).Down)] 81, Res.row 9 g_.1 (((dNew (Int.toNat 8))).Kept : List ByteArray), Res.row 9 g_.2.1 (((dNew (Int.toNat 8))).Now : List ByteArray), Res.row 83 g_.2.2.1 (((dNew (Int.toNat 8))).Wait : List Turn), Res.box g_.2.2.2.1 [.pointer (some ⟨z1, 0, none⟩), .int .i64 ((§5).From), .int .i64 ((§5).Many), .int .i64 ((§5).First), .int .i64 ((§5).Next)] 85]))
local macro:max "§34" : term => `((by first | omega | decide | assumption))
local macro:max "§35" : term => `((fun g_ : Nat × Value × Value × Value => [Res.box g_.1 [g_.2.1, g_.2.2.1, g_.2.2.2, .int .i64 (((dNew (Int.toNat (max 1 (sectors.length : Int))))).Fuse), .bool (((dNew (Int.toNat (max 1 (sectors.length : Int))))).Down)] 81, Res.row 9 g_.2.1 (((dNew (Int.toNat (max 1 (sectors.length : Int))))).Kept : List ByteArray), Res.row 9 g_.2.2.1 (((dNew (Int.toNat (max 1 (sectors.length : Int))))).Now : List ByteArray), Res.row 83 g_.2.2.2 (((dNew (Int.toNat (max 1 (sectors.length : Int))))).Wait : List Turn)]))
local macro:max "§36" : term => `((s.pre (B2 := §4) (F2 := §2) (fun _ hw => hw.act_ls (x := x3) 9 rfl (List.mem_of_getElem? hx3)) §1))
local macro:max "§37" : term => `((fun _ => (fun _ => Wd.pik [1, 2, 3, 4, 5, 6] [0, 1, 2, 3, 4, 5, 6, 7, 8, 9, 10, 11, 12] rfl rfl rfl)))
local macro:max "§38" : term => `((fun _ => Wd.pik [2, 3, 4, 5, 1] [1, 0, 1, 0, 7, 8, 9, 10, 11, 12, 13, 14] rfl rfl rfl))
local macro:max "§39" : term => `((fun _ => Wd.pik [1, 2, 3, 4, 0] [1, 2, 3, 4, 5, 6, 7, 8, 9, 10, 11, 12] rfl rfl rfl))
local macro:max "§40" : term => `((q.add (r := (((u + x3.Changes.length) + 1 : Nat) : Int)) rfl rfl (wr (by omega))))
local macro:max "§41" : term => `((fun g_ : Value × Value × Value => [Res.box z1 [g_.1, g_.2.1, g_.2.2, .int .i64 ((((dWrite dm (j : Int) x2)).1).Fuse), .bool ((((dWrite dm (j : Int) x2)).1).Down)] 81, Res.row 9 g_.1 ((((dWrite dm (j : Int) x2)).1).Kept : List ByteArray), Res.row 9 g_.2.1 ((((dWrite dm (j : Int) x2)).1).Now : List ByteArray), Res.row 83 g_.2.2 ((((dWrite dm (j : Int) x2)).1).Wait : List Turn)]))
local macro:max "§42" : term => `((q.eql rfl rfl (beq_iff_eq.2 (by omega))))
local macro:max "§43" : term => `((by (first | exact (decide_eq_true (by omega)).symm | exact (decide_eq_false (by omega)).symm)))
local macro:max "§44" : term => `((fun g_ : Nat × Value × Value × Value => [Res.box g_.1 [g_.2.1, g_.2.2.1, g_.2.2.2, .int .i64 (((dNew (Int.toNat 8))).Fuse), .bool (((dNew (Int.toNat 8))).Down)] 81, Res.row 9 g_.2.1 (((dNew (Int.toNat 8))).Kept : List ByteArray), Res.row 9 g_.2.2.1 (((dNew (Int.toNat 8))).Now : List ByteArray), Res.row 83 g_.2.2.2 (((dNew (Int.toNat 8))).Wait : List Turn)]))
local macro:max "§45" : term => `((q.call eg_13 rfl rfl (fun w hw => (cv (congrArg Value.bool rfl) (same_any (1) (1) w  §34)))))
local macro:max "§46" : term => `((q.add (r := ((u + x3.Changes.length : Nat) : Int)) rfl rfl (wr (by omega))))
local macro:max "§47" : term => `((by kernel_rfl))
local macro:max "§48" : term => `((s.app0 (l2 := wb) rfl rfl (fun _ => Wd.fls 4 rfl) tApp_33 §10 §10 rfl))
local macro:max "§49" : term => `((q.len' (fun _ => Wd.fls 0 rfl) rfl Try.underlying46))
local macro:max "§50" : term => `((by first | assumption | omega | (dsimp only; omega)))
local macro:max "§51" : term => `((q.eqlP rfl rfl Try.underlying32))
local macro:max "§52" : term => `((by first | exact .inl (by assumption) | exact .inr (by assumption)))
local macro:max "§53" : term => `((q.ld 0 rfl rfl tOne_46 rfl))
local macro:max "§54" : term => `((by dsimp only; omega))
local macro:max "§55" : term => `((by dsimp only; first | exact fInv_many (by assumption) | exact fInv_full (by assumption) (by omega) | exact fInv_none (by assumption) (by omega)))
local macro:max "§56" : term => `((fun g_ : Value × Value × Value × Nat × Value × List Bat => .tuple #[.pointer (some ⟨g_.2.2.2.1, 0, none⟩), g_.2.2.2.2.1, .nilIface]))
local macro:max "§57" : term => `([Res.acts acts, Res.ls v_acts (acts : List Deed), Res.ls v_sectors (sectors : List ByteArray)])

set_option maxRecDepth 100000 in
theorem open_bad (b_dk : Nat) (q_dkKept q_dkNow q_dkWait : Value) (dk : Dsk) (frm : Int) (many : Int) (first : Int) (w : World) (k_dk : (Res.box b_dk [q_dkKept, q_dkNow, q_dkWait, .int .i64 dk.Fuse, .bool dk.Down] 81).ok w) (s_q_dkKept : Sl w q_dkKept (dk.Kept : List ByteArray)) (s_q_dkNow : Sl w q_dkNow (dk.Now : List ByteArray)) (s_q_dkWait : Sl w q_dkWait (dk.Wait : List Turn)) (hb : ¬ (0 ≤ frm ∧ 1 ≤ many ∧ frm + many ≤ (dk.Now.length : Int) ∧ 1 ≤ first)) (hn : dk.Now.length ≤ 100000) : Calls Try.prog 11 #[.pointer (some ⟨b_dk, 0, none⟩), .int .i64 frm, .int .i64 many, .int .i64 first] w fun e w' => e = .returned (.tuple #[.pointer none, .slice none 0 0, errv 1]) ∧ Ext w w' := by
  refine R.enter (n := 103) (vs := [.pointer (some ⟨b_dk, 0, none⟩), .int .i64 frm, .int .i64 many, .int .i64 first]) [] [(0, .pointer (some ⟨b_dk, 0, none⟩)), (1, .int .i64 frm), (2, .int .i64 many), (3, .int .i64 first)] Try.func11 rfl rfl rfl rfl ?_
  refine R.oldL s_q_dkKept ?_
  refine R.oldL s_q_dkNow ?_
  refine R.oldL s_q_dkWait ?_
  refine R.oldF (r := Res.box b_dk [q_dkKept, q_dkNow, q_dkWait, .int .i64 dk.Fuse, .bool dk.Down] 81) k_dk (box_lt k_dk) ?_
  refine R.reg rfl <| R.u 3 rfl <| R.nil ?_
  refine R.reg rfl <| R.u 1 rfl <| ?_
  by_cases h1 : frm < 0
  · refine R.q §27 rfl <| R.u 22 rfl <| R.nil ?_
    refine R.condT rfl rfl ?_
    refine R.reg rfl <| R.q (q.iface rfl con_75) rfl <| R.u 3 rfl <| R.nil ?_
    exact R.rv3 rfl Try.results11 rfl rfl rfl rfl rfl (errk (by decide) (by (rfl)))
  · refine R.q §30 rfl <| R.u 2 rfl <| ?_
    by_cases h2 : many < 1
    · refine R.qg rfl §27 rfl <| R.u 19 rfl <| R.nil ?_
      refine R.condT rfl rfl ?_
      refine R.reg rfl <| R.q (q.iface rfl con_75) rfl <| R.u 3 rfl <| R.nil ?_
      exact R.rv3 rfl Try.results11 rfl rfl rfl rfl rfl (errk (by decide) (by (rfl)))
    · refine R.qg rfl §30 rfl <| R.u 4 rfl <| R.cg rfl (q.call eg_12 rfl rfl (fun w hw => (dSectors_any b_dk q_dkKept q_dkNow q_dkWait  (dk) w (hw.f 0 rfl) (hw.fls 3 rfl) (hw.fls 2 rfl) (hw.fls 1 rfl) ))) rfl <| ?_
      by_cases h3 : (dk.Now.length : Int) < many
      · refine R.qg rfl §28 rfl <| R.u 13 rfl <| R.nil ?_
        refine R.condT rfl rfl ?_
        refine R.reg rfl <| R.q (q.iface rfl con_75) rfl <| R.u 3 rfl <| R.nil ?_
        exact R.rv3 rfl Try.results11 rfl rfl rfl rfl rfl (errk (by decide) (by (rfl)))
      · refine R.qg rfl §26 rfl <| R.u 4 rfl <| R.cg rfl (q.call eg_12 rfl rfl (fun w hw => (dSectors_any b_dk q_dkKept q_dkNow q_dkWait  (dk) w (hw.f 0 rfl) (hw.fls 3 rfl) (hw.fls 2 rfl) (hw.fls 1 rfl) ))) rfl <| R.u 1 rfl <| R.qg rfl (q.sub (r := (dk.Now.length : Int) - many) rfl rfl (wr (by omega))) rfl <| ?_
        by_cases h4 : ((dk.Now.length : Int) - many) < frm
        · refine R.qg rfl §28 rfl <| R.u 5 rfl <| R.nil ?_
          refine R.condT rfl rfl ?_
          refine R.reg rfl <| R.q (q.iface rfl con_75) rfl <| R.u 3 rfl <| R.nil ?_
          exact R.rv3 rfl Try.results11 rfl rfl rfl rfl rfl (errk (by decide) (by (rfl)))
        · refine R.qg rfl §26 rfl <| R.u 3 rfl <| ?_
          by_cases h5 : first < 1
          · refine R.qg rfl §27 rfl <| R.u 1 rfl <| R.nil ?_
            refine R.condT rfl rfl ?_
            refine R.reg rfl <| R.q (q.iface rfl con_75) rfl <| R.u 3 rfl <| R.nil ?_
            exact R.rv3 rfl Try.results11 rfl rfl rfl rfl rfl (errk (by decide) (by (rfl)))
          · exfalso; omega

theorem lightC_any (v_l : Value) (l : List Change) (most : Int) (w : World) (s_l : Sl w v_l l) : Calls Try.prog 37 #[v_l, .int .i64 most] w fun e w' => e = .returned (.bool (lightC l most)) ∧ Ext w w' := by
  have b_l := s_l.lenle
  refine R.enter (n := 32) (vs := [v_l, .int .i64 most]) [] [(0, v_l), (1, .int .i64 most)] Try.func37 rfl rfl rfl rfl ?_
  refine R.oldL s_l ?_
  refine R.reg rfl <| R.u 1 rfl <| R.nil ?_
  refine R.reg rfl <| R.u 1 rfl <| R.q §49 rfl <| R.u 1 rfl <| ?_
  by_cases h1 : most < (l.length : Int)
  · refine R.q §28 rfl <| R.nil ?_
    refine R.condT rfl rfl ?_
    refine R.reg rfl <| R.u 1 rfl <| R.nil ?_
    exact R.rv rfl Try.results37 rfl (rB §12)
  · refine R.q §26 rfl <| R.nil ?_
    refine R.condF rfl rfl ?_
    refine R.reg rfl <| R.u 1 rfl <| R.nil ?_
    refine R.loop (fun k : Nat => [(0, v_l), (5, .int .i64 (k : Int))]) (fun k : Nat => []) (fun k : Nat => [Res.ls v_l (l : List Change)]) (fun k : Nat => k ≤ l.length ∧ (l.take k).all lightC1 = true) (fun k : Nat => l.length - k) 0 rfl (by exact ⟨by omega, rfl⟩) ⟨rfl, rfl, trivial⟩ (fun _ => Wd.pick [] [0] rfl rfl rfl) ?_
    rintro k ⟨hk, HA⟩
    refine R.reg rfl <| R.u 2 rfl <| R.q §49 rfl <| ?_
    by_cases h2 : k < l.length
    · refine R.q §27 rfl <| R.nil ?_
      refine R.condT rfl rfl ?_
      refine R.reg rfl <| R.u 2 rfl <| ?_
      obtain ⟨x1, hx1⟩ : ∃ z, l[k]? = some z := ⟨_, List.getElem?_eq_getElem (by omega)⟩
      refine R.q (q.idx (i := k) (fun _ => Wd.fls 0 rfl) rfl rfl tSl_46 rfl hx1) rfl <| R.q (q.fldE (j' := 0) (fun _ => Wd.fls 0 rfl) hx1 rfl tFld_51_0 rfl) rfl <| R.q (q.ldE (fun _ => Wd.fls 0 rfl) hx1 rfl tOne_9 rfl) rfl <| R.q (q.lenS rfl Try.underlying9) rfl <| ?_
      by_cases h3 : 20 < x1.Key.size
      · refine R.q §28 rfl <| R.u 9 rfl <| R.nil ?_
        refine R.condT rfl rfl ?_
        refine R.reg rfl <| R.u 1 rfl <| R.nil ?_
        exact R.rv rfl Try.results37 rfl (rB §12)
      · refine R.q §26 rfl <| R.u 3 rfl <| R.qg rfl (q.idx (i := k) (fun _ => Wd.fls 0 rfl) rfl rfl tSl_46 rfl hx1) rfl <| R.qg rfl (q.fldE (j' := 1) (fun _ => Wd.fls 0 rfl) hx1 rfl tFld_51_1 rfl) rfl <| R.qg rfl (q.ldE (fun _ => Wd.fls 0 rfl) hx1 rfl tOne_9 rfl) rfl <| R.qg rfl (q.lenS rfl Try.underlying9) rfl <| ?_
        by_cases h4 : 40 < x1.Val.size
        · refine R.qg rfl §28 rfl <| R.u 1 rfl <| R.nil ?_
          refine R.condT rfl rfl ?_
          refine R.reg rfl <| R.u 1 rfl <| R.nil ?_
          exact R.rv rfl Try.results37 rfl (rB §12)
        · refine R.qg rfl §26 rfl <| R.u 1 rfl <| R.nil ?_
          refine R.condF rfl rfl ?_
          refine R.reg rfl <| R.u 1 rfl <| R.q (q.add (r := ((k + 1 : Nat) : Int)) rfl rfl (wr (by omega))) rfl <| R.u 1 rfl <| R.nil ?_
          refine R.back (k + 1) rfl (by (exact ⟨by omega, all_snoc hx1 HA (by unfold lightC1; simp_all)⟩)) (by omega) ⟨rfl, rfl, trivial⟩ (fun _ => Wd.pik [] [0] rfl rfl rfl)
    · refine R.q §30 rfl <| R.nil ?_
      refine R.condF rfl rfl ?_
      refine R.reg rfl <| R.u 1 rfl <| R.nil ?_
      exact R.rv rfl Try.results37 rfl (rB §12)

theorem lightA_any (v_l : Value) (l : List Deed) (most : Int) (w : World) (s_l : Sl w v_l l) (c_l : ∀ x ∈ l, Sl w x.cv x.Changes) : Calls Try.prog 8 #[v_l, .int .i64 most] w fun e w' => e = .returned (.bool (lightA l most)) ∧ Ext w w' := by
  have b_l := s_l.lenle
  refine R.enter (n := 32) (vs := [v_l, .int .i64 most]) [] [(0, v_l), (1, .int .i64 most)] Try.func8 rfl rfl rfl rfl ?_
  refine R.oldL s_l ?_
  refine R.oldF (r := Res.acts l) c_l (acts_lt c_l) ?_
  refine R.reg rfl <| R.u 1 rfl <| R.nil ?_
  refine R.reg rfl <| R.u 1 rfl <| R.q (q.len' (fun _ => Wd.fls 1 rfl) rfl Try.underlying23) rfl <| R.u 1 rfl <| ?_
  by_cases h1 : most < (l.length : Int)
  · refine R.q §28 rfl <| R.nil ?_
    refine R.condT rfl rfl ?_
    refine R.reg rfl <| R.u 1 rfl <| R.nil ?_
    exact R.rv rfl Try.results8 rfl (rB §13)
  · refine R.q §26 rfl <| R.nil ?_
    refine R.condF rfl rfl ?_
    refine R.reg rfl <| R.u 1 rfl <| R.nil ?_
    refine R.loop (fun k : Nat => [(0, v_l), (5, .int .i64 (k : Int))]) (fun k : Nat => []) (fun k : Nat => [Res.acts l, Res.ls v_l (l : List Deed)]) (fun k : Nat => k ≤ l.length ∧ (l.take k).all lightA1 = true) (fun k : Nat => l.length - k) 0 rfl (by exact ⟨by omega, rfl⟩) ⟨rfl, rfl, trivial⟩ (fun _ => Wd.pick [] [0, 1] rfl rfl rfl) ?_
    rintro k ⟨hk, HA⟩
    refine R.reg rfl <| R.u 2 rfl <| R.q (q.len' (fun _ => Wd.fls 1 rfl) rfl Try.underlying23) rfl <| ?_
    by_cases h2 : k < l.length
    · refine R.q §27 rfl <| R.nil ?_
      refine R.condT rfl rfl ?_
      refine R.reg rfl <| R.u 2 rfl <| ?_
      obtain ⟨x1, hx1⟩ : ∃ z, l[k]? = some z := ⟨_, List.getElem?_eq_getElem (by omega)⟩
      refine R.q (q.idx (i := k) (fun _ => Wd.fls 1 rfl) rfl rfl tSl_23 rfl hx1) rfl <| R.q (q.fldE (j' := 1) (fun _ => Wd.fls 1 rfl) hx1 rfl tFld_48_1 rfl) rfl <| R.q (q.ldE (fun _ => Wd.fls 1 rfl) hx1 rfl tOne_9 rfl) rfl <| R.q (q.lenS rfl Try.underlying9) rfl <| ?_
      by_cases h3 : 100 < x1.S.size
      · refine R.q §28 rfl <| R.u 9 rfl <| R.nil ?_
        refine R.condT rfl rfl ?_
        refine R.reg rfl <| R.u 1 rfl <| R.nil ?_
        exact R.rv rfl Try.results8 rfl (rB §13)
      · refine R.q §26 rfl <| R.u 3 rfl <| R.qg rfl (q.idx (i := k) (fun _ => Wd.fls 1 rfl) rfl rfl tSl_23 rfl hx1) rfl <| R.qg rfl (q.fldE (j' := 10) (fun _ => Wd.fls 1 rfl) hx1 rfl tFld_48_8 rfl) rfl <| R.qg rfl (q.ldE (fun _ => Wd.fls 1 rfl) hx1 rfl tOne_46 rfl) rfl <| ?_
        rcases Bool.eq_false_or_eq_true (lightC x1.Changes 70) with h4 | h4
        · refine R.cg rfl (q.call eg_37 rfl rfl (fun w hw => (cv (congrArg Value.bool h4) (lightC_any _ (x1.Changes) (70) w ((fun _ => Wd.actX (l := l) 0 rfl (List.mem_of_getElem? hx1)) w hw) )))) rfl <| R.u 2 rfl <| R.nil ?_
          refine R.condF rfl rfl ?_
          refine R.reg rfl <| R.u 1 rfl <| R.q (q.add (r := ((k + 1 : Nat) : Int)) rfl rfl (wr (by omega))) rfl <| R.u 1 rfl <| R.nil ?_
          refine R.back (k + 1) rfl (by (exact ⟨by omega, all_snoc hx1 HA (by unfold lightA1; simp_all)⟩)) (by omega) ⟨rfl, rfl, trivial⟩ (fun _ => Wd.pik [] [0, 1] rfl rfl rfl)
        · refine R.cg rfl (q.call eg_37 rfl rfl (fun w hw => (cv (congrArg Value.bool h4) (lightC_any _ (x1.Changes) (70) w ((fun _ => Wd.actX (l := l) 0 rfl (List.mem_of_getElem? hx1)) w hw) )))) rfl <| R.u 2 rfl <| R.nil ?_
          refine R.condT rfl rfl ?_
          refine R.reg rfl <| R.u 1 rfl <| R.nil ?_
          exact R.rv rfl Try.results8 rfl (rB §13)
    · refine R.q §30 rfl <| R.nil ?_
      refine R.condF rfl rfl ?_
      refine R.reg rfl <| R.u 1 rfl <| R.nil ?_
      exact R.rv rfl Try.results8 rfl (rB §13)

theorem same_any (err : Int) (f : Int) (w : World) (h0 : 0 ≤ err) : Calls Try.prog 13 #[errv err, .int .i64 f] w fun e w' => e = .returned (.bool (decide (err = f))) ∧ Ext w w' := by
  refine R.enter (n := 26) (vs := [errv err, .int .i64 f]) [] [(0, errv err), (1, .int .i64 f)] Try.func13 rfl rfl rfl rfl ?_
  refine R.reg rfl <| R.u 1 rfl <| R.nil ?_
  refine R.reg rfl <| R.u 1 rfl <| ?_
  by_cases h1 : err = 0
  · refine R.q (q.eqlE0 rfl rfl Try.underlying28 (by omega)) rfl <| R.nil ?_
    refine R.condT rfl rfl ?_
    refine R.reg rfl <| R.u 1 rfl <| ?_
    by_cases h2 : f = 0
    · refine R.q §42 rfl <| R.u 1 rfl <| R.nil ?_
      exact R.rv rfl Try.results13 rfl (rB §43)
    · refine R.q §31 rfl <| R.u 1 rfl <| R.nil ?_
      exact R.rv rfl Try.results13 rfl (rB §43)
  · refine R.q (q.eqlE1 rfl rfl Try.underlying28 (by omega)) rfl <| R.nil ?_
    refine R.condF rfl rfl ?_
    refine R.reg rfl <| R.u 1 rfl <| R.q (q.tasE rfl (by omega) Try.underlying75) rfl <| R.u 5 rfl <| R.nil ?_
    refine R.reg rfl <| R.u 3 rfl <| ?_
    by_cases h3 : 0 < f
    · refine R.qg rfl §28 rfl <| R.u 4 rfl <| ?_
      by_cases h4 : err = f
      · refine R.qg rfl §42 rfl <| R.u 2 rfl <| R.nil ?_
        exact R.rv rfl Try.results13 rfl (rB §43)
      · refine R.qg rfl §31 rfl <| R.u 2 rfl <| R.nil ?_
        exact R.rv rfl Try.results13 rfl (rB §43)
    · refine R.qg rfl §26 rfl <| R.u 7 rfl <| R.nil ?_
      exact R.rv rfl Try.results13 rfl (rB §43)

theorem lg_0 : opnU (dNew (Int.toNat 8)) 2 (Int.toNat 6) 1 = 0 := by decide +kernel
theorem lg_1 : (opnD (dNew (Int.toNat 8)) 2 (Int.toNat 6) 1).length = 0 := by decide +kernel
theorem lg_2 : (addL §5 (dNew (Int.toNat 8)) ([§7])).2.2 = 0 := by decide +kernel
theorem lg_3 : (addL §5 (dNew (Int.toNat 8)) ([§7])).1.Many = 6 ∧ (addL §5 (dNew (Int.toNat 8)) ([§7])).1.Next = 2 ∧ (addL §5 (dNew (Int.toNat 8)) ([§7])).1.First = 1 := by decide +kernel
theorem lg_4 : (dNew (Int.toNat 8)).Now.length = 8 := by decide +kernel

theorem logs_any  (w : World)  : Calls Try.prog 7 #[] w fun e w' => e = .returned (.bool true) ∧ Ext w w' := by
  have p0 := dNew_ok 8; have p1 := p0.fine (by decide) (by decide); have k0 := lg_0; have k1 := lg_1; have k2 := lg_2; have k3 := lg_3; obtain ⟨k3, k4, k5⟩ := k3; have k6 := lg_4
  have k7 : DOk (dNew (Int.toNat 8)).Now.length 90000 (dNew (Int.toNat 8)) ∧ (dNew (Int.toNat 8)).Now.length ≤ 100000 := ⟨p0.up (by decide), by omega⟩; have k8 : DOk (dNew (Int.toNat 8)).Now.length 80000 (dNew (Int.toNat 8)) ∧ (dNew (Int.toNat 8)).Now.length ≤ 100000 := ⟨p0.up (by decide), by omega⟩; have k9 : (dNew (Int.toNat 8)).Down = false := rfl; have k10 := decide_eq_true k2
  refine R.enter (n := 49) (vs := []) [] [] Try.func7 rfl rfl rfl rfl ?_
  refine R.reg rfl <| R.u 1 rfl <| R.nil ?_
  refine R.reg rfl <| ?_
  refine R.s (B' := §44) (F' := (fun g_ : Nat × Value × Value × Value => [])) rfl (s.callV (B0 := []) (Br := []) (F0 := []) [] [] (fun g_ : Nat × Value × Value × Value => .tuple #[.pointer (some ⟨g_.1, 0, none⟩), .nilIface]) §44 (fun g_ : Nat × Value × Value × Value => []) rfl rfl rfl eg_9 rfl rfl (fun w own hw H => newD_any (8) w own H (by first | omega | assumption)) rfl) ?_
  rintro ⟨z1, z2, z3, z4⟩
  dsimp only
  refine R.u 5 rfl <| R.nil ?_
  refine R.reg rfl <| R.u 1 rfl <| R.q (q.neqNN rfl rfl Try.underlying28) rfl <| R.u 2 rfl <| R.qg rfl (q.eqlP rfl rfl Try.underlying26) rfl <| R.u 1 rfl <| R.nil ?_
  refine R.condF rfl rfl ?_
  refine R.reg rfl <| R.u 1 rfl <| ?_
  refine R.s (B' := §33) (F' := (fun g_ : Value × Value × Value × Nat × Value × List Bat => [Res.ls g_.2.2.2.2.1 (g_.2.2.2.2.2 : List Bat), Res.batsE (g_.2.2.2.2.2 : List Bat) ((opnD (dNew (Int.toNat 8)) 2 (Int.toNat 6) 1))])) rfl (s.callV (B0 := [Res.box z1 [z2, z3, z4, .int .i64 ((dNew (Int.toNat 8)).Fuse), .bool ((dNew (Int.toNat 8)).Down)] 81, Res.row 9 z2 ((dNew (Int.toNat 8)).Kept : List ByteArray), Res.row 9 z3 ((dNew (Int.toNat 8)).Now : List ByteArray), Res.row 83 z4 ((dNew (Int.toNat 8)).Wait : List Turn)]) (Br := []) (F0 := []) [0, 1, 2, 3] [] §56 §33 (fun g_ : Value × Value × Value × Nat × Value × List Bat => [Res.ls g_.2.2.2.2.1 (g_.2.2.2.2.2 : List Bat), Res.batsE (g_.2.2.2.2.2 : List Bat) ((opnD (dNew (Int.toNat 8)) 2 (Int.toNat 6) 1))]) rfl rfl rfl eg_11 rfl rfl (fun w own hw H => open_any z1 z2 z3 z4 ((dNew (Int.toNat 8))) (2) (6) (1) w own H §50 (by assumption) (by first | assumption | exact ⟨by assumption, by omega⟩)) rfl) ?_
  rintro ⟨z5, z6, z7, z8, z9, z10⟩
  dsimp only
  refine Rg.getE (F' := [Res.bats (z10 : List Bat), Res.ls z9 (z10 : List Bat)]) 1 rfl rfl fun hE1 => ?_
  refine R.u 7 rfl <| R.nil ?_
  have kl : _ = 0 := (List.length_map Bat.L).symm.trans ((congrArg List.length hE1).trans k1)
  refine R.reg rfl <| R.u 1 rfl <| R.q (q.neqNN rfl rfl Try.underlying28) rfl <| R.u 2 rfl <| R.qg rfl §51 rfl <| R.u 3 rfl <| R.qg rfl (q.len' (fun _ => Wd.fls 1 rfl) rfl Try.underlying33) rfl <| ?_
  by_cases h1 : z10.length = 0
  · refine R.qg rfl (q.neq rfl rfl (bne_eq_false_iff_eq.2 (by omega))) rfl <| R.u 1 rfl <| R.nil ?_
    refine R.condF rfl rfl ?_
    refine R.reg rfl <| R.u 1 rfl <| R.q (q.build (cs := [.string (⟨#[107]⟩), .string (⟨#[120]⟩), .bool false]) tB_51 rfl rfl) rfl <| ?_
    refine R.s rfl (s.bs (l := ([§7] : List Change)) tSl_46 tZero_51 rfl rfl rfl rfl rfl rfl rfl) fun b1 => ?_
    refine R.s (B' := §16) (F' := (fun g_ : Value × Value × Value => [Res.ls (.slice (some ⟨b1, 0, none⟩) 1 1) ([§7] : List Change), Res.bats (z10 : List Bat), Res.ls z9 (z10 : List Bat)])) rfl (s.pre (B2 := [Res.box z1 [z5, z6, z7, .int .i64 ((dNew (Int.toNat 8)).Fuse), .bool ((dNew (Int.toNat 8)).Down)] 81, Res.row 9 z5 ((dNew (Int.toNat 8)).Kept : List ByteArray), Res.row 9 z6 ((dNew (Int.toNat 8)).Now : List ByteArray), Res.row 83 z7 ((dNew (Int.toNat 8)).Wait : List Turn), Res.box z8 [.pointer (some ⟨z1, 0, none⟩), .int .i64 2, .int .i64 6, .int .i64 1, .int .i64 (opnU (dNew (Int.toNat 8)) 2 (Int.toNat 6) 1 : Int)] 85]) (F2 := [Res.ls (.slice (some ⟨b1, 0, none⟩) 1 1) ([§7] : List Change), Res.bats (z10 : List Bat), Res.ls z9 (z10 : List Bat)]) (fun _ hw => hw.lendL 0 _ rfl rfl) (s.callV (B0 := [Res.box z8 [.pointer (some ⟨z1, 0, none⟩), .int .i64 2, .int .i64 6, .int .i64 1, .int .i64 (opnU (dNew (Int.toNat 8)) 2 (Int.toNat 6) 1 : Int)] 85, Res.box z1 [z5, z6, z7, .int .i64 ((dNew (Int.toNat 8)).Fuse), .bool ((dNew (Int.toNat 8)).Down)] 81, Res.row 9 z5 ((dNew (Int.toNat 8)).Kept : List ByteArray), Res.row 9 z6 ((dNew (Int.toNat 8)).Now : List ByteArray), Res.row 83 z7 ((dNew (Int.toNat 8)).Wait : List Turn)]) (Br := []) (F0 := [Res.ls (.slice (some ⟨b1, 0, none⟩) 1 1) ([§7] : List Change)]) [4, 0, 1, 2, 3] [0] (fun g_ : Value × Value × Value => errv (((addL §5 (dNew (Int.toNat 8)) ([§7]))).2.2)) §16 (fun g_ : Value × Value × Value => []) rfl rfl rfl eg_20 rfl rfl (fun w own hw H => add_any z8  (§5) (.slice (some ⟨b1, 0, none⟩) 1 1) ([§7]) z1 z5 z6 z7 ((dNew (Int.toNat 8))) w own H §50 (by first | assumption | exact ⟨by assumption, by omega⟩)) rfl)) ?_
    rintro ⟨z11, z12, z13⟩
    dsimp only
    refine R.u 1 rfl <| R.nil ?_
    refine R.reg rfl <| R.u 1 rfl <| R.c (q.call eg_13 rfl rfl (fun w hw => (cv (congrArg Value.bool k10) (same_any ((addL §5 (dNew (Int.toNat 8)) ([§7])).2.2) (0) w  §34)))) rfl <| R.u 2 rfl <| R.cg rfl (q.call eg_17 rfl rfl (fun w hw => (room_any z8  z1 (((addL §5 (dNew (Int.toNat 8)) ([§7])).1)) w (hw.b 0 rfl) §50))) rfl <| ?_
    by_cases h2 : ((addL §5 (dNew (Int.toNat 8)) ([§7])).1).Many - ((addL §5 (dNew (Int.toNat 8)) ([§7])).1).Next = 4
    · refine R.qg rfl §42 rfl <| R.u 3 rfl <| R.cg rfl (q.call eg_18 rfl rfl (fun w hw => (next_any z8  z1 (((addL §5 (dNew (Int.toNat 8)) ([§7])).1)) w (hw.b 0 rfl) §50))) rfl <| ?_
      by_cases h3 : ((addL §5 (dNew (Int.toNat 8)) ([§7])).1).First + ((addL §5 (dNew (Int.toNat 8)) ([§7])).1).Many = 7
      · refine R.qg rfl §42 rfl <| R.u 2 rfl <| R.nil ?_
        exact R.rv rfl Try.results7 rfl (rB §15)
      · refine R.qg rfl §31 rfl <| R.u 2 rfl <| R.nil ?_
        exact R.rv rfl Try.results7 rfl (rB §15)
    · refine R.qg rfl §31 rfl <| R.u 7 rfl <| R.nil ?_
      exact R.rv rfl Try.results7 rfl (rB §15)
  · refine R.qg rfl (q.neq rfl rfl (bne_iff_ne.2 (by omega))) rfl <| R.u 1 rfl <| R.nil ?_
    refine R.condT rfl rfl ?_
    refine R.reg rfl <| R.u 1 rfl <| R.nil ?_
    exact R.rv rfl Try.results7 rfl (rB §15)

set_option maxRecDepth 100000 in
set_option maxHeartbeats 4000000 in
theorem logSays_any (v_sectors : Value) (sectors : List ByteArray) (frm : Int) (many : Int) (first : Int) (v_acts : Value) (acts : List Deed) (w : World) (s_sectors : Sl w v_sectors sectors) (s_acts : Sl w v_acts acts) (c_acts : ∀ x ∈ acts, Sl w x.cv x.Changes) (hF : -9223372036854775808 ≤ frm ∧ frm ≤ 9223372036854775807 ∧ -9223372036854775808 ≤ many ∧ many ≤ 9223372036854775807) : Calls Try.prog 3 #[v_sectors, .int .i64 frm, .int .i64 many, .int .i64 first, v_acts] w fun e w' => e = .returned (.bool true) ∧ Ext w w' := by
  have b_sectors := s_sectors.lenle
  have b_acts := s_acts.lenle
  refine R.enter (n := 261) (vs := [v_sectors, .int .i64 frm, .int .i64 many, .int .i64 first, v_acts]) [] [(0, v_sectors), (1, .int .i64 frm), (2, .int .i64 many), (3, .int .i64 first), (4, v_acts)] Try.func3 rfl rfl rfl rfl ?_
  refine R.oldL s_sectors ?_
  refine R.oldL s_acts ?_
  refine R.oldF (r := Res.acts acts) c_acts (acts_lt c_acts) ?_
  refine R.reg rfl <| R.u 1 rfl <| R.nil ?_
  refine R.reg rfl <| R.c (q.call eg_7 rfl rfl (fun w hw => (logs_any  w  ))) rfl <| R.u 1 rfl <| R.nil ?_
  refine R.reg rfl <| R.u 4 rfl <| R.qg rfl (q.len' (fun _ => Wd.fls 2 rfl) rfl Try.underlying22) rfl <| ?_
  by_cases h1 : 40 < sectors.length
  · refine R.qg rfl §28 rfl <| R.u 10 rfl <| R.nil ?_
    refine R.condT rfl rfl ?_
    refine R.reg rfl <| R.u 2 rfl <| R.nil ?_
    exact R.rv rfl Try.results3 rfl (rB §15)
  · refine R.qg rfl §26 rfl <| R.u 3 rfl <| ?_
    rcases Bool.eq_false_or_eq_true (lightA acts 20) with h2 | h2
    · refine R.cg rfl (q.call eg_8 rfl rfl (fun w hw => (cv (congrArg Value.bool h2) (lightA_any _ (acts) (20) w ((fun _ => Wd.fls 1 rfl) w hw) (hw.acts 0 rfl) )))) rfl <| R.u 4 rfl <| ?_
      by_cases h3 : 1000000 < first
      · refine R.qg rfl §28 rfl <| R.u 1 rfl <| R.nil ?_
        refine R.condT rfl rfl ?_
        refine R.reg rfl <| R.u 2 rfl <| R.nil ?_
        exact R.rv rfl Try.results3 rfl (rB §15)
      · refine R.qg rfl §26 rfl <| R.u 1 rfl <| R.nil ?_
        refine R.condF rfl rfl ?_
        have hll := lightA_len (l := acts) (most := 20) (by assumption); have hla := lightA_all (l := acts) (m := 20) (by assumption)
        refine R.reg rfl <| R.u 1 rfl <| R.nil ?_
        refine R.loop (fun k : Nat => [(0, v_sectors), (1, .int .i64 frm), (2, .int .i64 many), (3, .int .i64 first), (4, v_acts), (12, .int .i64 (k : Int))]) (fun k : Nat => []) (fun k : Nat => §57) (fun k : Nat => k ≤ sectors.length ∧ ∀ s ∈ sectors.take k, s.size ≤ 48) (fun k : Nat => sectors.length - k) 0 rfl (by exact ⟨by omega, fun s hs => by simp at hs⟩) ⟨rfl, rfl, rfl, rfl, rfl, rfl, trivial⟩ (fun _ => Wd.pick [] [0, 1, 2] rfl rfl rfl) ?_
        rintro k ⟨hk, HA⟩
        refine R.reg rfl <| R.u 2 rfl <| R.q (q.len' (fun _ => Wd.fls 2 rfl) rfl Try.underlying22) rfl <| ?_
        by_cases h4 : k < sectors.length
        · refine R.q §27 rfl <| R.nil ?_
          refine R.condT rfl rfl ?_
          refine R.reg rfl <| R.u 2 rfl <| ?_
          obtain ⟨x1, hx1⟩ : ∃ z, sectors[k]? = some z := ⟨_, List.getElem?_eq_getElem (by omega)⟩
          first | have wx1 := hW x1 hx1 | skip
          refine R.q (q.idx (i := k) (fun _ => Wd.fls 2 rfl) rfl rfl tSl_22 rfl hx1) rfl <| R.q (q.ldE (fun _ => Wd.fls 2 rfl) hx1 rfl tOne_9 rfl) rfl <| R.q (q.lenS rfl Try.underlying9) rfl <| ?_
          by_cases h5 : 48 < x1.size
          · refine R.q §28 rfl <| R.nil ?_
            refine R.condT rfl rfl ?_
            refine R.reg rfl <| R.u 1 rfl <| R.nil ?_
            exact R.rv rfl Try.results3 rfl (rB §15)
          · refine R.q §26 rfl <| R.nil ?_
            refine R.condF rfl rfl ?_
            refine R.reg rfl <| R.u 1 rfl <| R.q (q.add (r := ((k + 1 : Nat) : Int)) rfl rfl (wr (by omega))) rfl <| R.u 1 rfl <| R.nil ?_
            refine R.back (k + 1) rfl (by (exact ⟨by omega, take_bound hx1 HA (by omega)⟩)) (by omega) ⟨rfl, rfl, rfl, rfl, rfl, rfl, trivial⟩ (fun _ => Wd.pik [] [0, 1, 2] rfl rfl rfl)
        · refine R.q §30 rfl <| R.nil ?_
          refine R.condF rfl rfl ?_
          have hA2 : ∀ s ∈ sectors, s.size ≤ 48 := fun s hs => HA s (by rw [List.take_of_length_le (by omega)]; exact hs)
          have hn0 : (dNew (Int.toNat (max 1 (sectors.length : Int)))).Now.length = (Int.toNat (max 1 (sectors.length : Int))) := by simp [dNew]
          have hns : 1 ≤ (Int.toNat (max 1 (sectors.length : Int))) ∧ (Int.toNat (max 1 (sectors.length : Int))) ≤ 40 := by omega
          refine R.reg rfl <| R.u 1 rfl <| R.q (q.len' (fun _ => Wd.fls 2 rfl) rfl Try.underlying22) rfl <| R.q (q.max (r := max 1 (sectors.length : Int)) rfl rfl rfl) rfl <| ?_
          refine R.s (B' := §35) (F' := (fun g_ : Nat × Value × Value × Value => §57)) rfl (s.callV (B0 := []) (Br := []) (F0 := []) [] [] (fun g_ : Nat × Value × Value × Value => .tuple #[.pointer (some ⟨g_.1, 0, none⟩), .nilIface]) §35 (fun g_ : Nat × Value × Value × Value => []) rfl rfl rfl eg_9 rfl rfl (fun w own hw H => newD_any ((max 1 (sectors.length : Int))) w own H (by first | omega | assumption)) rfl) ?_
          rintro ⟨z1, z2, z3, z4⟩
          dsimp only
          refine R.u 5 rfl <| R.nil ?_
          refine R.reg rfl <| R.u 1 rfl <| R.q (q.neqNN rfl rfl Try.underlying28) rfl <| R.u 2 rfl <| R.qg rfl (q.eqlP rfl rfl Try.underlying26) rfl <| R.u 1 rfl <| R.nil ?_
          refine R.condF rfl rfl ?_
          refine R.reg rfl <| R.u 1 rfl <| R.nil ?_
          refine R.loop (fun g_ : Nat × Dsk × Value × Value × Value => [(0, v_sectors), (1, .int .i64 frm), (2, .int .i64 many), (3, .int .i64 first), (4, v_acts), (13, .pointer (some ⟨z1, 0, none⟩)), (15, .int .i64 (g_.1 : Int))]) (fun g_ : Nat × Dsk × Value × Value × Value => [Res.box z1 [g_.2.2.1, g_.2.2.2.1, g_.2.2.2.2, .int .i64 g_.2.1.Fuse, .bool g_.2.1.Down] 81, Res.row 9 g_.2.2.1 (g_.2.1.Kept : List ByteArray), Res.row 9 g_.2.2.2.1 (g_.2.1.Now : List ByteArray), Res.row 83 g_.2.2.2.2 (g_.2.1.Wait : List Turn)]) (fun g_ : Nat × Dsk × Value × Value × Value => §57) (fun g_ : Nat × Dsk × Value × Value × Value => g_.1 ≤ sectors.length ∧ DOk (Int.toNat (max 1 (sectors.length : Int))) g_.1 g_.2.1 ∧ g_.2.1.Down = false ∧ g_.2.1.Fuse = -1) (fun g_ : Nat × Dsk × Value × Value × Value => sectors.length - g_.1) (0, (dNew (Int.toNat (max 1 (sectors.length : Int)))), z2, z3, z4) rfl (by exact ⟨by omega, dNew_ok _, rfl, rfl⟩) ⟨rfl, rfl, rfl, rfl, rfl, rfl, rfl, trivial⟩ (fun _ => Wd.pick [0, 1, 2, 3] [0, 1, 2] rfl rfl rfl) ?_
          rintro ⟨j, dm, dm_Kept, dm_Now, dm_Wait⟩ ⟨hj, hO, hD, hf⟩
          dsimp only at *
          have hnl := hO.nl; have p1 := hO.fine (by omega) (by omega)
          have hW : ∀ x, sectors[j]? = some x → (dWrite dm (j : Int) x).2 = 0 := fun x hx => by have hjl := (List.getElem?_eq_some_iff.1 hx).1; rw [dWrite_live2 hD hf (by omega) (by omega) (hA2 x (List.mem_of_getElem? hx))]
          refine R.reg rfl <| R.u 2 rfl <| R.q (q.len' (fun _ => Wd.fls 2 rfl) rfl Try.underlying22) rfl <| ?_
          by_cases h6 : j < sectors.length
          · refine R.q §27 rfl <| R.nil ?_
            refine R.condT rfl rfl ?_
            refine R.reg rfl <| R.u 4 rfl <| ?_
            obtain ⟨x2, hx2⟩ : ∃ z, sectors[j]? = some z := ⟨_, List.getElem?_eq_getElem (by omega)⟩
            first | have wx2 := hW x2 hx2 | skip
            refine R.q (q.idx (i := j) (fun _ => Wd.fls 2 rfl) rfl rfl tSl_22 rfl hx2) rfl <| R.q (q.ldE (fun _ => Wd.fls 2 rfl) hx2 rfl tOne_9 rfl) rfl <| ?_
            refine R.s (B' := §41) (F' := (fun g_ : Value × Value × Value => §57)) rfl (s.callV (B0 := [Res.box z1 [dm_Kept, dm_Now, dm_Wait, .int .i64 dm.Fuse, .bool dm.Down] 81, Res.row 9 dm_Kept (dm.Kept : List ByteArray), Res.row 9 dm_Now (dm.Now : List ByteArray), Res.row 83 dm_Wait (dm.Wait : List Turn)]) (Br := []) (F0 := []) [0, 1, 2, 3] [] (fun g_ : Value × Value × Value => errv (((dWrite dm (j : Int) x2)).2)) §41 (fun g_ : Value × Value × Value => []) rfl rfl rfl eg_10 rfl rfl (fun w own hw H => dWrite_any z1 dm_Kept dm_Now dm_Wait (dm) ((j : Int)) (x2) w own H (by first | assumption | omega)) rfl) ?_
            rintro ⟨z5, z6, z7⟩
            dsimp only
            refine R.q (q.neqE0 rfl rfl Try.underlying28 (by omega)) rfl <| R.nil ?_
            refine R.condF rfl rfl ?_
            refine R.reg rfl <| R.u 1 rfl <| R.q (q.add (r := ((j + 1 : Nat) : Int)) rfl rfl (wr (by omega))) rfl <| R.u 1 rfl <| R.nil ?_
            refine R.back (j + 1, ((dWrite dm (j : Int) x2).1), z5, z6, z7) rfl (by ((try dsimp only); have e := dWrite_live2 (i := (j : Int)) (x := x2) hD hf (by omega) (by omega) (hA2 x2 (List.mem_of_getElem? hx2)); exact ⟨by omega, hO.write _ _, by rw [e], by rw [e]⟩)) §54 ⟨rfl, rfl, rfl, rfl, rfl, rfl, rfl, trivial⟩ (fun _ => Wd.pik [0, 1, 2, 3] [0, 1, 2] rfl rfl rfl)
          · refine R.q §30 rfl <| R.nil ?_
            refine R.condF rfl rfl ?_
            have hnl := hO.nl; have p9 : DOk dm.Now.length 90000 dm ∧ dm.Now.length ≤ 100000 := ⟨hnl ▸ hO.up (by omega), by omega⟩
            refine R.reg rfl <| R.u 4 rfl <| ?_
            by_cases h7 : 0 ≤ frm ∧ 1 ≤ many ∧ frm + many ≤ (dm.Now.length : Int) ∧ 1 ≤ first
            · refine R.s (B' := §20) (F' := (fun g_ : Value × Value × Value × Nat × Value × List Bat => [Res.ls g_.2.2.2.2.1 (g_.2.2.2.2.2 : List Bat), Res.batsE (g_.2.2.2.2.2 : List Bat) ((opnD dm frm (Int.toNat many) first)), Res.acts acts, Res.ls v_acts (acts : List Deed), Res.ls v_sectors (sectors : List ByteArray)])) rfl (s.callV (B0 := [Res.box z1 [dm_Kept, dm_Now, dm_Wait, .int .i64 dm.Fuse, .bool dm.Down] 81, Res.row 9 dm_Kept (dm.Kept : List ByteArray), Res.row 9 dm_Now (dm.Now : List ByteArray), Res.row 83 dm_Wait (dm.Wait : List Turn)]) (Br := []) (F0 := []) [0, 1, 2, 3] [] §56 §20 (fun g_ : Value × Value × Value × Nat × Value × List Bat => [Res.ls g_.2.2.2.2.1 (g_.2.2.2.2.2 : List Bat), Res.batsE (g_.2.2.2.2.2 : List Bat) ((opnD dm frm (Int.toNat many) first))]) rfl rfl rfl eg_11 rfl rfl (fun w own hw H => open_any z1 dm_Kept dm_Now dm_Wait (dm) (frm) (many) (first) w own H §50 (by assumption) (by first | assumption | exact ⟨by assumption, by omega⟩)) rfl) ?_
              rintro ⟨z8, z9, z10, z11, z12, z13⟩
              dsimp only
              refine Rg.getE (F' := [Res.bats (z13 : List Bat), Res.ls z12 (z13 : List Bat), Res.acts acts, Res.ls v_acts (acts : List Deed), Res.ls v_sectors (sectors : List ByteArray)]) 1 rfl rfl fun hE1 => ?_
              refine R.u 7 rfl <| R.nil ?_
              refine R.reg rfl <| R.u 1 rfl <| ?_
              by_cases h8 : frm < 0
              · refine R.q §27 rfl <| R.u 22 rfl <| R.nil ?_
                refine R.condT rfl rfl ?_
                refine R.reg rfl <| R.u 1 rfl <| ?_
                rcases Bool.eq_false_or_eq_true (decide (0 = 1)) with h9 | h9
                · refine R.c (q.call eg_13 rfl rfl (fun w hw => (cv (congrArg Value.bool h9) (same_any (0) (1) w  §34)))) rfl <| R.u 2 rfl <| R.qg rfl §51 rfl <| R.u 7 rfl <| R.nil ?_
                  exact R.rv rfl Try.results3 rfl (rB §15)
                · refine R.c (q.call eg_13 rfl rfl (fun w hw => (cv (congrArg Value.bool h9) (same_any (0) (1) w  §34)))) rfl <| R.u 10 rfl <| R.nil ?_
                  exact R.rv rfl Try.results3 rfl (rB §15)
              · refine R.q §30 rfl <| R.u 2 rfl <| ?_
                by_cases h10 : many < 1
                · refine R.qg rfl §27 rfl <| R.u 19 rfl <| R.nil ?_
                  refine R.condT rfl rfl ?_
                  refine R.reg rfl <| R.u 1 rfl <| ?_
                  rcases Bool.eq_false_or_eq_true (decide (0 = 1)) with h11 | h11
                  · refine R.c (q.call eg_13 rfl rfl (fun w hw => (cv (congrArg Value.bool h11) (same_any (0) (1) w  §34)))) rfl <| R.u 2 rfl <| R.qg rfl §51 rfl <| R.u 7 rfl <| R.nil ?_
                    exact R.rv rfl Try.results3 rfl (rB §15)
                  · refine R.c (q.call eg_13 rfl rfl (fun w hw => (cv (congrArg Value.bool h11) (same_any (0) (1) w  §34)))) rfl <| R.u 10 rfl <| R.nil ?_
                    exact R.rv rfl Try.results3 rfl (rB §15)
                · refine R.qg rfl §30 rfl <| R.u 4 rfl <| R.cg rfl (q.call eg_12 rfl rfl (fun w hw => (dSectors_any z1 z8 z9 z10  (dm) w (hw.b 0 rfl) ((fun _ => Wd.row 1 rfl) w hw) ((fun _ => Wd.row 2 rfl) w hw) ((fun _ => Wd.row 3 rfl) w hw) ))) rfl <| ?_
                  by_cases h12 : (dm.Now.length : Int) < many
                  · refine R.qg rfl §28 rfl <| R.u 13 rfl <| R.nil ?_
                    refine R.condT rfl rfl ?_
                    refine R.reg rfl <| R.u 1 rfl <| ?_
                    rcases Bool.eq_false_or_eq_true (decide (0 = 1)) with h13 | h13
                    · refine R.c (q.call eg_13 rfl rfl (fun w hw => (cv (congrArg Value.bool h13) (same_any (0) (1) w  §34)))) rfl <| R.u 2 rfl <| R.qg rfl §51 rfl <| R.u 7 rfl <| R.nil ?_
                      exact R.rv rfl Try.results3 rfl (rB §15)
                    · refine R.c (q.call eg_13 rfl rfl (fun w hw => (cv (congrArg Value.bool h13) (same_any (0) (1) w  §34)))) rfl <| R.u 10 rfl <| R.nil ?_
                      exact R.rv rfl Try.results3 rfl (rB §15)
                  · refine R.qg rfl §26 rfl <| R.u 4 rfl <| R.cg rfl (q.call eg_12 rfl rfl (fun w hw => (dSectors_any z1 z8 z9 z10  (dm) w (hw.b 0 rfl) ((fun _ => Wd.row 1 rfl) w hw) ((fun _ => Wd.row 2 rfl) w hw) ((fun _ => Wd.row 3 rfl) w hw) ))) rfl <| R.u 1 rfl <| R.qg rfl (q.sub (r := (dm.Now.length : Int) - many) rfl rfl (wr (by omega))) rfl <| ?_
                    by_cases h14 : ((dm.Now.length : Int) - many) < frm
                    · refine R.qg rfl §28 rfl <| R.u 5 rfl <| R.nil ?_
                      refine R.condT rfl rfl ?_
                      refine R.reg rfl <| R.u 1 rfl <| ?_
                      rcases Bool.eq_false_or_eq_true (decide (0 = 1)) with h15 | h15
                      · refine R.c (q.call eg_13 rfl rfl (fun w hw => (cv (congrArg Value.bool h15) (same_any (0) (1) w  §34)))) rfl <| R.u 2 rfl <| R.qg rfl §51 rfl <| R.u 7 rfl <| R.nil ?_
                        exact R.rv rfl Try.results3 rfl (rB §15)
                      · refine R.c (q.call eg_13 rfl rfl (fun w hw => (cv (congrArg Value.bool h15) (same_any (0) (1) w  §34)))) rfl <| R.u 10 rfl <| R.nil ?_
                        exact R.rv rfl Try.results3 rfl (rB §15)
                    · refine R.qg rfl §26 rfl <| R.u 3 rfl <| ?_
                      by_cases h16 : first < 1
                      · refine R.qg rfl §27 rfl <| R.u 1 rfl <| R.nil ?_
                        refine R.condT rfl rfl ?_
                        refine R.reg rfl <| R.u 1 rfl <| ?_
                        rcases Bool.eq_false_or_eq_true (decide (0 = 1)) with h17 | h17
                        · refine R.c (q.call eg_13 rfl rfl (fun w hw => (cv (congrArg Value.bool h17) (same_any (0) (1) w  §34)))) rfl <| R.u 2 rfl <| R.qg rfl §51 rfl <| R.u 7 rfl <| R.nil ?_
                          exact R.rv rfl Try.results3 rfl (rB §15)
                        · refine R.c (q.call eg_13 rfl rfl (fun w hw => (cv (congrArg Value.bool h17) (same_any (0) (1) w  §34)))) rfl <| R.u 10 rfl <| R.nil ?_
                          exact R.rv rfl Try.results3 rfl (rB §15)
                      · refine R.qg rfl §30 rfl <| R.u 1 rfl <| R.nil ?_
                        refine R.condF rfl rfl ?_
                        refine R.reg rfl <| R.u 1 rfl <| R.q (q.neqNN rfl rfl Try.underlying28) rfl <| R.u 2 rfl <| R.qg rfl §51 rfl <| R.u 1 rfl <| R.nil ?_
                        refine R.condF rfl rfl ?_
                        refine R.reg rfl <| R.u 1 rfl <| R.nil ?_
                        refine R.reg rfl <| R.u 1 rfl <| R.nil ?_
                        refine R.row0 (α := ByteArray) 9 ?_
                        refine R.loop (fun g_ : Nat × Value × (List ByteArray) => [(1, .int .i64 frm), (2, .int .i64 many), (3, .int .i64 first), (4, v_acts), (13, .pointer (some ⟨z1, 0, none⟩)), (16, .pointer (some ⟨z11, 0, none⟩)), (17, z12), (18, g_.2.1), (19, .int .i64 (g_.1 : Int))]) (fun g_ : Nat × Value × (List ByteArray) => [Res.row 9 g_.2.1 (g_.2.2 : List ByteArray), Res.box z1 [z8, z9, z10, .int .i64 dm.Fuse, .bool dm.Down] 81, Res.row 9 z8 (dm.Kept : List ByteArray), Res.row 9 z9 (dm.Now : List ByteArray), Res.row 83 z10 (dm.Wait : List Turn), Res.box z11 [.pointer (some ⟨z1, 0, none⟩), .int .i64 frm, .int .i64 many, .int .i64 first, .int .i64 (opnU dm frm (Int.toNat many) first : Int)] 85]) (fun g_ : Nat × Value × (List ByteArray) => [Res.bats (z13 : List Bat), Res.ls z12 (z13 : List Bat), Res.acts acts, Res.ls v_acts (acts : List Deed), Res.ls v_sectors (sectors : List ByteArray)]) (fun g_ : Nat × Value × (List ByteArray) => g_.1 ≤ Int.toNat many ∧ g_.2.2 = regS dm frm g_.1) (fun g_ : Nat × Value × (List ByteArray) => Int.toNat many - g_.1) (0, (.slice none 0 0), []) rfl (by exact ⟨by omega, rfl⟩) ⟨rfl, rfl, rfl, rfl, rfl, rfl, rfl, rfl, rfl, trivial⟩ (fun _ => Wd.pick [0, 1, 2, 3, 4, 5] [0, 1, 2, 3, 4] rfl rfl rfl) ?_
                        rintro ⟨a, qn, ns⟩ ⟨ha, HN⟩
                        dsimp only at *
                        have hnl3 : ns.length = a := by rw [HN, regS_len]
                        refine R.reg rfl <| R.u 2 rfl <| ?_
                        by_cases h18 : (a : Int) < many
                        · refine R.q §27 rfl <| R.nil ?_
                          refine R.condT rfl rfl ?_
                          refine R.reg rfl <| R.u 3 rfl <| R.q (q.add (r := frm + (a : Int)) rfl rfl (wr (by omega))) rfl <| R.c (q.call eg_14 rfl rfl (fun w hw => (dRead_any z1 z8 z9 z10  (dm) ((frm + (a : Int))) w (hw.b 1 rfl) ((fun _ => Wd.row 2 rfl) w hw) ((fun _ => Wd.row 3 rfl) w hw) ((fun _ => Wd.row 4 rfl) w hw) ))) rfl <| R.u 5 rfl <| R.nil ?_
                          refine R.reg rfl <| R.u 2 rfl <| ?_
                          refine R.s rfl (s.bs (l := ([(dRead dm (frm + (a : Int))).1] : List ByteArray)) tSl_22 tZero_9 rfl rfl rfl rfl rfl rfl rfl) fun b1 => ?_
                          refine R.s rfl (s.app (l2 := [(dRead dm (frm + (a : Int))).1]) 1 _ rfl rfl rfl (fun _ => Wd.row 0 rfl) tApp_22 §10 §10 (fun _ => rfl) rfl) fun v1 => ?_
                          refine R.u 1 rfl <| R.nil ?_
                          refine R.reg rfl <| R.u 1 rfl <| R.q (q.add (r := ((a + 1 : Nat) : Int)) rfl rfl (wr (by omega))) rfl <| R.u 1 rfl <| R.nil ?_
                          refine R.back (a + 1, v1, (ns ++ ([(dRead dm (frm + (a : Int))).1]))) rfl (by ((try dsimp only); exact ⟨by omega, by rw [HN, regS_snoc]⟩)) §54 ⟨rfl, rfl, rfl, rfl, rfl, rfl, rfl, rfl, rfl, trivial⟩ (fun _ => Wd.pik [1, 2, 3, 4, 5, 6] [0, 1, 2, 3, 4] rfl rfl rfl)
                        · refine R.q §30 rfl <| R.nil ?_
                          refine R.condF rfl rfl ?_
                          have hns2 : ns = regS dm frm (Int.toNat many) := by rw [HN]; congr 1; omega
                          have hns3 : ∀ s ∈ ns, s.size = 48 := by rw [hns2]; exact regS_sz hO hD (by omega) (by omega)
                          have hnl2 : ns.length = Int.toNat many := by rw [hns2, regS_len]
                          refine R.reg rfl <| R.u 2 rfl <| ?_
                          refine R.s (B' := (fun g_ : Value × List Bat => §23)) (F' := (fun g_ : Value × List Bat => [Res.ls g_.1 (g_.2 : List Bat), Res.batsE (g_.2 : List Bat) (((scan ns first).1)), Res.ls qn (ns : List ByteArray), Res.bats (z13 : List Bat), Res.ls z12 (z13 : List Bat), Res.acts acts, Res.ls v_acts (acts : List Deed), Res.ls v_sectors (sectors : List ByteArray)])) rfl (s.pre (B2 := §23) (F2 := [Res.ls qn (ns : List ByteArray), Res.bats (z13 : List Bat), Res.ls z12 (z13 : List Bat), Res.acts acts, Res.ls v_acts (acts : List Deed), Res.ls v_sectors (sectors : List ByteArray)]) (fun _ hw => hw.lendL 0 _ rfl rfl) (s.callV (B0 := []) (Br := §23) (F0 := [Res.ls qn (ns : List ByteArray)]) [0, 1, 2, 3, 4] [0] (fun g_ : Value × List Bat => .tuple #[g_.1, .int .i64 (((scan ns first).2) : Int)]) (fun g_ : Value × List Bat => []) (fun g_ : Value × List Bat => [Res.ls g_.1 (g_.2 : List Bat), Res.batsE (g_.2 : List Bat) (((scan ns first).1))]) rfl rfl rfl eg_15 rfl rfl (fun w own hw H => closedDeeds_any qn (ns) (first) w own H (by assumption) (by first | assumption | omega)) rfl)) ?_
                          rintro ⟨z14, z15⟩
                          dsimp only
                          refine Rg.getE (F' := [Res.bats (z15 : List Bat), Res.ls z14 (z15 : List Bat), Res.ls qn (ns : List ByteArray), Res.bats (z13 : List Bat), Res.ls z12 (z13 : List Bat), Res.acts acts, Res.ls v_acts (acts : List Deed), Res.ls v_sectors (sectors : List ByteArray)]) 1 rfl rfl fun hE2 => ?_
                          refine R.u 5 rfl <| R.nil ?_
                          have hsc : scan ns first = (opnD dm frm (Int.toNat many) first, opnU dm frm (Int.toNat many) first) := by rw [hns2]; rfl
                          have hu2 : (scan ns first).2 = opnU dm frm (Int.toNat many) first := by rw [hsc]
                          refine R.reg rfl <| R.u 1 rfl <| R.nil ?_
                          refine R.loop (fun g_ : Nat × Nat × Value × (List Bat) × Value × (List Bat) × Dsk × Value × Value × Value × Lg × Nat => [(1, .int .i64 frm), (2, .int .i64 many), (3, .int .i64 first), (4, v_acts), (13, .pointer (some ⟨z1, 0, none⟩)), (16, .pointer (some ⟨g_.2.2.2.2.2.2.2.2.2.2.2, 0, none⟩)), (17, g_.2.2.1), (22, g_.2.2.2.2.1), (23, .int .i64 (g_.2.1 : Int)), (24, .int .i64 (g_.1 : Int))]) (fun g_ : Nat × Nat × Value × (List Bat) × Value × (List Bat) × Dsk × Value × Value × Value × Lg × Nat => [Res.box z1 [g_.2.2.2.2.2.2.2.1, g_.2.2.2.2.2.2.2.2.1, g_.2.2.2.2.2.2.2.2.2.1, .int .i64 g_.2.2.2.2.2.2.1.Fuse, .bool g_.2.2.2.2.2.2.1.Down] 81, Res.row 9 g_.2.2.2.2.2.2.2.1 (g_.2.2.2.2.2.2.1.Kept : List ByteArray), Res.row 9 g_.2.2.2.2.2.2.2.2.1 (g_.2.2.2.2.2.2.1.Now : List ByteArray), Res.row 83 g_.2.2.2.2.2.2.2.2.2.1 (g_.2.2.2.2.2.2.1.Wait : List Turn), Res.box g_.2.2.2.2.2.2.2.2.2.2.2 [.pointer (some ⟨z1, 0, none⟩), .int .i64 g_.2.2.2.2.2.2.2.2.2.2.1.From, .int .i64 g_.2.2.2.2.2.2.2.2.2.2.1.Many, .int .i64 g_.2.2.2.2.2.2.2.2.2.2.1.First, .int .i64 g_.2.2.2.2.2.2.2.2.2.2.1.Next] 85]) (fun g_ : Nat × Nat × Value × (List Bat) × Value × (List Bat) × Dsk × Value × Value × Value × Lg × Nat => [Res.bats (g_.2.2.2.1 : List Bat), Res.ls g_.2.2.1 (g_.2.2.2.1 : List Bat), Res.bats (g_.2.2.2.2.2.1 : List Bat), Res.ls g_.2.2.2.2.1 (g_.2.2.2.2.2.1 : List Bat), Res.bats (z15 : List Bat), Res.ls z14 (z15 : List Bat), Res.ls qn (ns : List ByteArray), Res.bats (z13 : List Bat), Res.ls z12 (z13 : List Bat), Res.acts acts, Res.ls v_acts (acts : List Deed), Res.ls v_sectors (sectors : List ByteArray)]) (fun g_ : Nat × Nat × Value × (List Bat) × Value × (List Bat) × Dsk × Value × Value × Value × Lg × Nat => g_.1 ≤ acts.length ∧ DOk (Int.toNat (max 1 (sectors.length : Int))) (100 + 100 * g_.1) g_.2.2.2.2.2.2.1 ∧ g_.2.2.2.2.2.2.1.Down = false ∧ g_.2.2.2.2.2.2.1.Fuse = -1 ∧ g_.2.2.2.2.2.2.2.2.2.2.1 = (⟨frm, many, first, (g_.2.1 : Int)⟩ : Lg) ∧ g_.2.2.2.1.map Bat.L = g_.2.2.2.2.2.1.map Bat.L ∧ scan (regS g_.2.2.2.2.2.2.1 frm (Int.toNat many)) first = (g_.2.2.2.2.2.1.map Bat.L, g_.2.1)) (fun g_ : Nat × Nat × Value × (List Bat) × Value × (List Bat) × Dsk × Value × Value × Value × Lg × Nat => acts.length + 1 - g_.1) (0, (scan ns first).2, z12, z13, z14, z15, dm, z8, z9, z10, (⟨frm, many, first, (opnU dm frm (Int.toNat many) first : Int)⟩ : Lg), z11) rfl (by dsimp only; exact ⟨by omega, hO.up (by omega), hD, hf, by rw [hu2], by rw [hE1, hE2, hsc], by rw [hE2, hsc]; rfl⟩) ⟨rfl, rfl, rfl, rfl, rfl, rfl, rfl, rfl, rfl, rfl, trivial⟩ (fun _ => Wd.pick [0, 1, 2, 3, 4] [3, 4, 0, 1, 0, 1, 2, 3, 4, 5, 6, 7] rfl rfl rfl) ?_
                          rintro ⟨i, u, qg, gb, qw, wb, em, em_Kept, em_Now, em_Wait, lg, bl⟩ ⟨hi, hEO, hED, hEF, HG, HGW, HS⟩
                          dsimp only at *
                          have enl := hEO.nl; have g1 : lg.From = frm := by rw [HG]
                          have g2 : lg.Many = many := by rw [HG]
                          have g3 : lg.First = first := by rw [HG]
                          have g4 : lg.Next = (u : Int) := by rw [HG]
                          have p2 := hEO.fine (by omega) (by omega); have hur := scan_room HS; rw [regS_len] at hur; have hwl := scan_count HS; rw [regS_len, List.length_map] at hwl
                          have p8 : DOk em.Now.length 90000 em ∧ em.Now.length ≤ 100000 := ⟨enl ▸ hEO.up (by omega), by omega⟩; have p7 : DOk em.Now.length 80000 em ∧ em.Now.length ≤ 100000 := ⟨enl ▸ hEO.up (by omega), by omega⟩
                          refine R.reg rfl <| R.u 2 rfl <| R.q (q.len' (fun _ => Wd.fls 10 rfl) rfl Try.underlying23) rfl <| ?_
                          by_cases h19 : acts.length < i
                          · refine R.q (q.leq rfl rfl (decide_eq_false (by omega))) rfl <| R.nil ?_
                            refine R.condF rfl rfl ?_
                            refine R.reg rfl <| R.u 1 rfl <| R.nil ?_
                            exact R.rv rfl Try.results3 rfl (rB §15)
                          · refine R.q (q.leq rfl rfl (decide_eq_true (by omega))) rfl <| R.nil ?_
                            refine R.condT rfl rfl ?_
                            refine R.reg rfl <| R.u 2 rfl <| R.c (q.call eg_16 rfl rfl (fun w hw => (cv (congrArg Value.bool (decide_eq_true HGW)) (sameDeeds_any _ (gb) _ (wb) w ((fun _ => Wd.fls 1 rfl) w hw) (hw.bats 0 rfl) ((fun _ => Wd.fls 3 rfl) w hw) (hw.bats 2 rfl) )))) rfl <| R.u 3 rfl <| R.cg rfl (q.call eg_17 rfl rfl (fun w hw => (room_any bl  z1 (lg) w (hw.b 4 rfl) §50))) rfl <| R.u 2 rfl <| R.qg rfl (q.sub (r := many - (u : Int)) rfl rfl (wr (by omega))) rfl <| ?_
                            by_cases h20 : lg.Many - lg.Next = (many - (u : Int))
                            · refine R.qg rfl (q.neq rfl rfl (bne_eq_false_iff_eq.2 (by omega))) rfl <| R.u 3 rfl <| R.cg rfl (q.call eg_18 rfl rfl (fun w hw => (next_any bl  z1 (lg) w (hw.b 4 rfl) §50))) rfl <| R.u 2 rfl <| R.qg rfl (q.add (r := first + many) rfl rfl (wr (by omega))) rfl <| ?_
                              by_cases h21 : lg.First + lg.Many = (first + many)
                              · refine R.qg rfl (q.neq rfl rfl (bne_eq_false_iff_eq.2 (by omega))) rfl <| R.u 1 rfl <| R.nil ?_
                                refine R.condF rfl rfl ?_
                                refine R.reg rfl <| R.u 2 rfl <| R.q (q.len' (fun _ => Wd.fls 10 rfl) rfl Try.underlying23) rfl <| ?_
                                by_cases h22 : i = acts.length
                                · refine R.q §42 rfl <| R.nil ?_
                                  refine R.condT rfl rfl ?_
                                  refine R.reg rfl <| R.u 1 rfl <| R.nil ?_
                                  exact R.rv rfl Try.results3 rfl (rB §15)
                                · refine R.q §31 rfl <| R.nil ?_
                                  refine R.condF rfl rfl ?_
                                  refine R.reg rfl <| R.u 2 rfl <| ?_
                                  obtain ⟨x3, hx3⟩ : ∃ z, acts[i]? = some z := ⟨_, List.getElem?_eq_getElem (by omega)⟩
                                  have qx3 := lightC_len (hla x3 (List.mem_of_getElem? hx3)).2
                                  refine R.q (q.idx (i := i) (fun _ => Wd.fls 10 rfl) rfl rfl tSl_23 rfl hx3) rfl <| R.q (q.ldES (ds := §0) (fun _ => Wd.fls 10 rfl) hx3 rfl tAgg_48 rfl) rfl <| ?_
                                  refine R.s rfl (s.alloc (cs := [.string (⟨#[]⟩), .string (⟨#[]⟩), .int .i64 0, .int .i64 0, .int .i64 0, .int .i64 0, .int .i64 0, .int .i64 0, .int .i64 0, .int .u64 0, .slice none 0 0]) tZero_48 rfl rfl) fun b2 => ?_
                                  refine R.s rfl (s.stV (us := §0) (cs' := §0) 0 _ rfl rfl rfl (fun _ _ => rfl) (.inl tAgg_48) (fun w hw => (one_cons rfl (one_cons rfl (one_cons rfl (one_cons rfl (one_cons rfl (one_cons rfl (one_cons rfl (one_cons rfl (one_cons rfl (one_cons rfl (one_cons (Sl.one (§25 w hw)) one_nil)))))))))))) rfl rfl rfl) fun _ => ?_
                                  refine R.nil ?_
                                  refine R.reg rfl <| R.q (q.fld (off' := 0) rfl tFld_48_0 rfl) rfl <| R.q (q.ld 0 rfl rfl tOne_9 rfl) rfl <| ?_
                                  by_cases h23 : x3.Kind = ⟨#[97, 100, 100]⟩
                                  · refine R.q (q.neqS1 rfl rfl h23) rfl <| R.nil ?_
                                    refine R.condF rfl rfl ?_
                                    refine R.reg rfl <| R.u 1 rfl <| R.nil ?_
                                    refine R.reg rfl <| R.q §19 rfl <| R.q §53 rfl <| R.q (q.len' §25 rfl Try.underlying46) rfl <| ?_
                                    by_cases h24 : 62 < x3.Changes.length
                                    · refine R.q §28 rfl <| R.nil ?_
                                      refine R.condT rfl rfl ?_
                                      refine R.reg rfl <| R.u 1 rfl <| R.nil ?_
                                      refine R.reg rfl <| R.u 1 rfl <| R.nil ?_
                                      refine R.loop §21 (fun g_ : Nat × Int => §4) §18 (fun g_ : Nat × Int => fInv lg x3.Changes g_.1 g_.2) (fun g_ : Nat × Int => x3.Changes.length - g_.1) (0, 2) rfl §55 ⟨rfl, rfl, rfl, rfl, rfl, rfl, rfl, rfl, rfl, rfl, rfl, rfl, rfl, trivial⟩ (fun _ => Wd.pick [0, 1, 2, 3, 4, 5] [0, 1, 2, 3, 4, 5, 6, 7, 8, 9, 10, 11] rfl rfl rfl) ?_
                                      rintro ⟨m, f⟩ hK
                                      dsimp only at *
                                      have hK1 := hK.1
                                      refine R.reg rfl <| R.u 1 rfl <| R.q §19 rfl <| R.q §53 rfl <| R.q (q.len' §25 rfl Try.underlying46) rfl <| ?_
                                      by_cases h25 : m < x3.Changes.length
                                      · refine R.q §27 rfl <| R.u 2 rfl <| ?_
                                        by_cases h26 : f = 0
                                        · refine R.qg rfl §42 rfl <| R.u 1 rfl <| R.nil ?_
                                          refine R.condT rfl rfl ?_
                                          refine R.reg rfl <| R.q §19 rfl <| R.q §53 rfl <| R.u 1 rfl <| ?_
                                          obtain ⟨x4, hx4⟩ : ∃ z, x3.Changes[m]? = some z := ⟨_, List.getElem?_eq_getElem (by omega)⟩
                                          refine R.q (q.idx (i := m) §25 rfl rfl tSl_46 rfl hx4) rfl <| R.q (q.ldES (ds := [.string x4.Key, .string x4.Val, .bool x4.Gone]) §25 hx4 rfl tAgg_51 rfl) rfl <| R.c (q.call eg_19 rfl rfl (fun w hw => (changeFault_any (x4) w  ))) rfl <| R.u 1 rfl <| R.nil ?_
                                          refine R.reg rfl <| R.u 1 rfl <| R.q (q.add (r := ((m + 1 : Nat) : Int)) rfl rfl (wr (by omega))) rfl <| R.u 1 rfl <| R.nil ?_
                                          refine R.back (m + 1, chF x4) rfl (by (exact hK.next (by assumption) hx4)) §54 ⟨rfl, rfl, rfl, rfl, rfl, rfl, rfl, rfl, rfl, rfl, rfl, rfl, rfl, trivial⟩ (fun _ => Wd.pik [0, 1, 2, 3, 4, 5] [0, 1, 2, 3, 4, 5, 6, 7, 8, 9, 10, 11] rfl rfl rfl)
                                        · refine R.qg rfl §31 rfl <| R.u 1 rfl <| R.nil ?_
                                          refine R.condF rfl rfl ?_
                                          have hfe : f = addF lg x3.Changes := hK.is §52
                                          have l0 := addL_nonneg (lg := lg) (d := em) (c := x3.Changes); obtain ⟨l1, l2, l3, l4, l5⟩ := log_add (c := x3.Changes) hEO hED hEF HG (by omega) (by omega) (by omega) HS
                                          refine R.reg rfl <| R.u 1 rfl <| R.q §19 rfl <| R.q §53 rfl <| ?_
                                          refine R.s (B' := §3) (F' := (fun g_ : Value × Value × Value => §2)) rfl §36 ?_
                                          rintro ⟨z16, z17, z18⟩
                                          dsimp only
                                          refine R.u 1 rfl <| R.c §14 rfl <| R.u 1 rfl <| R.nil ?_
                                          refine R.condF rfl rfl ?_
                                          refine R.reg rfl <| R.u 1 rfl <| R.q §31 rfl <| R.nil ?_
                                          refine R.condF rfl rfl ?_
                                          refine R.reg rfl <| R.u 1 rfl <| R.q §24 rfl <| R.u 1 rfl <| R.nil ?_
                                          refine R.back (i + 1, u, qg, gb, qw, wb, ((addL lg em x3.Changes).2.1), z16, z17, z18, ((addL lg em x3.Changes).1), bl) rfl §11 §54 ⟨rfl, rfl, rfl, rfl, rfl, rfl, rfl, rfl, rfl, rfl, trivial⟩ §39
                                      · refine R.q §30 rfl <| R.u 4 rfl <| R.nil ?_
                                        refine R.condF rfl rfl ?_
                                        have hfe : f = addF lg x3.Changes := hK.is §52
                                        have l0 := addL_nonneg (lg := lg) (d := em) (c := x3.Changes); obtain ⟨l1, l2, l3, l4, l5⟩ := log_add (c := x3.Changes) hEO hED hEF HG (by omega) (by omega) (by omega) HS
                                        refine R.reg rfl <| R.u 1 rfl <| R.q §19 rfl <| R.q §53 rfl <| ?_
                                        refine R.s (B' := §3) (F' := (fun g_ : Value × Value × Value => §2)) rfl §36 ?_
                                        rintro ⟨z19, z20, z21⟩
                                        dsimp only
                                        refine R.u 1 rfl <| R.c §14 rfl <| R.u 1 rfl <| R.nil ?_
                                        refine R.condF rfl rfl ?_
                                        refine R.reg rfl <| R.u 1 rfl <| ?_
                                        by_cases h27 : f = 0
                                        · refine R.q §42 rfl <| R.nil ?_
                                          refine R.condT rfl rfl ?_
                                          refine R.regD (fuel := 7) (Wd w [] [Res.box bl §6 85, Res.box z1 [z19, z20, z21, .int .i64 (((addL lg em x3.Changes).2.1).Fuse), .bool (((addL lg em x3.Changes).2.1).Down)] 81, Res.row 9 z19 (((addL lg em x3.Changes).2.1).Kept : List ByteArray), Res.row 9 z20 (((addL lg em x3.Changes).2.1).Now : List ByteArray), Res.row 83 z21 (((addL lg em x3.Changes).2.1).Wait : List Turn), Res.box b2 §0 48] §2) rfl mixed rfl ?_
                                          refine D.q (i := 0) rfl §47 §22 rfl (q.mv rfl) rfl <| D.q (i := 2) rfl §47 §22 rfl §19 rfl <| D.q (i := 3) rfl §47 §22 rfl (q.ld 5 rfl rfl tOne_46 rfl) rfl <| ?_
                                          refine D.two (i := 1) (j := 4) §47 rfl rfl ?_ ?_
                                          · refine Do.s §48 §37 rfl fun v2 => ?_
                                            refine D.one (i := 4) §47 rfl ?_
                                            refine Do.s §17 (fun _ => §8) rfl fun b3 => ?_
                                            refine D.one (i := 5) §47 rfl ?_
                                            refine Do.s (s.app (l2 := [§29]) 1 _ rfl rfl rfl (fun _ => Wd.row 0 rfl) tApp_33 §10 §10 (fun _ => rfl) rfl) (fun _ => §8) rfl fun v3 => ?_
                                            refine D.q (i := 6) rfl §47 §8 rfl (q.as rfl) rfl <| D.done §47 <| ?_
                                            refine R.reg rfl <| R.u 1 rfl <| R.q §19 rfl <| R.q (q.ld 7 rfl rfl tOne_46 rfl) rfl <| R.q §49 rfl <| R.q §46 rfl <| R.q §40 rfl <| R.u 1 rfl <| R.nil ?_
                                            refine R.reg rfl <| R.u 2 rfl <| R.nil ?_
                                            refine R.reg rfl <| R.u 1 rfl <| R.q §24 rfl <| R.u 1 rfl <| R.nil ?_
                                            refine R.mp (fun _ hw => hw.batsAdd 3 0 rfl rfl) ?_
                                            refine R.mp (B' := [Res.row 46 (.slice (some ⟨b3, 0, none⟩) 1 1) ([§29] : List Bat), Res.box bl §6 85, Res.box z1 [z19, z20, z21, .int .i64 (((addL lg em x3.Changes).2.1).Fuse), .bool (((addL lg em x3.Changes).2.1).Down)] 81, Res.row 9 z19 (((addL lg em x3.Changes).2.1).Kept : List ByteArray), Res.row 9 z20 (((addL lg em x3.Changes).2.1).Now : List ByteArray), Res.row 83 z21 (((addL lg em x3.Changes).2.1).Wait : List Turn), Res.box b2 §0 48]) (fun _ hw => hw.lendL 1 _ rfl rfl) ?_
                                            refine R.back (i + 1, ((u + x3.Changes.length) + 1), v3, (wb ++ ([§29])), v3, (wb ++ ([§29])), ((addL lg em x3.Changes).2.1), z19, z20, z21, ((addL lg em x3.Changes).1), bl) rfl §9 §54 ⟨rfl, rfl, rfl, rfl, rfl, rfl, rfl, rfl, rfl, rfl, trivial⟩ §38
                                          · refine Do.s §17 §37 rfl fun b4 => ?_
                                            refine D.one (i := 1) §47 rfl ?_
                                            refine Do.s §48 (fun _ => §8) rfl fun v4 => ?_
                                            refine D.one (i := 5) §47 rfl ?_
                                            refine Do.s (s.app (l2 := [§29]) 0 _ rfl rfl rfl (fun _ => Wd.row 1 rfl) tApp_33 §10 §10 (fun _ => rfl) rfl) (fun _ => §8) rfl fun v5 => ?_
                                            refine D.q (i := 6) rfl §47 §8 rfl (q.as rfl) rfl <| D.done §47 <| ?_
                                            refine R.reg rfl <| R.u 1 rfl <| R.q §19 rfl <| R.q (q.ld 7 rfl rfl tOne_46 rfl) rfl <| R.q §49 rfl <| R.q §46 rfl <| R.q §40 rfl <| R.u 1 rfl <| R.nil ?_
                                            refine R.reg rfl <| R.u 2 rfl <| R.nil ?_
                                            refine R.reg rfl <| R.u 1 rfl <| R.q §24 rfl <| R.u 1 rfl <| R.nil ?_
                                            refine R.mp (fun _ hw => hw.batsAdd 3 0 rfl rfl) ?_
                                            refine R.mp (B' := [Res.row 46 (.slice (some ⟨b4, 0, none⟩) 1 1) ([§29] : List Bat), Res.box bl §6 85, Res.box z1 [z19, z20, z21, .int .i64 (((addL lg em x3.Changes).2.1).Fuse), .bool (((addL lg em x3.Changes).2.1).Down)] 81, Res.row 9 z19 (((addL lg em x3.Changes).2.1).Kept : List ByteArray), Res.row 9 z20 (((addL lg em x3.Changes).2.1).Now : List ByteArray), Res.row 83 z21 (((addL lg em x3.Changes).2.1).Wait : List Turn), Res.box b2 §0 48]) (fun _ hw => hw.lendL 0 _ rfl rfl) ?_
                                            refine R.back (i + 1, ((u + x3.Changes.length) + 1), v5, (wb ++ ([§29])), v5, (wb ++ ([§29])), ((addL lg em x3.Changes).2.1), z19, z20, z21, ((addL lg em x3.Changes).1), bl) rfl §9 §54 ⟨rfl, rfl, rfl, rfl, rfl, rfl, rfl, rfl, rfl, rfl, trivial⟩ §38
                                        · refine R.q §31 rfl <| R.nil ?_
                                          refine R.condF rfl rfl ?_
                                          refine R.reg rfl <| R.u 1 rfl <| R.q §24 rfl <| R.u 1 rfl <| R.nil ?_
                                          refine R.back (i + 1, u, qg, gb, qw, wb, ((addL lg em x3.Changes).2.1), z19, z20, z21, ((addL lg em x3.Changes).1), bl) rfl §11 §54 ⟨rfl, rfl, rfl, rfl, rfl, rfl, rfl, rfl, rfl, rfl, trivial⟩ §39
                                    · refine R.q §26 rfl <| R.nil ?_
                                      refine R.condF rfl rfl ?_
                                      refine R.reg rfl <| R.q §19 rfl <| R.q §53 rfl <| R.q (q.len' §25 rfl Try.underlying46) rfl <| R.q (q.add (r := ((x3.Changes.length + 1 : Nat) : Int)) rfl rfl (wr (by omega))) rfl <| R.u 2 rfl <| R.q (q.sub (r := many - (u : Int)) rfl rfl (wr (by omega))) rfl <| ?_
                                      by_cases h28 : (many - (u : Int)) < ((x3.Changes.length + 1) : Int)
                                      · refine R.q §28 rfl <| R.nil ?_
                                        refine R.condT rfl rfl ?_
                                        refine R.reg rfl <| R.u 1 rfl <| R.nil ?_
                                        refine R.reg rfl <| R.u 1 rfl <| R.nil ?_
                                        refine R.loop §21 (fun g_ : Nat × Int => §4) §18 (fun g_ : Nat × Int => fInv lg x3.Changes g_.1 g_.2) (fun g_ : Nat × Int => x3.Changes.length - g_.1) (0, 9) rfl §55 ⟨rfl, rfl, rfl, rfl, rfl, rfl, rfl, rfl, rfl, rfl, rfl, rfl, rfl, trivial⟩ (fun _ => Wd.pick [0, 1, 2, 3, 4, 5] [0, 1, 2, 3, 4, 5, 6, 7, 8, 9, 10, 11] rfl rfl rfl) ?_
                                        rintro ⟨m, f⟩ hK
                                        dsimp only at *
                                        have hK1 := hK.1
                                        refine R.reg rfl <| R.u 1 rfl <| R.q §19 rfl <| R.q §53 rfl <| R.q (q.len' §25 rfl Try.underlying46) rfl <| ?_
                                        by_cases h29 : m < x3.Changes.length
                                        · refine R.q §27 rfl <| R.u 2 rfl <| ?_
                                          by_cases h30 : f = 0
                                          · refine R.qg rfl §42 rfl <| R.u 1 rfl <| R.nil ?_
                                            refine R.condT rfl rfl ?_
                                            refine R.reg rfl <| R.q §19 rfl <| R.q §53 rfl <| R.u 1 rfl <| ?_
                                            obtain ⟨x5, hx5⟩ : ∃ z, x3.Changes[m]? = some z := ⟨_, List.getElem?_eq_getElem (by omega)⟩
                                            refine R.q (q.idx (i := m) §25 rfl rfl tSl_46 rfl hx5) rfl <| R.q (q.ldES (ds := [.string x5.Key, .string x5.Val, .bool x5.Gone]) §25 hx5 rfl tAgg_51 rfl) rfl <| R.c (q.call eg_19 rfl rfl (fun w hw => (changeFault_any (x5) w  ))) rfl <| R.u 1 rfl <| R.nil ?_
                                            refine R.reg rfl <| R.u 1 rfl <| R.q (q.add (r := ((m + 1 : Nat) : Int)) rfl rfl (wr (by omega))) rfl <| R.u 1 rfl <| R.nil ?_
                                            refine R.back (m + 1, chF x5) rfl (by (exact hK.next (by assumption) hx5)) §54 ⟨rfl, rfl, rfl, rfl, rfl, rfl, rfl, rfl, rfl, rfl, rfl, rfl, rfl, trivial⟩ (fun _ => Wd.pik [0, 1, 2, 3, 4, 5] [0, 1, 2, 3, 4, 5, 6, 7, 8, 9, 10, 11] rfl rfl rfl)
                                          · refine R.qg rfl §31 rfl <| R.u 1 rfl <| R.nil ?_
                                            refine R.condF rfl rfl ?_
                                            have hfe : f = addF lg x3.Changes := hK.is §52
                                            have l0 := addL_nonneg (lg := lg) (d := em) (c := x3.Changes); obtain ⟨l1, l2, l3, l4, l5⟩ := log_add (c := x3.Changes) hEO hED hEF HG (by omega) (by omega) (by omega) HS
                                            refine R.reg rfl <| R.u 1 rfl <| R.q §19 rfl <| R.q §53 rfl <| ?_
                                            refine R.s (B' := §3) (F' := (fun g_ : Value × Value × Value => §2)) rfl §36 ?_
                                            rintro ⟨z22, z23, z24⟩
                                            dsimp only
                                            refine R.u 1 rfl <| R.c §14 rfl <| R.u 1 rfl <| R.nil ?_
                                            refine R.condF rfl rfl ?_
                                            refine R.reg rfl <| R.u 1 rfl <| R.q §31 rfl <| R.nil ?_
                                            refine R.condF rfl rfl ?_
                                            refine R.reg rfl <| R.u 1 rfl <| R.q §24 rfl <| R.u 1 rfl <| R.nil ?_
                                            refine R.back (i + 1, u, qg, gb, qw, wb, ((addL lg em x3.Changes).2.1), z22, z23, z24, ((addL lg em x3.Changes).1), bl) rfl §11 §54 ⟨rfl, rfl, rfl, rfl, rfl, rfl, rfl, rfl, rfl, rfl, trivial⟩ §39
                                        · refine R.q §30 rfl <| R.u 4 rfl <| R.nil ?_
                                          refine R.condF rfl rfl ?_
                                          have hfe : f = addF lg x3.Changes := hK.is §52
                                          have l0 := addL_nonneg (lg := lg) (d := em) (c := x3.Changes); obtain ⟨l1, l2, l3, l4, l5⟩ := log_add (c := x3.Changes) hEO hED hEF HG (by omega) (by omega) (by omega) HS
                                          refine R.reg rfl <| R.u 1 rfl <| R.q §19 rfl <| R.q §53 rfl <| ?_
                                          refine R.s (B' := §3) (F' := (fun g_ : Value × Value × Value => §2)) rfl §36 ?_
                                          rintro ⟨z25, z26, z27⟩
                                          dsimp only
                                          refine R.u 1 rfl <| R.c §14 rfl <| R.u 1 rfl <| R.nil ?_
                                          refine R.condF rfl rfl ?_
                                          refine R.reg rfl <| R.u 1 rfl <| ?_
                                          by_cases h31 : f = 0
                                          · refine R.q §42 rfl <| R.nil ?_
                                            refine R.condT rfl rfl ?_
                                            refine R.regD (fuel := 7) (Wd w [] [Res.box bl §6 85, Res.box z1 [z25, z26, z27, .int .i64 (((addL lg em x3.Changes).2.1).Fuse), .bool (((addL lg em x3.Changes).2.1).Down)] 81, Res.row 9 z25 (((addL lg em x3.Changes).2.1).Kept : List ByteArray), Res.row 9 z26 (((addL lg em x3.Changes).2.1).Now : List ByteArray), Res.row 83 z27 (((addL lg em x3.Changes).2.1).Wait : List Turn), Res.box b2 §0 48] §2) rfl mixed rfl ?_
                                            refine D.q (i := 0) rfl §47 §22 rfl (q.mv rfl) rfl <| D.q (i := 2) rfl §47 §22 rfl §19 rfl <| D.q (i := 3) rfl §47 §22 rfl (q.ld 5 rfl rfl tOne_46 rfl) rfl <| ?_
                                            refine D.two (i := 1) (j := 4) §47 rfl rfl ?_ ?_
                                            · refine Do.s §48 §37 rfl fun v6 => ?_
                                              refine D.one (i := 4) §47 rfl ?_
                                              refine Do.s §17 (fun _ => §8) rfl fun b5 => ?_
                                              refine D.one (i := 5) §47 rfl ?_
                                              refine Do.s (s.app (l2 := [§29]) 1 _ rfl rfl rfl (fun _ => Wd.row 0 rfl) tApp_33 §10 §10 (fun _ => rfl) rfl) (fun _ => §8) rfl fun v7 => ?_
                                              refine D.q (i := 6) rfl §47 §8 rfl (q.as rfl) rfl <| D.done §47 <| ?_
                                              refine R.reg rfl <| R.u 1 rfl <| R.q §19 rfl <| R.q (q.ld 7 rfl rfl tOne_46 rfl) rfl <| R.q §49 rfl <| R.q §46 rfl <| R.q §40 rfl <| R.u 1 rfl <| R.nil ?_
                                              refine R.reg rfl <| R.u 2 rfl <| R.nil ?_
                                              refine R.reg rfl <| R.u 1 rfl <| R.q §24 rfl <| R.u 1 rfl <| R.nil ?_
                                              refine R.mp (fun _ hw => hw.batsAdd 3 0 rfl rfl) ?_
                                              refine R.mp (B' := [Res.row 46 (.slice (some ⟨b5, 0, none⟩) 1 1) ([§29] : List Bat), Res.box bl §6 85, Res.box z1 [z25, z26, z27, .int .i64 (((addL lg em x3.Changes).2.1).Fuse), .bool (((addL lg em x3.Changes).2.1).Down)] 81, Res.row 9 z25 (((addL lg em x3.Changes).2.1).Kept : List ByteArray), Res.row 9 z26 (((addL lg em x3.Changes).2.1).Now : List ByteArray), Res.row 83 z27 (((addL lg em x3.Changes).2.1).Wait : List Turn), Res.box b2 §0 48]) (fun _ hw => hw.lendL 1 _ rfl rfl) ?_
                                              refine R.back (i + 1, ((u + x3.Changes.length) + 1), v7, (wb ++ ([§29])), v7, (wb ++ ([§29])), ((addL lg em x3.Changes).2.1), z25, z26, z27, ((addL lg em x3.Changes).1), bl) rfl §9 §54 ⟨rfl, rfl, rfl, rfl, rfl, rfl, rfl, rfl, rfl, rfl, trivial⟩ §38
                                            · refine Do.s §17 §37 rfl fun b6 => ?_
                                              refine D.one (i := 1) §47 rfl ?_
                                              refine Do.s §48 (fun _ => §8) rfl fun v8 => ?_
                                              refine D.one (i := 5) §47 rfl ?_
                                              refine Do.s (s.app (l2 := [§29]) 0 _ rfl rfl rfl (fun _ => Wd.row 1 rfl) tApp_33 §10 §10 (fun _ => rfl) rfl) (fun _ => §8) rfl fun v9 => ?_
                                              refine D.q (i := 6) rfl §47 §8 rfl (q.as rfl) rfl <| D.done §47 <| ?_
                                              refine R.reg rfl <| R.u 1 rfl <| R.q §19 rfl <| R.q (q.ld 7 rfl rfl tOne_46 rfl) rfl <| R.q §49 rfl <| R.q §46 rfl <| R.q §40 rfl <| R.u 1 rfl <| R.nil ?_
                                              refine R.reg rfl <| R.u 2 rfl <| R.nil ?_
                                              refine R.reg rfl <| R.u 1 rfl <| R.q §24 rfl <| R.u 1 rfl <| R.nil ?_
                                              refine R.mp (fun _ hw => hw.batsAdd 3 0 rfl rfl) ?_
                                              refine R.mp (B' := [Res.row 46 (.slice (some ⟨b6, 0, none⟩) 1 1) ([§29] : List Bat), Res.box bl §6 85, Res.box z1 [z25, z26, z27, .int .i64 (((addL lg em x3.Changes).2.1).Fuse), .bool (((addL lg em x3.Changes).2.1).Down)] 81, Res.row 9 z25 (((addL lg em x3.Changes).2.1).Kept : List ByteArray), Res.row 9 z26 (((addL lg em x3.Changes).2.1).Now : List ByteArray), Res.row 83 z27 (((addL lg em x3.Changes).2.1).Wait : List Turn), Res.box b2 §0 48]) (fun _ hw => hw.lendL 0 _ rfl rfl) ?_
                                              refine R.back (i + 1, ((u + x3.Changes.length) + 1), v9, (wb ++ ([§29])), v9, (wb ++ ([§29])), ((addL lg em x3.Changes).2.1), z25, z26, z27, ((addL lg em x3.Changes).1), bl) rfl §9 §54 ⟨rfl, rfl, rfl, rfl, rfl, rfl, rfl, rfl, rfl, rfl, trivial⟩ §38
                                          · refine R.q §31 rfl <| R.nil ?_
                                            refine R.condF rfl rfl ?_
                                            refine R.reg rfl <| R.u 1 rfl <| R.q §24 rfl <| R.u 1 rfl <| R.nil ?_
                                            refine R.back (i + 1, u, qg, gb, qw, wb, ((addL lg em x3.Changes).2.1), z25, z26, z27, ((addL lg em x3.Changes).1), bl) rfl §11 §54 ⟨rfl, rfl, rfl, rfl, rfl, rfl, rfl, rfl, rfl, rfl, trivial⟩ §39
                                      · refine R.q §26 rfl <| R.nil ?_
                                        refine R.condF rfl rfl ?_
                                        refine R.reg rfl <| R.u 1 rfl <| R.nil ?_
                                        refine R.loop §21 (fun g_ : Nat × Int => §4) §18 (fun g_ : Nat × Int => fInv lg x3.Changes g_.1 g_.2) (fun g_ : Nat × Int => x3.Changes.length - g_.1) (0, 0) rfl §55 ⟨rfl, rfl, rfl, rfl, rfl, rfl, rfl, rfl, rfl, rfl, rfl, rfl, rfl, trivial⟩ (fun _ => Wd.pick [0, 1, 2, 3, 4, 5] [0, 1, 2, 3, 4, 5, 6, 7, 8, 9, 10, 11] rfl rfl rfl) ?_
                                        rintro ⟨m, f⟩ hK
                                        dsimp only at *
                                        have hK1 := hK.1
                                        refine R.reg rfl <| R.u 1 rfl <| R.q §19 rfl <| R.q §53 rfl <| R.q (q.len' §25 rfl Try.underlying46) rfl <| ?_
                                        by_cases h32 : m < x3.Changes.length
                                        · refine R.q §27 rfl <| R.u 2 rfl <| ?_
                                          by_cases h33 : f = 0
                                          · refine R.qg rfl §42 rfl <| R.u 1 rfl <| R.nil ?_
                                            refine R.condT rfl rfl ?_
                                            refine R.reg rfl <| R.q §19 rfl <| R.q §53 rfl <| R.u 1 rfl <| ?_
                                            obtain ⟨x6, hx6⟩ : ∃ z, x3.Changes[m]? = some z := ⟨_, List.getElem?_eq_getElem (by omega)⟩
                                            refine R.q (q.idx (i := m) §25 rfl rfl tSl_46 rfl hx6) rfl <| R.q (q.ldES (ds := [.string x6.Key, .string x6.Val, .bool x6.Gone]) §25 hx6 rfl tAgg_51 rfl) rfl <| R.c (q.call eg_19 rfl rfl (fun w hw => (changeFault_any (x6) w  ))) rfl <| R.u 1 rfl <| R.nil ?_
                                            refine R.reg rfl <| R.u 1 rfl <| R.q (q.add (r := ((m + 1 : Nat) : Int)) rfl rfl (wr (by omega))) rfl <| R.u 1 rfl <| R.nil ?_
                                            refine R.back (m + 1, chF x6) rfl (by (exact hK.next (by assumption) hx6)) §54 ⟨rfl, rfl, rfl, rfl, rfl, rfl, rfl, rfl, rfl, rfl, rfl, rfl, rfl, trivial⟩ (fun _ => Wd.pik [0, 1, 2, 3, 4, 5] [0, 1, 2, 3, 4, 5, 6, 7, 8, 9, 10, 11] rfl rfl rfl)
                                          · refine R.qg rfl §31 rfl <| R.u 1 rfl <| R.nil ?_
                                            refine R.condF rfl rfl ?_
                                            have hfe : f = addF lg x3.Changes := hK.is §52
                                            have l0 := addL_nonneg (lg := lg) (d := em) (c := x3.Changes); obtain ⟨l1, l2, l3, l4, l5⟩ := log_add (c := x3.Changes) hEO hED hEF HG (by omega) (by omega) (by omega) HS
                                            refine R.reg rfl <| R.u 1 rfl <| R.q §19 rfl <| R.q §53 rfl <| ?_
                                            refine R.s (B' := §3) (F' := (fun g_ : Value × Value × Value => §2)) rfl §36 ?_
                                            rintro ⟨z28, z29, z30⟩
                                            dsimp only
                                            refine R.u 1 rfl <| R.c §14 rfl <| R.u 1 rfl <| R.nil ?_
                                            refine R.condF rfl rfl ?_
                                            refine R.reg rfl <| R.u 1 rfl <| R.q §31 rfl <| R.nil ?_
                                            refine R.condF rfl rfl ?_
                                            refine R.reg rfl <| R.u 1 rfl <| R.q §24 rfl <| R.u 1 rfl <| R.nil ?_
                                            refine R.back (i + 1, u, qg, gb, qw, wb, ((addL lg em x3.Changes).2.1), z28, z29, z30, ((addL lg em x3.Changes).1), bl) rfl §11 §54 ⟨rfl, rfl, rfl, rfl, rfl, rfl, rfl, rfl, rfl, rfl, trivial⟩ §39
                                        · refine R.q §30 rfl <| R.u 4 rfl <| R.nil ?_
                                          refine R.condF rfl rfl ?_
                                          have hfe : f = addF lg x3.Changes := hK.is §52
                                          have l0 := addL_nonneg (lg := lg) (d := em) (c := x3.Changes); obtain ⟨l1, l2, l3, l4, l5⟩ := log_add (c := x3.Changes) hEO hED hEF HG (by omega) (by omega) (by omega) HS
                                          refine R.reg rfl <| R.u 1 rfl <| R.q §19 rfl <| R.q §53 rfl <| ?_
                                          refine R.s (B' := §3) (F' := (fun g_ : Value × Value × Value => §2)) rfl §36 ?_
                                          rintro ⟨z31, z32, z33⟩
                                          dsimp only
                                          refine R.u 1 rfl <| R.c §14 rfl <| R.u 1 rfl <| R.nil ?_
                                          refine R.condF rfl rfl ?_
                                          refine R.reg rfl <| R.u 1 rfl <| ?_
                                          by_cases h34 : f = 0
                                          · refine R.q §42 rfl <| R.nil ?_
                                            refine R.condT rfl rfl ?_
                                            refine R.regD (fuel := 7) (Wd w [] [Res.box bl §6 85, Res.box z1 [z31, z32, z33, .int .i64 (((addL lg em x3.Changes).2.1).Fuse), .bool (((addL lg em x3.Changes).2.1).Down)] 81, Res.row 9 z31 (((addL lg em x3.Changes).2.1).Kept : List ByteArray), Res.row 9 z32 (((addL lg em x3.Changes).2.1).Now : List ByteArray), Res.row 83 z33 (((addL lg em x3.Changes).2.1).Wait : List Turn), Res.box b2 §0 48] §2) rfl mixed rfl ?_
                                            refine D.q (i := 0) rfl §47 §22 rfl (q.mv rfl) rfl <| D.q (i := 2) rfl §47 §22 rfl §19 rfl <| D.q (i := 3) rfl §47 §22 rfl (q.ld 5 rfl rfl tOne_46 rfl) rfl <| ?_
                                            refine D.two (i := 1) (j := 4) §47 rfl rfl ?_ ?_
                                            · refine Do.s §48 §37 rfl fun v10 => ?_
                                              refine D.one (i := 4) §47 rfl ?_
                                              refine Do.s §17 (fun _ => §8) rfl fun b7 => ?_
                                              refine D.one (i := 5) §47 rfl ?_
                                              refine Do.s (s.app (l2 := [§29]) 1 _ rfl rfl rfl (fun _ => Wd.row 0 rfl) tApp_33 §10 §10 (fun _ => rfl) rfl) (fun _ => §8) rfl fun v11 => ?_
                                              refine D.q (i := 6) rfl §47 §8 rfl (q.as rfl) rfl <| D.done §47 <| ?_
                                              refine R.reg rfl <| R.u 1 rfl <| R.q §19 rfl <| R.q (q.ld 7 rfl rfl tOne_46 rfl) rfl <| R.q §49 rfl <| R.q §46 rfl <| R.q §40 rfl <| R.u 1 rfl <| R.nil ?_
                                              refine R.reg rfl <| R.u 2 rfl <| R.nil ?_
                                              refine R.reg rfl <| R.u 1 rfl <| R.q §24 rfl <| R.u 1 rfl <| R.nil ?_
                                              refine R.mp (fun _ hw => hw.batsAdd 3 0 rfl rfl) ?_
                                              refine R.mp (B' := [Res.row 46 (.slice (some ⟨b7, 0, none⟩) 1 1) ([§29] : List Bat), Res.box bl §6 85, Res.box z1 [z31, z32, z33, .int .i64 (((addL lg em x3.Changes).2.1).Fuse), .bool (((addL lg em x3.Changes).2.1).Down)] 81, Res.row 9 z31 (((addL lg em x3.Changes).2.1).Kept : List ByteArray), Res.row 9 z32 (((addL lg em x3.Changes).2.1).Now : List ByteArray), Res.row 83 z33 (((addL lg em x3.Changes).2.1).Wait : List Turn), Res.box b2 §0 48]) (fun _ hw => hw.lendL 1 _ rfl rfl) ?_
                                              refine R.back (i + 1, ((u + x3.Changes.length) + 1), v11, (wb ++ ([§29])), v11, (wb ++ ([§29])), ((addL lg em x3.Changes).2.1), z31, z32, z33, ((addL lg em x3.Changes).1), bl) rfl §9 §54 ⟨rfl, rfl, rfl, rfl, rfl, rfl, rfl, rfl, rfl, rfl, trivial⟩ §38
                                            · refine Do.s §17 §37 rfl fun b8 => ?_
                                              refine D.one (i := 1) §47 rfl ?_
                                              refine Do.s §48 (fun _ => §8) rfl fun v12 => ?_
                                              refine D.one (i := 5) §47 rfl ?_
                                              refine Do.s (s.app (l2 := [§29]) 0 _ rfl rfl rfl (fun _ => Wd.row 1 rfl) tApp_33 §10 §10 (fun _ => rfl) rfl) (fun _ => §8) rfl fun v13 => ?_
                                              refine D.q (i := 6) rfl §47 §8 rfl (q.as rfl) rfl <| D.done §47 <| ?_
                                              refine R.reg rfl <| R.u 1 rfl <| R.q §19 rfl <| R.q (q.ld 7 rfl rfl tOne_46 rfl) rfl <| R.q §49 rfl <| R.q §46 rfl <| R.q §40 rfl <| R.u 1 rfl <| R.nil ?_
                                              refine R.reg rfl <| R.u 2 rfl <| R.nil ?_
                                              refine R.reg rfl <| R.u 1 rfl <| R.q §24 rfl <| R.u 1 rfl <| R.nil ?_
                                              refine R.mp (fun _ hw => hw.batsAdd 3 0 rfl rfl) ?_
                                              refine R.mp (B' := [Res.row 46 (.slice (some ⟨b8, 0, none⟩) 1 1) ([§29] : List Bat), Res.box bl §6 85, Res.box z1 [z31, z32, z33, .int .i64 (((addL lg em x3.Changes).2.1).Fuse), .bool (((addL lg em x3.Changes).2.1).Down)] 81, Res.row 9 z31 (((addL lg em x3.Changes).2.1).Kept : List ByteArray), Res.row 9 z32 (((addL lg em x3.Changes).2.1).Now : List ByteArray), Res.row 83 z33 (((addL lg em x3.Changes).2.1).Wait : List Turn), Res.box b2 §0 48]) (fun _ hw => hw.lendL 0 _ rfl rfl) ?_
                                              refine R.back (i + 1, ((u + x3.Changes.length) + 1), v13, (wb ++ ([§29])), v13, (wb ++ ([§29])), ((addL lg em x3.Changes).2.1), z31, z32, z33, ((addL lg em x3.Changes).1), bl) rfl §9 §54 ⟨rfl, rfl, rfl, rfl, rfl, rfl, rfl, rfl, rfl, rfl, trivial⟩ §38
                                          · refine R.q §31 rfl <| R.nil ?_
                                            refine R.condF rfl rfl ?_
                                            refine R.reg rfl <| R.u 1 rfl <| R.q §24 rfl <| R.u 1 rfl <| R.nil ?_
                                            refine R.back (i + 1, u, qg, gb, qw, wb, ((addL lg em x3.Changes).2.1), z31, z32, z33, ((addL lg em x3.Changes).1), bl) rfl §11 §54 ⟨rfl, rfl, rfl, rfl, rfl, rfl, rfl, rfl, rfl, rfl, trivial⟩ §39
                                  · refine R.q (q.neqS0 rfl rfl h23) rfl <| R.nil ?_
                                    refine R.condT rfl rfl ?_
                                    refine R.reg rfl <| R.u 4 rfl <| ?_
                                    refine R.s (B' := (fun g_ : Value × Value × Value × Nat × Value × List Bat => [Res.box z1 [g_.1, g_.2.1, g_.2.2.1, .int .i64 ((em).Fuse), .bool ((em).Down)] 81, Res.row 9 g_.1 ((em).Kept : List ByteArray), Res.row 9 g_.2.1 ((em).Now : List ByteArray), Res.row 83 g_.2.2.1 ((em).Wait : List Turn), Res.box g_.2.2.2.1 [.pointer (some ⟨z1, 0, none⟩), .int .i64 ((§32).From), .int .i64 ((§32).Many), .int .i64 ((§32).First), .int .i64 ((§32).Next)] 85, Res.box b2 §0 48, Res.box bl [.pointer (some ⟨z1, 0, none⟩), .int .i64 lg.From, .int .i64 lg.Many, .int .i64 lg.First, .int .i64 lg.Next] 85])) (F' := (fun g_ : Value × Value × Value × Nat × Value × List Bat => [Res.ls g_.2.2.2.2.1 (g_.2.2.2.2.2 : List Bat), Res.batsE (g_.2.2.2.2.2 : List Bat) ((opnD em frm (Int.toNat many) first)), Res.bats (gb : List Bat), Res.ls qg (gb : List Bat), Res.bats (wb : List Bat), Res.ls qw (wb : List Bat), Res.bats (z15 : List Bat), Res.ls z14 (z15 : List Bat), Res.ls qn (ns : List ByteArray), Res.bats (z13 : List Bat), Res.ls z12 (z13 : List Bat), Res.acts acts, Res.ls v_acts (acts : List Deed), Res.ls v_sectors (sectors : List ByteArray)])) rfl (s.callV (B0 := [Res.box z1 [em_Kept, em_Now, em_Wait, .int .i64 em.Fuse, .bool em.Down] 81, Res.row 9 em_Kept (em.Kept : List ByteArray), Res.row 9 em_Now (em.Now : List ByteArray), Res.row 83 em_Wait (em.Wait : List Turn)]) (Br := [Res.box b2 §0 48, Res.box bl [.pointer (some ⟨z1, 0, none⟩), .int .i64 lg.From, .int .i64 lg.Many, .int .i64 lg.First, .int .i64 lg.Next] 85]) (F0 := []) [1, 2, 3, 4, 0, 5] [] §56 (fun g_ : Value × Value × Value × Nat × Value × List Bat => [Res.box z1 [g_.1, g_.2.1, g_.2.2.1, .int .i64 ((em).Fuse), .bool ((em).Down)] 81, Res.row 9 g_.1 ((em).Kept : List ByteArray), Res.row 9 g_.2.1 ((em).Now : List ByteArray), Res.row 83 g_.2.2.1 ((em).Wait : List Turn), Res.box g_.2.2.2.1 [.pointer (some ⟨z1, 0, none⟩), .int .i64 ((§32).From), .int .i64 ((§32).Many), .int .i64 ((§32).First), .int .i64 ((§32).Next)] 85]) (fun g_ : Value × Value × Value × Nat × Value × List Bat => [Res.ls g_.2.2.2.2.1 (g_.2.2.2.2.2 : List Bat), Res.batsE (g_.2.2.2.2.2 : List Bat) ((opnD em frm (Int.toNat many) first))]) rfl rfl rfl eg_11 rfl rfl (fun w own hw H => open_any z1 em_Kept em_Now em_Wait (em) (frm) (many) (first) w own H §50 (by assumption) (by first | assumption | exact ⟨by assumption, by omega⟩)) rfl) ?_
                                    rintro ⟨z34, z35, z36, z37, z38, z39⟩
                                    dsimp only
                                    refine Rg.getE (F' := [Res.bats (z39 : List Bat), Res.ls z38 (z39 : List Bat), Res.bats (gb : List Bat), Res.ls qg (gb : List Bat), Res.bats (wb : List Bat), Res.ls qw (wb : List Bat), Res.bats (z15 : List Bat), Res.ls z14 (z15 : List Bat), Res.ls qn (ns : List ByteArray), Res.bats (z13 : List Bat), Res.ls z12 (z13 : List Bat), Res.acts acts, Res.ls v_acts (acts : List Deed), Res.ls v_sectors (sectors : List ByteArray)]) 1 rfl rfl fun hE3 => ?_
                                    refine R.u 7 rfl <| R.nil ?_
                                    refine R.reg rfl <| R.u 1 rfl <| R.q (q.neqNN rfl rfl Try.underlying28) rfl <| R.u 2 rfl <| R.qg rfl §51 rfl <| R.u 1 rfl <| R.nil ?_
                                    refine R.condF rfl rfl ?_
                                    refine R.reg rfl <| R.u 1 rfl <| R.q §24 rfl <| R.u 1 rfl <| R.nil ?_
                                    refine R.back (i + 1, u, z38, z39, qw, wb, em, z34, z35, z36, §32, z37) rfl (by ((try dsimp only); exact ⟨by omega, hEO.up (by omega), hED, hEF, by unfold opnU; rw [HS], by rw [hE3]; unfold opnD; rw [HS], HS⟩)) §54 ⟨rfl, rfl, rfl, rfl, rfl, rfl, rfl, rfl, rfl, rfl, trivial⟩ (fun _ => Wd.pik [0, 1, 2, 3, 4] [0, 1, 4, 5, 6, 7, 8, 9, 10, 11, 12, 13] rfl rfl rfl)
                              · refine R.qg rfl (q.neq rfl rfl (bne_iff_ne.2 (by omega))) rfl <| R.u 1 rfl <| R.nil ?_
                                refine R.condT rfl rfl ?_
                                refine R.reg rfl <| R.u 1 rfl <| R.nil ?_
                                exact R.rv rfl Try.results3 rfl (rB §15)
                            · refine R.qg rfl (q.neq rfl rfl (bne_iff_ne.2 (by omega))) rfl <| R.u 9 rfl <| R.nil ?_
                              refine R.condT rfl rfl ?_
                              refine R.reg rfl <| R.u 1 rfl <| R.nil ?_
                              exact R.rv rfl Try.results3 rfl (rB §15)
            · refine R.c (q.call eg_11 rfl rfl (fun w hw => (open_bad z1 dm_Kept dm_Now dm_Wait  (dm) (frm) (many) (first) w (hw.b 0 rfl) ((fun _ => Wd.row 1 rfl) w hw) ((fun _ => Wd.row 2 rfl) w hw) ((fun _ => Wd.row 3 rfl) w hw) (by assumption) (by omega)))) rfl <| R.u 7 rfl <| R.nil ?_
              refine R.reg rfl <| R.u 1 rfl <| ?_
              by_cases h35 : frm < 0
              · refine R.q §27 rfl <| R.u 22 rfl <| R.nil ?_
                refine R.condT rfl rfl ?_
                refine R.reg rfl <| R.u 1 rfl <| R.c §45 rfl <| R.u 2 rfl <| R.qg rfl §51 rfl <| R.u 3 rfl <| R.qg rfl (q.len rfl Try.underlying33) rfl <| R.qg rfl (q.eql (b := true) rfl rfl (by decide)) rfl <| R.u 2 rfl <| R.nil ?_
                exact R.rv rfl Try.results3 rfl (rB §15)
              · refine R.q §30 rfl <| R.u 2 rfl <| ?_
                by_cases h36 : many < 1
                · refine R.qg rfl §27 rfl <| R.u 19 rfl <| R.nil ?_
                  refine R.condT rfl rfl ?_
                  refine R.reg rfl <| R.u 1 rfl <| R.c §45 rfl <| R.u 2 rfl <| R.qg rfl §51 rfl <| R.u 3 rfl <| R.qg rfl (q.len rfl Try.underlying33) rfl <| R.qg rfl (q.eql (b := true) rfl rfl (by decide)) rfl <| R.u 2 rfl <| R.nil ?_
                  exact R.rv rfl Try.results3 rfl (rB §15)
                · refine R.qg rfl §30 rfl <| R.u 4 rfl <| R.cg rfl (q.call eg_12 rfl rfl (fun w hw => (dSectors_any z1 dm_Kept dm_Now dm_Wait  (dm) w (hw.b 0 rfl) ((fun _ => Wd.row 1 rfl) w hw) ((fun _ => Wd.row 2 rfl) w hw) ((fun _ => Wd.row 3 rfl) w hw) ))) rfl <| ?_
                  by_cases h37 : (dm.Now.length : Int) < many
                  · refine R.qg rfl §28 rfl <| R.u 13 rfl <| R.nil ?_
                    refine R.condT rfl rfl ?_
                    refine R.reg rfl <| R.u 1 rfl <| R.c §45 rfl <| R.u 2 rfl <| R.qg rfl §51 rfl <| R.u 3 rfl <| R.qg rfl (q.len rfl Try.underlying33) rfl <| R.qg rfl (q.eql (b := true) rfl rfl (by decide)) rfl <| R.u 2 rfl <| R.nil ?_
                    exact R.rv rfl Try.results3 rfl (rB §15)
                  · refine R.qg rfl §26 rfl <| R.u 4 rfl <| R.cg rfl (q.call eg_12 rfl rfl (fun w hw => (dSectors_any z1 dm_Kept dm_Now dm_Wait  (dm) w (hw.b 0 rfl) ((fun _ => Wd.row 1 rfl) w hw) ((fun _ => Wd.row 2 rfl) w hw) ((fun _ => Wd.row 3 rfl) w hw) ))) rfl <| R.u 1 rfl <| R.qg rfl (q.sub (r := (dm.Now.length : Int) - many) rfl rfl (wr (by omega))) rfl <| ?_
                    by_cases h38 : ((dm.Now.length : Int) - many) < frm
                    · refine R.qg rfl §28 rfl <| R.u 5 rfl <| R.nil ?_
                      refine R.condT rfl rfl ?_
                      refine R.reg rfl <| R.u 1 rfl <| R.c §45 rfl <| R.u 2 rfl <| R.qg rfl §51 rfl <| R.u 3 rfl <| R.qg rfl (q.len rfl Try.underlying33) rfl <| R.qg rfl (q.eql (b := true) rfl rfl (by decide)) rfl <| R.u 2 rfl <| R.nil ?_
                      exact R.rv rfl Try.results3 rfl (rB §15)
                    · refine R.qg rfl §26 rfl <| R.u 3 rfl <| ?_
                      by_cases h39 : first < 1
                      · refine R.qg rfl §27 rfl <| R.u 1 rfl <| R.nil ?_
                        refine R.condT rfl rfl ?_
                        refine R.reg rfl <| R.u 1 rfl <| R.c §45 rfl <| R.u 2 rfl <| R.qg rfl §51 rfl <| R.u 3 rfl <| R.qg rfl (q.len rfl Try.underlying33) rfl <| R.qg rfl (q.eql (b := true) rfl rfl (by decide)) rfl <| R.u 2 rfl <| R.nil ?_
                        exact R.rv rfl Try.results3 rfl (rB §15)
                      · refine R.qg rfl §30 rfl <| R.u 1 rfl <| R.nil ?_
                        refine R.condF rfl rfl ?_
                        refine R.reg rfl <| R.u 1 rfl <| R.q (q.neqE1 (m := 1) rfl rfl Try.underlying28 (by omega)) rfl <| R.u 4 rfl <| R.nil ?_
                        refine R.condT rfl rfl ?_
                        refine R.reg rfl <| R.u 1 rfl <| R.nil ?_
                        exact R.rv rfl Try.results3 rfl (rB §15)
    · refine R.cg rfl (q.call eg_8 rfl rfl (fun w hw => (cv (congrArg Value.bool h2) (lightA_any _ (acts) (20) w ((fun _ => Wd.fls 1 rfl) w hw) (hw.acts 0 rfl) )))) rfl <| R.u 6 rfl <| R.nil ?_
      refine R.condT rfl rfl ?_
      refine R.reg rfl <| R.u 2 rfl <| R.nil ?_
      exact R.rv rfl Try.results3 rfl (rB §15)

end Go.Proofs.Ytpipachmngdegaa
end
