import Derived.Test.YtpipachmngdegaaStoreSaysProofG47
section
/-
  What a walk of a store needs to know: bounds, the document's store beside it, a store that is opened anew. No walk.
-/
namespace Go.Proofs.Ytpipachmngdegaa
open Go Go.RowKit
set_option linter.unusedVariables false

section
variable {n u t : Nat} {sc : StoC} {lg : Lg} {d : Dsk} {l : List Change} {m : RStC}
theorem mkS_eta (s : Sto) : mkS s.c s.L = s := rfl
theorem SV.ok (h : SV n d (mkS sc lg) u t) : DOk d.Now.length 60000 d ∧ d.Now.length ≤ 200 ∧ 166 ≤ d.Now.length := by
  have h1 := h.sn.len; have h2 := h.sn.nb
  exact ⟨h1.symm ▸ h.rest.ok.up (by omega), by omega, by omega⟩
theorem SV.bnd (h : SV n d (mkS sc lg) u t) (ht : t ≤ 10000) : 0 ≤ sc.Epoch ∧ sc.Epoch ≤ 1000000000 ∧ 0 ≤ sc.Side ∧ sc.Side ≤ 1 ∧ 0 ≤ lg.Many ∧ lg.Many ≤ 1000 ∧ 1 ≤ lg.First ∧ lg.First ≤ 1000000000 ∧ 0 ≤ lg.From ∧ lg.From ≤ 1000 ∧ 0 ≤ lg.Next ∧ lg.Next ≤ 1000 := by
  have e1 : 1 ≤ sc.Epoch ∧ sc.Epoch ≤ 1 + (t : Int) := h.sn.eb
  have e2 : 1 ≤ sc.First ∧ sc.First ≤ 1 + 100 * (t : Int) := h.sn.fb
  have e3 : sc.Side = 0 ∨ sc.Side = 1 := h.sn.sd
  have e4 : lg = ⟨102, (n : Int) - 102, sc.First, (u : Int)⟩ := h.sn.lg
  have e5 := h.sn.nb; have e6 := h.sn.len
  obtain ⟨b, W, _, _, _, hl, _⟩ := h.sn.base
  have e7 := hl.ule
  rw [List.length_drop] at e7
  rw [e4]; dsimp only
  refine ⟨?_, ?_, ?_, ?_, ?_, ?_, ?_, ?_, ?_, ?_, ?_, ?_⟩ <;> omega
theorem SV.good (h : SV n d (mkS sc lg) u t) : sc.Rows.length ≤ 60 ∧ (∀ c ∈ sc.Rows, chF c = 0) ∧ RiseC sc.Rows := ⟨h.sn.rows.len, h.sn.rows.ok, h.sn.rows.rise⟩
theorem SV.room (h : SV n d (mkS sc lg) u t) : lg.Many = (n : Int) - 102 ∧ lg.Next = (u : Int) ∧ d.Down = false ∧ d.Now.length = n ∧ 166 ≤ n ∧ n ≤ 200 := by
  have e4 : lg = ⟨102, (n : Int) - 102, sc.First, (u : Int)⟩ := h.sn.lg
  exact ⟨by rw [e4], by rw [e4], h.rest.down, h.sn.len, h.sn.nb.1, h.sn.nb.2⟩
theorem SV.opened (h : SV n d (mkS sc lg) u t) (ht : t ≤ 10000) : openF d = 0 ∧ (openS d).c = sc ∧ (openS d).L = lg := by
  obtain ⟨h1, h2⟩ := open_law h.rest.ok h.rest.down h.sn ht
  exact ⟨h1, by rw [h2]; rfl, by rw [h2]; rfl⟩
theorem rcF_is (h : SV n d (mkS sc lg) u t) (h1 : m.Rows = sc.Rows) (h3 : m.Many = (n : Int) - 102) : rcF m l = comF (mkS sc lg) d.Now.length l := by
  have e : appliedR m.Rows l = applyR sc.Rows l := by rw [h1]; exact (apply_eq l h.good.2.2).symm
  unfold rcF comF; rw [e, h3, h.sn.len]; rfl
theorem says_commit (h : SV n d (mkS sc lg) u t) (ht : t ≤ 9999) (hf : d.Fuse = -1) (h1 : m.Rows = sc.Rows) (h2 : m.Used = (u : Int)) (h3 : m.Many = (n : Int) - 102) :
    (comS (mkS sc lg) d l).2.2 = (rcS m l).2 ∧ (rcS m l).1.Many = (n : Int) - 102 ∧ (rcS m l).1.Rows = (comS (mkS sc lg) d l).1.c.Rows ∧ (comS (mkS sc lg) d l).2.1.Fuse = -1 ∧
    ∃ u', SV n (comS (mkS sc lg) d l).2.1 (mkS (comS (mkS sc lg) d l).1.c (comS (mkS sc lg) d l).1.L) u' (t + 1) ∧ (rcS m l).1.Used = (u' : Int) := by
  have hF := rcF_is (l := l) h h1 h3
  have e : appliedR m.Rows l = applyR sc.Rows l := by rw [h1]; exact (apply_eq l h.good.2.2).symm
  have hr := h.room
  by_cases hc : comF (mkS sc lg) d.Now.length l = 0
  · have hm : rcS m l = (⟨appliedR m.Rows l, (if m.Many - m.Used < (l.length : Int) + 1 then 0 else m.Used) + (l.length : Int) + 1, m.Many⟩, 0) := by
      unfold rcS; rw [hF, hc, if_neg (by decide)]
    rcases commit_law h ht hc with ⟨e1, s1, u1, a1, a2, a3, a4, a5⟩ | ⟨e1, s1, a1, a2, _⟩
    · rw [a1, hm]
      dsimp only
      rw [mkS_eta]
      refine ⟨rfl, h3, ?_, a4 hf, u1, a2, ?_⟩
      · rw [e]; exact a3.symm
      · rw [a5, h3, h2]
        have : (mkS sc lg).L.Many - (mkS sc lg).L.Next = (n : Int) - 102 - (u : Int) := by
          show lg.Many - lg.Next = _
          rw [hr.1, hr.2.1]
        rw [this]
    · exact absurd hf a2
  · have hm : rcS m l = (m, comF (mkS sc lg) d.Now.length l) := by
      unfold rcS; rw [hF, if_pos hc]
    have hs : comS (mkS sc lg) d l = (mkS sc lg, d, comF (mkS sc lg) d.Now.length l) := by
      unfold comS; rw [if_pos hc]
    rw [hs, hm]
    exact ⟨rfl, h3, h1, hf, u, h.up (Nat.le_succ t), h2⟩
theorem says_ck (h : SV n d (mkS sc lg) u t) (ht : t ≤ 9999) (hf : d.Fuse = -1) :
    (ckS (mkS sc lg) d).2.2 = 0 ∧ (ckS (mkS sc lg) d).1.c.Rows = sc.Rows ∧ (ckS (mkS sc lg) d).2.1.Fuse = -1 ∧ SV n (ckS (mkS sc lg) d).2.1 (mkS (ckS (mkS sc lg) d).1.c (ckS (mkS sc lg) d).1.L) 0 (t + 1) := by
  rcases ckpt_law h ht with ⟨e1, s1, a1, a2, a3, a4⟩ | ⟨e1, a1, a2, _⟩
  · rw [a1]; exact ⟨rfl, a3, a4 hf, a2⟩
  · exact absurd hf a2
theorem fresh_up {k : Nat} : (dNew k).Down = false := rfl
theorem fresh_head (k : Nat) (hk : 2 ≤ k) : (headD (dNew k)).Epoch = 0 := by
  have h0 : (dNew k).Now[0]? = some (nou 48) := by show (List.replicate k (nou 48))[0]? = _; rw [List.getElem?_replicate, if_pos (by omega)]
  have h1 : (dNew k).Now[1]? = some (nou 48) := by show (List.replicate k (nou 48))[1]? = _; rw [List.getElem?_replicate, if_pos (by omega)]
  have r0 : (dRead (dNew k) 0).1 = nou 48 := by have := dRead_live (d := dNew k) (i := 0) rfl h0; rw [show ((0 : Nat) : Int) = 0 from rfl] at this; rw [this]
  have r1 : (dRead (dNew k) 1).1 = nou 48 := by have := dRead_live (d := dNew k) (i := 1) rfl h1; rw [show ((1 : Nat) : Int) = 1 from rfl] at this; rw [this]
  unfold headD; rw [r0, r1, headO_nou]; rfl
theorem fresh_bad {k : Nat} : (dNew k).Now.length < 166 ∨ (headD (dNew k)).Epoch = 0 := by
  by_cases h : k < 166
  · left; simp [dNew]; exact h
  · right; exact fresh_head k (by omega)
theorem fresh_no {k : Nat} : ¬ openF (dNew k) = 0 := by
  intro h
  obtain ⟨h1, h2, _⟩ := opn_1 h
  rcases fresh_bad (k := k) with h3 | h3
  · exact h1 h3
  · exact h2 h3
/-- a disk that is formatted -/
theorem fmt_says {k : Nat} (h1 : 166 ≤ k) (h2 : k ≤ 200) : (fmtD (dNew k)).2 = 0 ∧ (fmtD (dNew k)).1.Fuse = -1 ∧ openF (fmtD (dNew k)).1 = 0 ∧ SV k (fmtD (dNew k)).1 (mkS (openS (fmtD (dNew k)).1).c (openS (fmtD (dNew k)).1).L) 0 0 ∧ (openS (fmtD (dNew k)).1).c.Rows = [] := by
  obtain ⟨e, q1, q2, q3⟩ := fmt_law h1 h2
  have q4 := open_law q2.rest.ok q2.rest.down q2.sn (by omega)
  rw [q1]; dsimp only
  rw [q4.2, mkS_eta]
  exact ⟨rfl, q3, q4.1, q2, rfl⟩
end
end Go.Proofs.Ytpipachmngdegaa
end
