/-
  The laws of the realm in plain words: nobody gets more; who made it takes it back; when it is quiet. No program.
-/
import Derived.Test.YtoaneidhfcljmaaTopFacts4
namespace Go.Proofs.Ytoaneidhfcljmaa
set_option linter.unusedVariables false
section
variable {r : Realm}
/-- one has no more than what is above it -/
structure NoMore (x w : Writ) : Prop where
  has : hasR x.Rights w.Rights = true
  thing : x.Thing = w.Thing
  badge : x.Badge = 0 ∨ w.Badge = x.Badge
theorem above_law {l : List Writ} (h : TreeOk l) {c : Int} (w : Writ) (hw : w ∈ l) (hc : c ∈ chain l w.From) : ∃ x ∈ l, x.ID = c ∧ NoMore x w := by
  have ww := h.mem hw
  have hf : 0 ≤ findW l w.From := by
    rcases Int.lt_or_le (findW l w.From) 0 with h1 | h1
    · rw [chain_none h1] at hc; cases hc
    · exact h1
  have h0 := h.from0 hf
  obtain ⟨y, hy, hm⟩ := h.is.made w hw (by omega)
  have wy := h.mem hy
  obtain ⟨y', _, e1, hy', e2⟩ := fromOf_at hf
  have : y' = y := h.inj hy' hy (by rw [e1]; exact hm.frm.symm)
  subst this
  rw [chain_some h hf] at hc
  rcases List.mem_cons.1 hc with e | hc
  · exact ⟨y', hy, by rw [e]; exact e1, hm.has, hm.thing, hm.badge⟩
  · rw [e2] at hc
    have hlt : y'.From.toNat < w.From.toNat := by have := wy.frl; have := wy.fr0; omega
    obtain ⟨x, hx, ex, k⟩ := above_law h y' hy hc
    have wx := h.mem hx
    refine ⟨x, hx, ex, hasT wx.ri0 wx.ri7 wy.ri0 wy.ri7 ww.ri0 ww.ri7 k.has hm.has, k.thing.trans hm.thing, ?_⟩
    rcases k.badge with b | b
    · exact .inl b
    · rcases hm.badge with b2 | b2
      · left; omega
      · right; omega
termination_by w.From.toNat
theorem above_of {l : List Writ} (h : TreeOk l) {w : Writ} (hw : w ∈ l) : above l w.ID = chain l w.From := by
  obtain ⟨x, _, e1, hx, e2⟩ := fromOf_at (findW_mem hw)
  have : x = w := h.inj hx hw e1
  subst this
  unfold above; rw [e2]
theorem above_root {l : List Writ} (h : TreeOk l) {w : Writ} (hw : w ∈ l) (hn : above l w.ID = []) : w.From = 0 := by
  by_cases h0 : w.From = 0
  · exact h0
  · obtain ⟨y, hy, hm⟩ := h.is.made w hw h0
    have hf : 0 ≤ findW l w.From := findW_some.2 ⟨y, hy, hm.frm⟩
    rw [above_of h hw, chain_some h hf] at hn
    cases hn
theorem above_not {l : List Writ} (h : TreeOk l) {c : Int} (hc : 0 ≤ findW l c) (hb : benG c l = []) {w : Writ} (hw : w ∈ l) : ¬ c ∈ above l w.ID := fun hm => by
  have := (ben_above h hc (findW_mem hw)).2 hm
  rw [hb] at this; cases this
theorem revoke_there (h : Inv r) {p : Place} (hm : (revokeR r p).2 = 0) : 0 ≤ findW (revokeR r p).1.Writs (getR r p).1.ID := by
  obtain ⟨hg, he⟩ := revoke_parts hm
  obtain ⟨hpf, hgm, hat, h1, _⟩ := h.get hg
  have hfd := findW_mem hgm
  obtain ⟨_, v, hv, k⟩ := sweep_keep (h.toPre.cut hfd) (at_mem h.good hat.symm (by omega)) (w := (getR r p).1) (mem_cutW.2 ⟨hgm, ben_self h.tree hfd⟩) rfl
  rw [← he] at hv
  exact findW_some.2 ⟨v, hv, k.id⟩
theorem above_at {l : List Writ} (h : TreeOk l) {w : Writ} {c : Int} (hw : w ∈ l) (hc : c ∈ above l w.ID) : 0 ≤ findW l c ∧ ∃ z, l[(findW l c).toNat]? = some z ∧ z ∈ l ∧ NoMore z w := by
  rw [above_of h hw] at hc
  obtain ⟨x, hx, ex, nm⟩ := above_law h w hw hc
  rcases findW_cases l c with ⟨f, n⟩ | ⟨j, hj, f, e, m⟩
  · exact absurd ex (n x hx)
  · have hz : l[j] ∈ l := List.getElem_mem hj
    have : l[j] = x := h.inj hz hx (by rw [e, ex])
    refine ⟨by omega, l[j], ?_, hz, by rw [this]; exact nm⟩
    rw [f, Int.toNat_natCast]; exact List.getElem?_eq_getElem hj
end
end Go.Proofs.Ytoaneidhfcljmaa
