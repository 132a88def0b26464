/-
  The laws of the realm in plain words: what is revoked. No program.
-/
import Derived.Test.YtoaneidhfcljmaaTopFacts2
namespace Go.Proofs.Ytoaneidhfcljmaa
set_option linter.unusedVariables false
section
variable {r : Realm}
theorem chain_from {l : List Writ} {c : Int} (f : Int) (h : c ∈ chain l f) : f = c ∨ ∃ y ∈ l, y.From = c := by
  rw [chain] at h
  split at h
  · rename_i hf
    rcases List.mem_cons.1 h with e | h
    · exact .inl e.symm
    · rcases chain_from (fromOf l f) h with e | e
      · obtain ⟨y, _, _, hy, e2⟩ := fromOf_at hf.1
        exact .inr ⟨y, hy, by rw [← e2]; exact e⟩
      · exact .inr e
  · cases h
termination_by f.toNat
decreasing_by omega
theorem ben_mem {l : List Writ} (h : TreeOk l) {c g : Int} (hg : g ∈ benG c l) : ∃ y ∈ l, y.ID = g := by
  rw [benG_eq h] at hg
  unfold beneath benR at hg
  obtain ⟨y, hy, e⟩ := List.mem_map.1 hg
  exact ⟨y, (List.mem_filter.1 hy).1, e⟩
theorem ben_nil {l : List Writ} (h : TreeOk l) {c : Int} (hc : 0 ≤ findW l c) (hn : ∀ y ∈ l, y.From ≠ c) : benG c l = [] := by
  refine List.eq_nil_iff_forall_not_mem.2 fun g hg => ?_
  obtain ⟨y, hy, e⟩ := ben_mem h hg
  have hgf : 0 ≤ findW l g := findW_some.2 ⟨y, hy, e⟩
  have := (ben_above h hc hgf).1 hg
  unfold above at this
  obtain ⟨z, _, _, hz, e2⟩ := fromOf_at hgf
  rcases chain_from _ this with e3 | ⟨u, hu, e3⟩
  · exact hn z hz (by rw [← e2]; exact e3)
  · exact hn u hu e3
theorem wo_child {l : List Writ} {c : Int} (h0 : c ≠ 0) (hn : ∀ y ∈ l, y.From ≠ c) (id : Int) : ∀ y ∈ without l id, y.From ≠ c := fun y hy => by
  obtain ⟨z, hz, _, rfl⟩ := mem_without.1 hy
  rw [woRe_from]
  split
  · rcases Int.lt_or_le (findW l id) 0 with h1 | h1
    · rw [fromOf_out h1]; exact fun e => h0 e.symm
    · obtain ⟨u, _, _, hu, e⟩ := fromOf_at h1
      rw [e]; exact hn u hu
  · exact hn z hz
theorem fold_child {c : Int} (h0 : c ≠ 0) : ∀ (ids : List Int) (l : List Writ), (∀ y ∈ l, y.From ≠ c) → ∀ y ∈ ids.foldl without l, y.From ≠ c
  | [], l, h => h
  | i :: ids, l, h => fold_child h0 ids _ (wo_child h0 h i)
theorem sweepGo_child {c : Int} (h0 : c ≠ 0) : ∀ (n : Nat) (r : Realm), (∀ y ∈ r.Writs, y.From ≠ c) → ∀ y ∈ (sweepGo n r).Writs, y.From ≠ c
  | 0, r, h => h
  | n + 1, r, h => by
    unfold sweepGo; split
    · exact h
    · exact sweepGo_child h0 n (sweepN r) (fold_child h0 _ _ h)
theorem revoke_law (h : Inv r) {p : Place} (hm : (revokeR r p).2 = 0) : benG (getR r p).1.ID (revokeR r p).1.Writs = [] ∧ (∀ g ∈ benG (getR r p).1.ID r.Writs, findW (revokeR r p).1.Writs g < 0 ∧ (∀ x ∈ (revokeR r p).1.Held, x.Writ ≠ g) ∧ ∀ n ∈ (revokeR r p).1.Notes, n.Writ ≠ g) ∧
    ∀ x ∈ r.Held, ¬ x.Writ ∈ benG (getR r p).1.ID r.Writs → atH (revokeR r p).1.Held x.Place = x.Writ := by
  have hx := h.revoke hm
  obtain ⟨hg, he⟩ := revoke_parts hm
  obtain ⟨hpf, hgm, hat, h1, _⟩ := h.get hg
  have hfd := findW_mem hgm
  have hpre := h.toPre.cut hfd
  have hsub := sweep_sub ⟨cutW r.Writs (getR r p).1.ID, r.Things, r.Held, r.Notes, r.NextWrit, r.NextThing⟩
  rw [← he] at hsub
  have hgone : ∀ g ∈ benG (getR r p).1.ID r.Writs, ∀ v ∈ (revokeR r p).1.Writs, v.ID ≠ g := fun g hgb v hv e => by
    obtain ⟨y, hy, k⟩ := hsub.2.1 v hv
    exact (mem_cutW.1 hy).2 (by rw [← k.id, e]; exact hgb)
  have hkeep : ∀ x ∈ r.Held, ¬ x.Writ ∈ benG (getR r p).1.ID r.Writs → x ∈ (revokeR r p).1.Held ∧ ∃ v ∈ (revokeR r p).1.Writs, v.ID = x.Writ := fun x hxm hn => by
    obtain ⟨u, hu, e⟩ := h.hthere x hxm
    obtain ⟨k1, v, hv, k⟩ := sweep_keep hpre hxm (w := u) (mem_cutW.2 ⟨hu, by rw [e]; exact hn⟩) e
    rw [← he] at k1 hv
    exact ⟨k1, v, hv, by rw [k.id, e]⟩
  refine ⟨?_, fun g hgb => ⟨findW_none' (hgone g hgb), fun x hxm e => ?_, fun n hn e => ?_⟩, fun x hxm hn => mem_at hx.good (hkeep x hxm hn).1⟩
  · refine ben_nil hx.tree ?_ ?_
    · obtain ⟨_, v, hv, e⟩ := hkeep _ (at_mem h.good hat.symm (by omega)) (ben_self h.tree hfd)
      exact findW_some.2 ⟨v, hv, e⟩
    · rw [he]
      refine sweepGo_child (by omega) _ _ fun y hy e => ?_
      obtain ⟨a, b⟩ := mem_cutW.1 hy
      exact b (ben_child h.tree hfd a e)
  · obtain ⟨v, hv, e2⟩ := hx.hthere x hxm
    exact hgone g hgb v hv (by rw [e2, e])
  · obtain ⟨y, hy, e2⟩ := ben_mem h.tree hgb
    have := (h.tree.mem hy).id1
    obtain ⟨v, hv, e3⟩ := hx.nthere n hn (by omega)
    exact hgone g hgb v hv (by rw [e3, e])
end
end Go.Proofs.Ytoaneidhfcljmaa
