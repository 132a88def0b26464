/-
  The laws of the realm in plain words: notes. No program.
-/
import Derived.Test.YtmbhcpaaaeobmaaTopFacts2
namespace Go.Proofs.Ytmbhcpaaaeobmaa
set_option linter.unusedVariables false
section
variable {r : Realm}
/-- notes that wait at a port -/
def atPort (ns : List Note) (t : Int) : List Note := ns.filter (fun n => n.Port == t)
theorem cut_port {ns : List Note} {t : Int} {i : Nat} {n : Note} (hn : ns[i]? = some n) (hp : n.Port = t) (hb : ∀ (j : Nat) y, j < i → ns[j]? = some y → ¬ y.Port = t) : atPort ns t = n :: atPort (cutN ns i) t := by
  obtain ⟨hi, rfl⟩ := List.getElem?_eq_some_iff.1 hn
  have e : ns = ns.take i ++ ns[i] :: ns.drop (i + 1) := by rw [← List.drop_eq_getElem_cons hi, List.take_append_drop]
  have h0 : (ns.take i).filter (fun n => n.Port == t) = [] := List.filter_eq_nil_iff.2 fun y hy => by
    obtain ⟨j, hj⟩ := List.mem_iff_getElem?.1 hy
    have hjl : j < i := by have := (List.getElem?_eq_some_iff.1 hj).1; rw [List.length_take] at this; omega
    have := hb j y hjl (by rw [List.getElem?_take, if_pos hjl] at hj; exact hj)
    simpa using this
  unfold atPort cutN
  conv => lhs; rw [e]
  rw [List.filter_append, List.filter_append, h0, List.filter_cons, if_pos (by simpa using hp)]
  rfl
theorem may_port (h : Inv r) {q : Place} {v : Writ} (hg : getR r q = (v, 0)) {t : Thing} (ht : t ∈ r.Things) (hid : t.ID = v.Thing) {k n : Int} (hk : t.Kind = k) : (mayR r q k n).2.2 = 0 ∨ (mayR r q k n).2.2 = 7 ∧ hasR v.Rights n = false := by
  have h1 : (getR r q).2 = 0 := by rw [hg]
  have e1 : (getR r q).1 = v := by rw [hg]
  rcases idx_cases (fun y : Thing => y.ID == (getR r q).1.Thing) r.Things with ⟨_, hn⟩ | ⟨i, y, _, hy, he, hb, _⟩
  · have := hn t ht; rw [e1] at this; simp at this; exact absurd hid this
  · have hyt : y = t := by
      have hym := List.mem_of_getElem? hy
      have e2 : y.ID = t.ID := by rw [e1] at he; rw [hid]; simpa using he
      obtain ⟨a, ha⟩ := List.mem_iff_getElem?.1 hym
      obtain ⟨b, hb⟩ := List.mem_iff_getElem?.1 ht
      have hr := List.pairwise_iff_getElem.1 h.trise
      obtain ⟨hal, rfl⟩ := List.getElem?_eq_some_iff.1 ha
      obtain ⟨hbl, rfl⟩ := List.getElem?_eq_some_iff.1 hb
      rcases Nat.lt_trichotomy a b with hl | hl | hl
      · have := hr a b hal hbl hl; omega
      · subst hl; rfl
      · have := hr b a hbl hal hl; omega
    subst hyt
    cases h3 : hasR (getR r q).1.Rights n with
    | false => rw [mayR_right h1 hy he hb hk h3]; rw [e1] at h3; exact .inr ⟨rfl, h3⟩
    | true => rw [mayR_ok h1 hy he hb hk h3]; exact .inl rfl
/-- who takes a note where some wait -/
theorem take_law (h : Inv r) {q : Place} {v : Writ} (hg : getR r q = (v, 0)) {t : Thing} (ht : t ∈ r.Things) (hid : t.ID = v.Thing) (hk : t.Kind = 2) {n : Note} {ns : List Note} (hn : atPort r.Notes v.Thing = n :: ns) :
    ((takeR r q).2.2.2 = 7 ∧ hasR v.Rights 1 = false) ∨ ((takeR r q).2.2.2 = 9 ∧ freeH r.Held q.Holder < 0) ∨
    ((takeR r q).2.2.2 = 0 ∧ (takeR r q).2.1 = n ∧ atPort (takeR r q).1.Notes v.Thing = ns ∧ getR (takeR r q).1 q = (v, 0) ∧ (takeR r q).1.Writs = r.Writs ∧ (takeR r q).1.Things = r.Things ∧
      (0 < n.Writ ∧ 0 ≤ (takeR r q).2.2.1 ∧ placeFault ⟨q.Holder, (takeR r q).2.2.1⟩ = 0 ∧ atH (takeR r q).1.Held ⟨q.Holder, (takeR r q).2.2.1⟩ = n.Writ ∨ n.Writ = 0 ∧ (takeR r q).2.2.1 = -1)) := by
  have h1 : (getR r q).2 = 0 := by rw [hg]
  have e1 : (getR r q).1 = v := by rw [hg]
  obtain ⟨hpf, hvm, hat, hv1, _⟩ := h.get h1
  rw [e1] at hvm hat hv1
  rcases may_port h hg ht hid (k := 2) (n := 1) hk with hm | ⟨hm, hr⟩
  · by_cases h0 : (takeR r q).2.2.2 = 0
    · obtain ⟨_, i, m, hm1, hm2, hm3, hm4, hc⟩ := take_parts h0
      rw [e1] at hm2 hm3
      have hcut := cut_port hm1 hm2 hm3
      rw [hn] at hcut
      injection hcut with hnm hns
      subst hnm
      have hx := h.take h0
      refine .inr (.inr ⟨h0, hm4, ?_⟩)
      rcases hc with ⟨c1, c2, c3, c4⟩ | ⟨c1, c2, c3⟩
      · obtain ⟨k5, ha⟩ := free_at c2
        have hq := fault_same hpf c2 k5
        rw [c3]
        have hne : ¬ q = ⟨q.Holder, freeH r.Held q.Holder⟩ := fun e => by rw [← e] at ha; omega
        have hatq : atH (takeR r q).1.Held q = v.ID := by rw [c4]; show atH (putH r.Held _ _) q = _; rw [put_other h.good hq hne]; exact hat.symm
        refine ⟨by rw [c4]; exact hns.symm, get_of hx.tree hpf (by rw [c4]; exact hvm) hatq, by rw [c4], by rw [c4], .inl ⟨c1, c2, hq, ?_⟩⟩
        rw [c4]; exact put_at h.good hq
      · have := h.nwrit n (List.mem_of_getElem? hm1)
        refine ⟨by rw [c3]; exact hns.symm, get_of hx.tree hpf (by rw [c3]; exact hvm) (by rw [c3]; exact hat.symm), by rw [c3], by rw [c3], .inr ⟨by omega, c2⟩⟩
    · refine .inr (.inl ?_)
      revert h0
      unfold takeR
      rw [if_pos hm, (may_parts hm).2.1, e1]
      rcases idx_cases (fun y : Note => y.Port == v.Thing) r.Notes with ⟨_, hno⟩ | ⟨i, m, hf, hmm, _, _, _⟩
      · have : n ∈ atPort r.Notes v.Thing := by rw [hn]; exact List.mem_cons_self ..
        unfold atPort at this
        obtain ⟨a, b⟩ := List.mem_filter.1 this
        rw [hno n a] at b; cases b
      · have hmm' : r.Notes[i]? = some m := hmm
        have hfi : idxOf (fun n : Note => n.Port == v.Thing) r.Notes = (i : Int) := hf
        rw [hfi, Int.toNat_natCast, hmm', decide_eq_true (by omega)]
        dsimp only
        split
        · split
          · intro _; exact ⟨rfl, by assumption⟩
          · intro hh; exact absurd rfl hh
        · intro hh; exact absurd rfl hh
  · refine .inl ⟨?_, hr⟩
    unfold takeR; rw [if_neg (by omega)]; exact hm
end
end Go.Proofs.Ytmbhcpaaaeobmaa
