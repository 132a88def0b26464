/-
  The laws of the realm in plain words: cells. No program.
-/
import Derived.Test.YtmbhcpaaaeobmaaTopFacts2
namespace Go.Proofs.Ytmbhcpaaaeobmaa
set_option linter.unusedVariables false
section
variable {r : Realm}
theorem set_at (l : List Thing) (k : Nat) (d : ByteArray) (j : Nat) : (setData l k d)[j]? = (l[j]?).map (fun t => if j = k then ⟨t.ID, t.Kind, d⟩ else t) := by
  unfold setData
  split
  · rename_i t ht
    rw [List.getElem?_set]
    by_cases e : k = j
    · subst e
      rw [if_pos rfl, if_pos (List.getElem?_eq_some_iff.1 ht).1, ht]; simp
    · rw [if_neg e]
      cases l[j]? with
      | none => rfl
      | some y => rw [Option.map_some, if_neg (fun h => e h.symm)]
  · rename_i hn
    by_cases e : j = k
    · subst e; rw [hn]; rfl
    · cases l[j]? with
      | none => rfl
      | some y => simp [e]
theorem set_may (k : Nat) (d : ByteArray) (q : Place) (kind n : Int) : mayR ⟨r.Writs, setData r.Things k d, r.Held, r.Notes, r.NextWrit, r.NextThing⟩ q kind n = mayR r q kind n := by
  have hg : getR ⟨r.Writs, setData r.Things k d, r.Held, r.Notes, r.NextWrit, r.NextThing⟩ q = getR r q := rfl
  by_cases h1 : (getR r q).2 = 0
  · have hat := fun (j : Nat) => set_at r.Things k d j
    rcases idx_cases (fun t : Thing => t.ID == (getR r q).1.Thing) r.Things with ⟨_, hn⟩ | ⟨i, t, _, ht, he, hb, _⟩
    · rw [mayR_none h1 hn, mayR_none (by rw [hg]; exact h1) (fun x hx => by
        rw [hg]
        obtain ⟨j, y, hj, a, _⟩ := mem_set hx
        have := hn y (List.mem_of_getElem? hj)
        rw [a]; exact this)]
    · have ht' : (setData r.Things k d)[i]? = some (if i = k then ⟨t.ID, t.Kind, d⟩ else t) := by rw [hat, ht]; rfl
      have e1 : (if i = k then (⟨t.ID, t.Kind, d⟩ : Thing) else t).ID = t.ID := by split <;> rfl
      have e2 : (if i = k then (⟨t.ID, t.Kind, d⟩ : Thing) else t).Kind = t.Kind := by split <;> rfl
      have hb' : ∀ (j : Nat) y, j < i → (setData r.Things k d)[j]? = some y → (y.ID == (getR r q).1.Thing) = false := fun j y hj hy => by
        rw [hat] at hy
        cases hq : r.Things[j]? with
        | none => rw [hq] at hy; cases hy
        | some z =>
          rw [hq] at hy
          simp only [Option.map_some, Option.some.injEq] at hy
          have hz := hb j z hj hq
          rw [← hy]; split <;> exact hz
      by_cases h2 : t.Kind = kind
      · cases h3 : hasR (getR r q).1.Rights n with
        | false => rw [mayR_right h1 ht he hb h2 h3, mayR_right (r := ⟨r.Writs, setData r.Things k d, r.Held, r.Notes, r.NextWrit, r.NextThing⟩) (by rw [hg]; exact h1) ht' (by rw [e1, hg]; exact he) hb' (by rw [e2]; exact h2) (by rw [hg]; exact h3)]
        | true =>
          rw [mayR_ok h1 ht he hb h2 h3, mayR_ok (r := ⟨r.Writs, setData r.Things k d, r.Held, r.Notes, r.NextWrit, r.NextThing⟩) (by rw [hg]; exact h1) ht' (by rw [e1, hg]; exact he) hb' (by rw [e2]; exact h2) (by rw [hg]; exact h3), hg]
      · rw [mayR_kind h1 ht he hb h2, mayR_kind (r := ⟨r.Writs, setData r.Things k d, r.Held, r.Notes, r.NextWrit, r.NextThing⟩) (by rw [hg]; exact h1) ht' (by rw [e1, hg]; exact he) hb' (by rw [e2]; exact h2)]
  · rw [mayR_bad h1, mayR_bad (by rw [hg]; exact h1), hg]
theorem read_zero {q : Place} (h : (readR r q).2 = 0) : (mayR r q 1 1).2.2 = 0 := by
  by_cases h1 : (mayR r q 1 1).2.2 = 0
  · exact h1
  · unfold readR at h; rw [if_neg h1] at h; exact h
theorem read_ok {q : Place} (h : (mayR r q 1 1).2.2 = 0) : ∃ (i : Nat) (t : Thing), r.Things[i]? = some t ∧ t.ID = (getR r q).1.Thing ∧ (mayR r q 1 1).2.1 = (i : Int) ∧ readR r q = (t.Data, 0) ∧ ∀ (j : Nat) y, j < i → r.Things[j]? = some y → ¬ y.ID = (getR r q).1.Thing := by
  obtain ⟨_, _, _, i, t, hi, ht, e, _, hb⟩ := mayR_zero h
  refine ⟨i, t, ht, e, hi, ?_, hb⟩
  unfold readR; rw [if_pos h, hi, Int.toNat_natCast, ht]
theorem write_law {p : Place} {d : ByteArray} (hm : (writeR r p d).2 = 0) : (getR r p).2 = 0 ∧ hasR (getR r p).1.Rights 2 = true ∧ d.size ≤ 8 := by
  obtain ⟨hy, hd, _⟩ := write_parts hm
  obtain ⟨h1, _, h3, _⟩ := may_parts hy
  exact ⟨h1, h3, hd⟩
theorem read_law {q : Place} (hm : (readR r q).2 = 0) : (getR r q).2 = 0 ∧ hasR (getR r q).1.Rights 1 = true := by
  obtain ⟨h1, _, h3, _⟩ := may_parts (read_zero hm)
  exact ⟨h1, h3⟩
theorem cell_law {p q : Place} {d : ByteArray} (hm : (writeR r p d).2 = 0) : (writeR r p d).1.Writs = r.Writs ∧ (readR (writeR r p d).1 q).2 = (readR r q).2 ∧
    (¬ (readR r q).2 = 0 → (readR (writeR r p d).1 q).1 = ⟨#[]⟩) ∧
    ((readR r q).2 = 0 → ((getR r p).1.Thing = (getR r q).1.Thing → (readR (writeR r p d).1 q).1 = d) ∧ (¬ (getR r p).1.Thing = (getR r q).1.Thing → (readR (writeR r p d).1 q).1 = (readR r q).1)) := by
  obtain ⟨hy, hd, he⟩ := write_parts hm
  obtain ⟨_, _, _, k, t, hk, ht, htid, _, htb⟩ := mayR_zero hy
  rw [hk, Int.toNat_natCast] at he
  have hmay : mayR (writeR r p d).1 q 1 1 = mayR r q 1 1 := by rw [he]; exact set_may k d q 1 1
  refine ⟨by rw [he], ?_⟩
  by_cases h1 : (mayR r q 1 1).2.2 = 0
  · obtain ⟨i, y, hy1, hy2, hi, hr, hb⟩ := read_ok h1
    have hx : (writeR r p d).1.Things[i]? = some (if i = k then ⟨y.ID, y.Kind, d⟩ else y) := by
      rw [he]; show (setData r.Things k d)[i]? = _; rw [set_at, hy1]; rfl
    have hrx : readR (writeR r p d).1 q = ((if i = k then (⟨y.ID, y.Kind, d⟩ : Thing) else y).Data, 0) := by
      unfold readR; rw [hmay, if_pos h1, hi, Int.toNat_natCast, hx]
    rw [hrx, hr]
    refine ⟨rfl, fun hn => absurd rfl hn, fun _ => ⟨fun e => ?_, fun e => ?_⟩⟩
    · have hik : i = k := by
        rcases Nat.lt_trichotomy i k with h2 | h2 | h2
        · exact absurd (by rw [hy2, e]) (htb i y h2 hy1)
        · exact h2
        · exact absurd (by rw [htid, e]) (hb k t h2 ht)
      rw [if_pos hik]
    · have hik : ¬ i = k := fun e2 => by
        subst e2; rw [hy1] at ht; injection ht with ht
        subst ht; exact e (by rw [← htid, hy2])
      rw [if_neg hik]
  · have e1 : readR r q = (⟨#[]⟩, (mayR r q 1 1).2.2) := by unfold readR; rw [if_neg h1]
    have e2 : readR (writeR r p d).1 q = (⟨#[]⟩, (mayR r q 1 1).2.2) := by unfold readR; rw [hmay, if_neg h1]
    rw [e1, e2]
    exact ⟨rfl, fun _ => rfl, fun h => absurd h h1⟩
end
end Go.Proofs.Ytmbhcpaaaeobmaa
