/-
  The laws of the realm in plain words: notes, one behind the other. No program.
-/
import Derived.Test.YtmbhcpaaaeobmaaTopFacts6
namespace Go.Proofs.Ytmbhcpaaaeobmaa
set_option linter.unusedVariables false
section
variable {r : Realm}
/-- what is sent -/
theorem send_law (h : Inv r) {p : Place} {d : ByteArray} {s a : Int} (hm : (sendR r p d s a).2 = 0) : ∃ new : Note, (sendR r p d s a).1.Notes = r.Notes ++ [new] ∧ (sendR r p d s a).1.Things = r.Things ∧ new.Port = (getR r p).1.Thing ∧ new.Data = d ∧ new.Badge = (getR r p).1.Badge ∧
    hasR (getR r p).1.Rights 2 = true ∧ (getR r p).2 = 0 ∧ waitN r.Notes (getR r p).1.Thing ≤ 2 ∧ (∃ t ∈ r.Things, t.ID = (getR r p).1.Thing ∧ t.Kind = 2) ∧
    (s < 0 ∧ new.Writ = 0 ∨ 0 ≤ s ∧ 0 < new.Writ ∧ (getR r ⟨p.Holder, s⟩).2 = 0 ∧ hasR (getR r p).1.Rights 4 = true ∧
      ∃ z ∈ (sendR r p d s a).1.Writs, z.ID = new.Writ ∧ z.Thing = (getR r ⟨p.Holder, s⟩).1.Thing ∧ hasR (getR r ⟨p.Holder, s⟩).1.Rights z.Rights = true ∧ z.From = (getR r ⟨p.Holder, s⟩).1.ID ∧ 0 ≤ z.Rights ∧ z.Rights ≤ 7) := by
  obtain ⟨hy, hd, h3, hc⟩ := send_parts hm
  obtain ⟨hg, _, hr2, ht⟩ := may_parts hy
  have hw := h.wait (getR r p).1.Thing
  rcases hc with ⟨h4, he⟩ | ⟨h4, h5, h6, h7, h8, he⟩
  · rw [he]; exact ⟨_, rfl, rfl, rfl, rfl, rfl, hr2, hg, by omega, ht, .inl ⟨h4, rfl⟩⟩
  · obtain ⟨_, hgm2, _⟩ := h.get h6
    obtain ⟨htree, hid, hth, hri, hfr, hha, a0, a7⟩ := h.derive hgm2 h7 h8
    have n1 := h.nw1
    rw [he]
    refine ⟨_, rfl, rfl, rfl, rfl, rfl, hr2, hg, by omega, ht, .inr ⟨h4, by show 0 < (derived _ _ _ _).1.ID; omega, h6, h5, _, List.mem_append.2 (.inr (List.mem_singleton.2 rfl)), rfl, hth, by rw [hri]; exact hha, hfr, by omega, by omega⟩⟩
/-- a realm of which some notes of a port are taken -/
structure NoteI (x m : Realm) (q : Place) (v : Writ) (i : Nat) : Prop where
  inv : Inv m
  sz : Sz (90 + i) m
  writs : m.Writs = x.Writs
  things : m.Things = x.Things
  get : getR m q = (v, 0)
  port : atPort m.Notes v.Thing = (atPort x.Notes v.Thing).drop i
theorem NoteI.step {x m : Realm} {q : Place} {v : Writ} {i : Nat} (h : NoteI x m q v i) {t : Thing} (ht : t ∈ x.Things) (hid : t.ID = v.Thing) (hk : t.Kind = 2) {n : Note} (hn : (atPort x.Notes v.Thing)[i]? = some n) :
    ((takeR m q).2.2.2 = 7 ∧ hasR v.Rights 1 = false) ∨ ((takeR m q).2.2.2 = 9 ∧ freeH m.Held q.Holder < 0) ∨
    ((takeR m q).2.2.2 = 0 ∧ (takeR m q).2.1 = n ∧ NoteI x (takeR m q).1 q v (i + 1) ∧ (0 < n.Writ ∧ 0 ≤ (takeR m q).2.2.1 ∧ placeFault ⟨q.Holder, (takeR m q).2.2.1⟩ = 0 ∧ atH (takeR m q).1.Held ⟨q.Holder, (takeR m q).2.2.1⟩ = n.Writ ∨ n.Writ = 0 ∧ (takeR m q).2.2.1 = -1)) := by
  have hi := (List.getElem?_eq_some_iff.1 hn)
  have hp : atPort m.Notes v.Thing = n :: (atPort x.Notes v.Thing).drop (i + 1) := by
    obtain ⟨hi, e⟩ := hi
    rw [h.port, List.drop_eq_getElem_cons hi, e]
  rcases take_law h.inv h.get (by rw [h.things]; exact ht) hid hk hp with k | k | ⟨k1, k2, k3, k4, k5, k6, k7⟩
  · exact .inl k
  · exact .inr (.inl k)
  · exact .inr (.inr ⟨k1, k2, ⟨h.inv.take k1, (take_sz h.sz q).up (by omega), k5.trans h.writs, k6.trans h.things, k4, k3⟩, k7⟩)
theorem port_snoc {ns : List Note} {n : Note} {t : Int} (h : n.Port = t) : atPort (ns ++ [n]) t = atPort ns t ++ [n] := by
  unfold atPort; rw [List.filter_append]; simp [h]
theorem port_len (ns : List Note) (t : Int) : (atPort ns t).length = waitN ns t := rfl
end
end Go.Proofs.Ytmbhcpaaaeobmaa
