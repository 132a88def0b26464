/-
  The laws of the realm in plain words: what is given, moved, made. No program.
-/
import Derived.Test.YtoaneidhfcljmaaRealmInv3
namespace Go.Proofs.Ytoaneidhfcljmaa
set_option linter.unusedVariables false

theorem grown_facts {l : List Deed} (h : (grownR l).2 = true) : Inv (grownR l).1 ∧ Sz 80 (grownR l).1 := by
  obtain ⟨h1, h2, _⟩ := grown_true h
  rw [h2]; exact ⟨grow_inv l, (grow_sz l).up h1⟩
section
variable {r : Realm}
theorem wat_mem {l : List Writ} (h : TreeOk l) {w : Writ} (hw : w ∈ l) : wat l w.ID = some w := by
  have hf := findW_mem hw
  obtain ⟨x, h1, h2, h3⟩ := findW_at l w.ID hf
  have := h.inj h3 hw h2
  subst this
  exact wat_of (j := (findW l x.ID).toNat) (by omega) h1
/-- who is held where is had there -/
theorem get_of (ht : TreeOk r.Writs) {p : Place} {w : Writ} (hp : placeFault p = 0) (hw : w ∈ r.Writs) (ha : atH r.Held p = w.ID) : getR r p = (w, 0) := by
  unfold getR; rw [if_pos hp, ha, wat_mem ht hw]
theorem get_empty (ht : TreeOk r.Writs) {p : Place} (hp : placeFault p = 0) (ha : atH r.Held p = 0) : getR r p = (zeroW, 5) := by
  unfold getR; rw [if_pos hp, ha]
  have : findW r.Writs 0 = -1 := by
    rcases findW_cases r.Writs 0 with ⟨h1, _⟩ | ⟨k, hk, h1, _⟩
    · exact h1
    · have := ht.find0 (Int.le_refl 0); omega
  rw [wat_no this]
theorem give_law (h : Inv r) {p t : Place} {a b : Int} (hm : (giveR r p t a b).2 = 0) : (getR r p).2 = 0 ∧ (getR (giveR r p t a b).1 t).2 = 0 ∧ hasR (getR r p).1.Rights (getR (giveR r p t a b).1 t).1.Rights = true ∧ (getR (giveR r p t a b).1 t).1.Rights = a ∧ (0 ≤ a ∧ a ≤ 7) ∧
    (getR (giveR r p t a b).1 t).1.From = (getR r p).1.ID ∧ (p.Holder = t.Holder ∨ hasR (getR r p).1.Rights 4 = true) ∧ (getR (giveR r p t a b).1 t).1.ID ∈ benG (getR r p).1.ID (giveR r p t a b).1.Writs := by
  obtain ⟨hg, hf, hr, hw, hd, he⟩ := give_parts hm
  obtain ⟨hp, ha⟩ := free_zero hf
  have hpl := placeFault_zero hp
  obtain ⟨_, hgm, _⟩ := h.get hg
  obtain ⟨htree, hid, hth, hri, hfr, hha, a0, a7⟩ := h.derive hgm hw hd
  rw [he (by omega)]
  generalize hx : (derived (getR r p).1 r.NextWrit a b).1 = x at *
  have hxm : x ∈ r.Writs ++ [x] := List.mem_append.2 (.inr (List.mem_singleton.2 rfl))
  have hgt : getR ⟨r.Writs ++ [x], r.Things, putH r.Held t x.ID, r.Notes, r.NextWrit + 1, r.NextThing⟩ t = (x, 0) := get_of htree hp hxm (put_at h.good hp)
  rw [hgt]
  refine ⟨hg, rfl, by rw [hri]; exact hha, hri, ⟨a0, a7⟩, hfr, hr, ?_⟩
  exact ben_child htree (findW_some.2 ⟨_, List.mem_append.2 (.inl hgm), rfl⟩) hxm hfr
theorem move_law (h : Inv r) {p : Place} {s : Int} (hm : (moveR r p s).2 = 0) : (getR r p).2 = 0 ∧ getR (moveR r p s).1 ⟨p.Holder, s⟩ = ((getR r p).1, 0) ∧ (getR (moveR r p s).1 p).2 = 5 ∧ moveR (moveR r p s).1 ⟨p.Holder, s⟩ p.Slot = (r, 0) := by
  obtain ⟨hg, hf, he⟩ := move_parts hm
  obtain ⟨hp, ha⟩ := free_zero hf
  obtain ⟨hpf, hgm, hat, h1, _⟩ := h.get hg
  have hi : (getR r p).1.ID ≠ 0 := by omega
  have hg1 : Good (putH r.Held p 0) := good_put h.good hpf
  have hne : ¬ (⟨p.Holder, s⟩ : Place) = p := fun e => by rw [e] at ha; omega
  have hg2 : Good (putH (putH r.Held p 0) ⟨p.Holder, s⟩ (getR r p).1.ID) := good_put hg1 hp
  have a1 : atH (putH (putH r.Held p 0) ⟨p.Holder, s⟩ (getR r p).1.ID) ⟨p.Holder, s⟩ = (getR r p).1.ID := put_at hg1 hp
  have a2 : atH (putH (putH r.Held p 0) ⟨p.Holder, s⟩ (getR r p).1.ID) p = 0 := by rw [put_other hg1 hp (fun e => hne e.symm), put_at h.good hpf]
  have e1 : getR (moveR r p s).1 ⟨p.Holder, s⟩ = ((getR r p).1, 0) := by rw [he]; exact get_of (r := ⟨r.Writs, r.Things, putH (putH r.Held p 0) ⟨p.Holder, s⟩ (getR r p).1.ID, r.Notes, r.NextWrit, r.NextThing⟩) h.tree hp hgm a1
  have e2 : getR (moveR r p s).1 p = (zeroW, 5) := by rw [he]; exact get_empty (r := ⟨r.Writs, r.Things, putH (putH r.Held p 0) ⟨p.Holder, s⟩ (getR r p).1.ID, r.Notes, r.NextWrit, r.NextThing⟩) h.tree hpf a2
  refine ⟨hg, e1, by rw [e2], ?_⟩
  have hfree : freeR (moveR r p s).1 ⟨p.Holder, p.Slot⟩ = 0 := by
    show freeR (moveR r p s).1 p = 0
    rw [he]; unfold freeR; rw [if_pos hpf, if_pos a2]
  unfold moveR
  rw [show (if (getR r p).2 = 0 then _ else _ : Realm × Int) = moveR r p s from rfl]
  rw [if_pos (by rw [e1]), if_pos hfree, e1]
  have hh : putH (putH (moveR r p s).1.Held ⟨p.Holder, s⟩ 0) ⟨p.Holder, p.Slot⟩ (getR r p).1.ID = r.Held := by
    rw [he]; dsimp only
    have hg3 := good_put (id := 0) hg2 hp
    refine good_ext (good_put hg3 hpf) h.good fun q => ?_
    by_cases hq : q = p
    · subst hq; rw [show (⟨q.Holder, q.Slot⟩ : Place) = q from rfl, put_at hg3 hpf]; exact hat
    · rw [show (⟨p.Holder, p.Slot⟩ : Place) = p from rfl, put_other hg3 hpf hq]
      by_cases hq2 : q = ⟨p.Holder, s⟩
      · subst hq2; rw [put_at hg2 hp, ha]
      · rw [put_other hg2 hp hq2, put_other hg1 hp hq2, put_other h.good hpf hq]
  rw [hh, he]
end
end Go.Proofs.Ytoaneidhfcljmaa
