import Derived.Test.YtpipachmngdegaaGreatRealmSaysProofG41
section
/-
  What holds of every realm that grows, on: sending, taking; every act; every realm that grows. No program.
-/
namespace Go.Proofs.YtpipachmngdegaaGreat
set_option linter.unusedVariables false
section
variable {r : Realm}
theorem wait_snoc (ns : List Note) (n : Note) (q : Int) : waitN (ns ++ [n]) q = waitN ns q + (if n.Port = q then 1 else 0) := by
  unfold waitN; rw [List.filter_append, List.length_append]
  by_cases h : n.Port = q
  · rw [if_pos h]; simp [h]
  · rw [if_neg h]; simp [h]
theorem cN_snoc (ns : List Note) (n : Note) (j : Int) : cN (ns ++ [n]) j = cN ns j + (if n.Writ = j then 1 else 0) := by
  unfold cN; rw [List.countP_append, List.countP_cons]
  by_cases h : n.Writ = j
  · rw [if_pos (by simpa using h), if_pos h]; simp
  · rw [if_neg (by simpa using h), if_neg h]; simp
theorem may_parts {p : Place} {k q : Int} (h : (mayR r p k q).2.2 = 0) : (getR r p).2 = 0 ∧ (mayR r p k q).1 = (getR r p).1 ∧ hasR (getR r p).1.Rights q = true ∧ ∃ t ∈ r.Things, t.ID = (getR r p).1.Thing ∧ t.Kind = k := by
  obtain ⟨h1, h2, h3, i, t, _, ht, e, e2, _⟩ := mayR_zero h
  exact ⟨h1, h2, h3, t, List.mem_of_getElem? ht, e, e2⟩
/-! ### sending -/
theorem send_parts {p : Place} {d : ByteArray} {s a : Int} (h : (sendR r p d s a).2 = 0) : (mayR r p 2 2).2.2 = 0 ∧ d.size ≤ 8 ∧ waitN r.Notes (getR r p).1.Thing ≠ 3 ∧
    (s < 0 ∧ (sendR r p d s a).1 = ⟨r.Writs, r.Things, r.Held, r.Notes ++ [⟨(getR r p).1.Thing, d, (getR r p).1.Badge, 0⟩], r.NextWrit, r.NextThing⟩ ∨
     0 ≤ s ∧ hasR (getR r p).1.Rights 4 = true ∧ (getR r ⟨p.Holder, s⟩).2 = 0 ∧ r.NextWrit ≤ 999 ∧ (derived (getR r ⟨p.Holder, s⟩).1 r.NextWrit a 0).2 = 0 ∧
     (sendR r p d s a).1 = ⟨r.Writs ++ [(derived (getR r ⟨p.Holder, s⟩).1 r.NextWrit a 0).1], r.Things, r.Held, r.Notes ++ [⟨(getR r p).1.Thing, d, (getR r p).1.Badge, (derived (getR r ⟨p.Holder, s⟩).1 r.NextWrit a 0).1.ID⟩], r.NextWrit + 1, r.NextThing⟩) := by
  unfold sendR at h ⊢
  by_cases h1 : (mayR r p 2 2).2.2 = 0
  · have he := (may_parts h1).2.1
    rw [if_pos h1] at h ⊢
    by_cases h2 : 8 < d.size
    · rw [if_pos h2] at h; simp at h
    · rw [if_neg h2] at h ⊢
      by_cases h3 : waitN r.Notes (mayR r p 2 2).1.Thing = 3
      · rw [if_pos h3] at h; simp at h
      · rw [if_neg h3] at h ⊢
        rw [he] at h3
        by_cases h4 : s < 0
        · rw [if_pos h4, he]; exact ⟨h1, by omega, h3, .inl ⟨h4, rfl⟩⟩
        · rw [if_neg h4] at h ⊢
          by_cases h5 : hasR (mayR r p 2 2).1.Rights 4 = true
          · rw [if_pos h5] at h ⊢
            by_cases h6 : (getR r ⟨p.Holder, s⟩).2 = 0
            · rw [if_pos h6] at h ⊢
              by_cases h7 : 999 < r.NextWrit
              · rw [if_pos h7] at h; simp at h
              · rw [if_neg h7] at h ⊢
                by_cases h8 : (derived (getR r ⟨p.Holder, s⟩).1 r.NextWrit a 0).2 = 0
                · rw [if_pos h8, he]; rw [he] at h5
                  exact ⟨h1, by omega, h3, .inr ⟨by omega, h5, h6, by omega, h8, rfl⟩⟩
                · rw [if_neg h8] at h; exact absurd h h8
            · rw [if_neg h6] at h; exact absurd h h6
          · rw [if_neg h5] at h; simp at h
  · rw [if_neg h1] at h; exact absurd h h1
theorem Inv.send (h : Inv r) {p : Place} {d : ByteArray} {s a : Int} (hm : (sendR r p d s a).2 = 0) : Inv (sendR r p d s a).1 := by
  obtain ⟨hy, hd, h3, hc⟩ := send_parts hm
  obtain ⟨hg, _, _, t, ht, hti, htk⟩ := may_parts hy
  obtain ⟨_, hgm, _⟩ := h.get hg
  have hw := h.tree.mem hgm
  have hwait : ∀ q, waitN r.Notes q + (if (getR r p).1.Thing = q then 1 else 0) ≤ 3 := fun q => by
    have := h.wait q
    split
    · rename_i e; rw [e] at h3; omega
    · omega
  have hport : ∀ (k : Int) (n : Note), n ∈ r.Notes ++ [⟨(getR r p).1.Thing, d, (getR r p).1.Badge, k⟩] → ∃ t ∈ r.Things, t.ID = n.Port ∧ t.Kind = 2 := fun k n hn => by
    rcases List.mem_append.1 hn with hn | hn
    · exact h.port n hn
    · rw [List.mem_singleton.1 hn]; exact ⟨t, ht, hti, htk⟩
  have hnd : ∀ (k : Int) (n : Note), n ∈ r.Notes ++ [⟨(getR r p).1.Thing, d, (getR r p).1.Badge, k⟩] → n.Data.size ≤ 8 ∧ 0 ≤ n.Badge ∧ n.Badge ≤ 99 := fun k n hn => by
    rcases List.mem_append.1 hn with hn | hn
    · exact h.ndata n hn
    · rw [List.mem_singleton.1 hn]; exact ⟨hd, hw.ba0, hw.ba9⟩
  rcases hc with ⟨h4, he⟩ | ⟨h4, h5, h6, h7, h8, he⟩
  · rw [he]
    refine { tree := h.tree, good := h.good, wlt := h.wlt, nw1 := h.nw1, nw2 := h.nw2, nt1 := h.nt1, nt2 := h.nt2, trise := h.trise, tlt := h.tlt, tkind := h.tkind, tdata := h.tdata, tmax := h.tmax, thing := h.thing, port := hport 0, ndata := hnd 0, wait := fun q => ?_, nwrit := ?_, once := ?_, nthere := ?_, hthere := h.hthere, used := h.used }
    · show waitN (r.Notes ++ [_]) q ≤ 3; rw [wait_snoc]; exact hwait q
    · intro n hn
      rcases List.mem_append.1 hn with hn | hn
      · exact h.nwrit n hn
      · rw [List.mem_singleton.1 hn]; exact Int.le_refl 0
    · intro w hw
      show cH r.Held w.ID + cN (r.Notes ++ [_]) w.ID = 1
      have := h.once w hw; have := (h.tree.mem hw).id1
      rw [cN_snoc, if_neg (by dsimp only; omega)]; omega
    · intro n hn h0
      rcases List.mem_append.1 hn with hn | hn
      · exact h.nthere n hn h0
      · rw [List.mem_singleton.1 hn] at h0; exact absurd h0 (by dsimp only; omega)
  · obtain ⟨_, hgm2, _⟩ := h.get h6
    obtain ⟨htree, hid, hth, _⟩ := h.derive hgm2 h7 h8
    rw [he]
    generalize hx : (derived (getR r ⟨p.Holder, s⟩).1 r.NextWrit a 0).1 = x at *
    have n1 := h.nw1; have hfr := h.fresh
    refine { tree := htree, good := h.good, wlt := ?_, nw1 := by show 1 ≤ r.NextWrit + 1; omega, nw2 := by show r.NextWrit + 1 ≤ 1000; omega, nt1 := h.nt1, nt2 := h.nt2, trise := h.trise, tlt := h.tlt, tkind := h.tkind, tdata := h.tdata, tmax := h.tmax, thing := ?_, port := hport x.ID, ndata := hnd x.ID, wait := fun q => ?_, nwrit := ?_, once := ?_, nthere := ?_, hthere := ?_, used := ?_ }
    · intro w hw
      show w.ID < r.NextWrit + 1
      rcases List.mem_append.1 hw with hw | hw
      · have := h.wlt w hw; omega
      · rw [List.mem_singleton.1 hw, hid]; omega
    · intro w hw
      rcases List.mem_append.1 hw with hw | hw
      · exact h.thing w hw
      · rw [List.mem_singleton.1 hw, hth]; exact h.thing _ hgm2
    · show waitN (r.Notes ++ [_]) q ≤ 3; rw [wait_snoc]; exact hwait q
    · intro n hn
      rcases List.mem_append.1 hn with hn | hn
      · exact h.nwrit n hn
      · rw [List.mem_singleton.1 hn]; show 0 ≤ x.ID; omega
    · intro w hw
      show cH r.Held w.ID + cN (r.Notes ++ [_]) w.ID = 1
      rw [cN_snoc]; dsimp only
      rcases List.mem_append.1 hw with hw | hw
      · have := h.wlt w hw; have := h.once w hw
        rw [if_neg (by omega)]; omega
      · rw [List.mem_singleton.1 hw, if_pos rfl, hid]; omega
    · intro n hn h0
      rcases List.mem_append.1 hn with hn | hn
      · obtain ⟨w, hw, e⟩ := h.nthere n hn h0
        exact ⟨w, List.mem_append.2 (.inl hw), e⟩
      · rw [List.mem_singleton.1 hn]; exact ⟨x, List.mem_append.2 (.inr (List.mem_singleton.2 rfl)), rfl⟩
    · intro y hy
      obtain ⟨w, hw, e⟩ := h.hthere y hy
      exact ⟨w, List.mem_append.2 (.inl hw), e⟩
    · intro t ht
      obtain ⟨w, hw, e⟩ := h.used t ht
      exact ⟨w, List.mem_append.2 (.inl hw), e⟩
/-! ### taking -/
theorem take_parts {p : Place} (h : (takeR r p).2.2.2 = 0) : (mayR r p 2 1).2.2 = 0 ∧ ∃ (i : Nat) (n : Note), r.Notes[i]? = some n ∧ n.Port = (getR r p).1.Thing ∧ (∀ (j : Nat) y, j < i → r.Notes[j]? = some y → ¬ y.Port = (getR r p).1.Thing) ∧ (takeR r p).2.1 = n ∧
    (0 < n.Writ ∧ 0 ≤ freeH r.Held p.Holder ∧ (takeR r p).2.2.1 = freeH r.Held p.Holder ∧ (takeR r p).1 = ⟨r.Writs, r.Things, putH r.Held ⟨p.Holder, freeH r.Held p.Holder⟩ n.Writ, cutN r.Notes i, r.NextWrit, r.NextThing⟩ ∨
     n.Writ ≤ 0 ∧ (takeR r p).2.2.1 = -1 ∧ (takeR r p).1 = ⟨r.Writs, r.Things, r.Held, cutN r.Notes i, r.NextWrit, r.NextThing⟩) := by
  unfold takeR at h ⊢
  by_cases h1 : (mayR r p 2 1).2.2 = 0
  · have he := (may_parts h1).2.1
    rw [if_pos h1] at h ⊢
    rw [he] at h ⊢
    rcases idx_cases (fun n : Note => n.Port == (getR r p).1.Thing) r.Notes with ⟨hf, hn⟩ | ⟨i, n, hf, hn, hp, hb, _⟩
    · rw [hf, show decide ((0 : Int) ≤ -1) = false from rfl] at h
      cases hq : r.Notes[(-1 : Int).toNat]? <;> rw [hq] at h <;> simp at h
    · have hn' : r.Notes[i]? = some n := hn
      have hfi : idxOf (fun n : Note => n.Port == (getR r p).1.Thing) r.Notes = (i : Int) := hf
      rw [hfi, Int.toNat_natCast, hn', decide_eq_true (by omega)] at h ⊢
      dsimp only at h ⊢
      refine ⟨h1, i, n, hn', by simpa using hp, fun j y hj hy => by simpa using hb j y hj hy, ?_⟩
      by_cases h2 : 0 < n.Writ
      · rw [if_pos h2] at h ⊢
        by_cases h3 : freeH r.Held p.Holder < 0
        · rw [if_pos h3] at h; simp at h
        · rw [if_neg h3]; exact ⟨rfl, .inl ⟨h2, by omega, rfl, rfl⟩⟩
      · rw [if_neg h2]; exact ⟨rfl, .inr ⟨by omega, rfl, rfl⟩⟩
  · rw [if_neg h1] at h; exact absurd h h1
theorem free_at {l : List Held} {h : Int} (hf : 0 ≤ freeH l h) : freeH l h ≤ 5 ∧ atH l ⟨h, freeH l h⟩ = 0 := by
  rcases free_spec l h with ⟨a, _⟩ | ⟨_, b, c, _⟩
  · omega
  · exact ⟨b, c⟩
theorem fault_same {p : Place} {k : Int} (h : placeFault p = 0) (h0 : 0 ≤ k) (h5 : k ≤ 5) : placeFault ⟨p.Holder, k⟩ = 0 := by
  have := placeFault_zero h
  unfold placeFault; dsimp only; split <;> first | rfl | omega
theorem Inv.notes (h : Inv r) {m : List Held} {ns : List Note} (hg : Good m) (hc : ∀ w ∈ r.Writs, cH m w.ID + cN ns w.ID = 1) (hs : ∀ x ∈ m, ∃ w ∈ r.Writs, w.ID = x.Writ) (hn : ∀ n ∈ ns, n ∈ r.Notes) (hw : ∀ q, waitN ns q ≤ waitN r.Notes q) : Inv ⟨r.Writs, r.Things, m, ns, r.NextWrit, r.NextThing⟩ :=
  { tree := h.tree, good := hg, wlt := h.wlt, nw1 := h.nw1, nw2 := h.nw2, nt1 := h.nt1, nt2 := h.nt2, trise := h.trise, tlt := h.tlt, tkind := h.tkind, tdata := h.tdata, tmax := h.tmax, thing := h.thing, port := fun n k => h.port n (hn n k), ndata := fun n k => h.ndata n (hn n k), wait := fun q => Nat.le_trans (hw q) (h.wait q), nwrit := fun n k => h.nwrit n (hn n k), once := hc, nthere := fun n k => h.nthere n (hn n k), hthere := hs, used := h.used }
theorem Inv.take (h : Inv r) {p : Place} (hm : (takeR r p).2.2.2 = 0) : Inv (takeR r p).1 := by
  obtain ⟨hy, i, n, hn, hp, hb, _, hc⟩ := take_parts hm
  obtain ⟨hg, _⟩ := may_parts hy
  obtain ⟨hpf, _⟩ := h.get hg
  have hcut := fun j => cN_cut hn j
  have hsub : ∀ x ∈ cutN r.Notes i, x ∈ r.Notes := fun x hx => mem_cut hx
  rcases hc with ⟨h0, hf, _, he⟩ | ⟨h0, _, he⟩
  · rw [he]
    obtain ⟨h5, ha⟩ := free_at hf
    have hi : n.Writ ≠ 0 := by omega
    have hq := fault_same hpf hf h5
    refine h.notes (good_put h.good hq) (fun w hw => ?_) (fun x hx => ?_) hsub (fun q => waitN_cut q)
    · rw [cH_new h.good ha hi]
      have h1 := h.once w hw; have h2 := hcut w.ID
      omega
    · rcases (mem_putN h.good ha hi).1 hx with e | hx
      · rw [e]; exact h.nthere n (List.mem_of_getElem? hn) h0
      · exact h.hthere x hx
  · rw [he]
    refine h.notes h.good (fun w hw => ?_) h.hthere hsub (fun q => waitN_cut q)
    have h1 := h.once w hw; have h2 := hcut w.ID; have h3 := (h.tree.mem hw).id1
    rw [if_neg (by omega)] at h2
    omega
/-! ### every act, every realm that grows -/
theorem Inv.do (h : Inv r) {a : Deed} (hm : (doR r a).2 = 0) : Inv (doR r a).1 := by
  unfold doR at hm ⊢
  by_cases h1 : a.Kind = (⟨#[109, 97, 107, 101]⟩ : ByteArray)
  · rw [if_pos h1] at hm ⊢; exact h.make hm
  · rw [if_neg h1] at hm ⊢
    by_cases h2 : a.Kind = (⟨#[103, 105, 118, 101]⟩ : ByteArray)
    · rw [if_pos h2] at hm ⊢; exact h.give hm
    · rw [if_neg h2] at hm ⊢
      by_cases h3 : a.Kind = (⟨#[109, 111, 118, 101]⟩ : ByteArray)
      · rw [if_pos h3] at hm ⊢; exact h.move hm
      · rw [if_neg h3] at hm ⊢
        by_cases h4 : a.Kind = (⟨#[100, 114, 111, 112]⟩ : ByteArray)
        · rw [if_pos h4] at hm ⊢; exact h.drop hm
        · rw [if_neg h4] at hm ⊢
          by_cases h5 : a.Kind = (⟨#[114, 101, 118, 111, 107, 101]⟩ : ByteArray)
          · rw [if_pos h5] at hm ⊢; exact h.revoke hm
          · rw [if_neg h5] at hm ⊢
            by_cases h6 : a.Kind = (⟨#[119, 114, 105, 116, 101]⟩ : ByteArray)
            · rw [if_pos h6] at hm ⊢; exact h.write hm
            · rw [if_neg h6] at hm ⊢
              by_cases h7 : a.Kind = (⟨#[115, 101, 110, 100]⟩ : ByteArray)
              · rw [if_pos h7] at hm ⊢; exact h.send hm
              · rw [if_neg h7] at hm ⊢
                by_cases h8 : a.Kind = (⟨#[116, 97, 107, 101]⟩ : ByteArray)
                · rw [if_pos h8] at hm ⊢; exact h.take hm
                · rw [if_neg h8]; exact h
theorem grow_inv (l : List Deed) : Inv (grow l) := grow_ind (fun _ r => Inv r) Inv.new (fun k r a h => by
  unfold stepR; split
  · exact h.do (by assumption)
  · exact h) l
theorem held_len (h : Inv r) : r.Held.length ≤ 24 := good_len h.good
theorem sum_le {l : List Note} : l.length ≤ l.length := Nat.le_refl _
end
end Go.Proofs.YtpipachmngdegaaGreat
end
