import Derived.Test.YtpipachmngdegaaGreatRealmSaysProofG43
section
/-
  The laws of the realm in plain words: when it is quiet. No program.
-/
namespace Go.Proofs.YtpipachmngdegaaGreat
set_option linter.unusedVariables false
section
variable {r : Realm}
theorem quietW_tree : ∀ (ns : List Note) (l : List Writ), TreeOk l → TreeOk (quietW ns l)
  | [], l, h => h
  | n :: ns, l, h => by
    show TreeOk (quietW ns (if 0 < n.Writ then without l n.Writ else l))
    refine quietW_tree ns _ ?_
    split
    · exact h.wo _
    · exact h
theorem mem_quietW : ∀ (ns : List Note) (l : List Writ) (w : Writ), w ∈ quietW ns l → (∃ y ∈ l, Like w y) ∧ ∀ n ∈ ns, 0 < n.Writ → w.ID ≠ n.Writ
  | [], l, w, h => ⟨⟨w, h, Like.refl w⟩, fun n hn => by cases hn⟩
  | n :: ns, l, w, h => by
    obtain ⟨⟨y, hy, hl⟩, hn⟩ := mem_quietW ns (if 0 < n.Writ then without l n.Writ else l) w h
    by_cases h0 : 0 < n.Writ
    · rw [if_pos h0] at hy
      obtain ⟨z, hz, hne, rfl⟩ := mem_without.1 hy
      refine ⟨⟨z, hz, hl.trans (like_re _ _ z)⟩, fun m hm hm0 => ?_⟩
      rcases List.mem_cons.1 hm with e | hm
      · rw [e, hl.id, (woRe_id z).1]; exact hne
      · exact hn m hm hm0
    · rw [if_neg h0] at hy
      refine ⟨⟨y, hy, hl⟩, fun m hm hm0 => ?_⟩
      rcases List.mem_cons.1 hm with e | hm
      · rw [e] at hm0; exact absurd hm0 h0
      · exact hn m hm hm0
theorem quietW_mem : ∀ (ns : List Note) (l : List Writ) (y : Writ), y ∈ l → (∀ n ∈ ns, 0 < n.Writ → y.ID ≠ n.Writ) → ∃ w ∈ quietW ns l, Like w y
  | [], l, y, h, _ => ⟨y, h, Like.refl y⟩
  | n :: ns, l, y, h, hn => by
    by_cases h0 : 0 < n.Writ
    · obtain ⟨w, hw, k⟩ := quietW_mem ns (without l n.Writ) (woRe n.Writ (fromOf l n.Writ) y) (mem_without.2 ⟨y, h, hn n (List.mem_cons_self ..) h0, rfl⟩) (fun m hm hm0 => by rw [(woRe_id y).1]; exact hn m (List.mem_cons_of_mem _ hm) hm0)
      refine ⟨w, ?_, k.trans (like_re _ _ y)⟩
      show w ∈ quietW ns (if 0 < n.Writ then without l n.Writ else l)
      rw [if_pos h0]; exact hw
    · obtain ⟨w, hw, k⟩ := quietW_mem ns l y h (fun m hm hm0 => hn m (List.mem_cons_of_mem _ hm) hm0)
      refine ⟨w, ?_, k⟩
      show w ∈ quietW ns (if 0 < n.Writ then without l n.Writ else l)
      rw [if_neg h0]; exact hw
theorem not_note {ns : List Note} {j : Int} (h : cN ns j = 0) : ∀ n ∈ ns, 0 < n.Writ → j ≠ n.Writ := fun n hn _ e => by
  have := cN_pos hn; rw [← e] at this; omega
theorem Inv.quiet_pre (h : Inv r) : Pre ⟨quietW r.Notes r.Writs, r.Things, r.Held, [], r.NextWrit, r.NextThing⟩ := by
  have hs := fun w hw => mem_quietW r.Notes r.Writs w hw
  refine { tree := quietW_tree _ _ h.tree, good := h.good, wlt := ?_, nw1 := h.nw1, nw2 := h.nw2, nt1 := h.nt1, nt2 := h.nt2, trise := h.trise, tlt := h.tlt, tkind := h.tkind, tdata := h.tdata, tmax := h.tmax, thing := ?_, port := fun n hn => (by cases hn), ndata := fun n hn => (by cases hn), wait := fun q => by simp [waitN], nwrit := fun n hn => (by cases hn), once := ?_ }
  · intro w hw; obtain ⟨⟨y, hy, k⟩, _⟩ := hs w hw; rw [k.id]; exact h.wlt y hy
  · intro w hw; obtain ⟨⟨y, hy, k⟩, _⟩ := hs w hw; rw [k.th]; exact h.thing y hy
  · intro w hw
    obtain ⟨⟨y, hy, k⟩, hn⟩ := hs w hw
    have h1 := h.once y hy
    have h2 : cN r.Notes w.ID = 0 := List.countP_eq_zero.2 fun n hnn e => by
      have e : n.Writ = w.ID := by simpa using e
      have := (h.tree.mem hy).id1
      exact hn n hnn (by rw [e, k.id]; omega) e.symm
    show cH r.Held w.ID + cN [] w.ID = 1
    rw [← k.id] at h1; simp only [cN, List.countP_nil] at h2 ⊢; unfold cN at h1; omega
theorem nodup_len : ∀ (a b : List Int), a.Nodup → (∀ x ∈ a, x ∈ b) → a.length ≤ b.length
  | [], b, _, _ => Nat.zero_le _
  | x :: a, b, hn, hs => by
    obtain ⟨h1, h2⟩ := List.nodup_cons.1 hn
    obtain ⟨A, B, rfl⟩ := List.append_of_mem (hs x (List.mem_cons_self ..))
    have := nodup_len a (A ++ B) h2 fun y hy => by
      have h3 := hs y (List.mem_cons_of_mem _ hy)
      rcases List.mem_append.1 h3 with h3 | h3
      · exact List.mem_append.2 (.inl h3)
      · rcases List.mem_cons.1 h3 with e | h3
        · exact absurd (e ▸ hy) h1
        · exact List.mem_append.2 (.inr h3)
    simp only [List.length_cons, List.length_append] at this ⊢; omega
/-- when nothing waits all writs are held -/
theorem held_all (h : Inv r) (hn : r.Notes = []) : r.Held.length = r.Writs.length := by
  have h1 : (r.Writs.map Writ.ID).Nodup := List.Pairwise.imp (fun h => Int.ne_of_lt h) (List.pairwise_map.2 h.tree.is.rise)
  have h2 : (r.Held.map Held.Writ).Nodup := by
    refine List.pairwise_iff_getElem.2 fun i j hi hj hij e => ?_
    rw [List.length_map] at hi hj
    rw [List.getElem_map, List.getElem_map] at e
    have := h.one (List.getElem_mem hi) (List.getElem_mem hj) e
    have h3 := List.pairwise_iff_getElem.1 (rise_of h.good) i j hi hj hij
    rw [this] at h3
    exact ltPl_irr h3
  have a := nodup_len (r.Held.map Held.Writ) (r.Writs.map Writ.ID) h2 fun x hx => by
    obtain ⟨y, hy, rfl⟩ := List.mem_map.1 hx
    obtain ⟨w, hw, e⟩ := h.hthere y hy
    exact List.mem_map.2 ⟨w, hw, e⟩
  have b := nodup_len (r.Writs.map Writ.ID) (r.Held.map Held.Writ) h1 fun x hx => by
    obtain ⟨w, hw, rfl⟩ := List.mem_map.1 hx
    have h3 := h.once w hw
    rw [hn] at h3; simp only [cN, List.countP_nil] at h3
    obtain ⟨y, hy, e⟩ := List.countP_pos_iff.1 (show 0 < cH r.Held w.ID by omega)
    exact List.mem_map.2 ⟨y, hy, by simpa using e⟩
  simp only [List.length_map] at a b; omega
theorem quiet_law (h : Inv r) : Inv (quietR r) ∧ (quietR r).Notes = [] ∧ (quietR r).Held = r.Held ∧ (quietR r).Held.length = (quietR r).Writs.length ∧ quietR (quietR r) = quietR r := by
  have hp := h.quiet_pre
  have hi : Inv (quietR r) := sweep_inv hp
  have hl : lostS ⟨quietW r.Notes r.Writs, r.Things, r.Held, [], r.NextWrit, r.NextThing⟩ = [] := rfl
  have hd : quietR r = sweepS ⟨quietW r.Notes r.Writs, r.Things, r.Held, [], r.NextWrit, r.NextThing⟩ := sweepR_done (by rw [hl]; rfl)
  have hn : (quietR r).Notes = [] := by rw [hd]; rfl
  refine ⟨hi, hn, ?_, held_all hi hn, ?_⟩
  · rw [hd]
    show r.Held.filter _ = r.Held
    refine List.filter_eq_self.2 fun x hx => ?_
    obtain ⟨w, hw, e⟩ := h.hthere x hx
    have h1 := h.once w hw; have h2 := cH_pos hx; rw [← e] at h2
    obtain ⟨v, hv, k⟩ := quietW_mem r.Notes r.Writs w hw (not_note (by omega))
    have h3 : 0 ≤ findW (quietW r.Notes r.Writs) x.Writ := findW_some.2 ⟨v, hv, by rw [k.id, e]⟩
    simp only [Bool.not_eq_true', decide_eq_false_iff_not]; omega
  · have hs := sweep_self hi
    generalize quietR r = x at hn hs
    cases x with
    | mk W T H N a b =>
      have hn' : N = [] := hn
      subst hn'
      exact hs
theorem quiet_sz {k : Nat} (h : Sz k r) : Sz k (quietR r) :=
  sweepGo_sz _ _ ⟨Nat.le_trans (quietW_len _ _) h.wl, h.tl, h.hl, Nat.zero_le _, quietW_ri _ _ h.ri, h.w0, h.w1, h.t0, h.t1⟩
end
end Go.Proofs.YtpipachmngdegaaGreat
end
