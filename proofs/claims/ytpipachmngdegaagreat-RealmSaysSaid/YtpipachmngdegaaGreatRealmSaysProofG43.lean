import Derived.Test.YtpipachmngdegaaGreatRealmSaysProofG42
section
/-
  The laws of the realm in plain words: what is given, moved, made. No program.
-/
namespace Go.Proofs.YtpipachmngdegaaGreat
set_option linter.unusedVariables false

theorem grown_facts {l : List Deed} (h : (grownR l).2 = true) : Inv (grownR l).1 ∧ Sz 80 (grownR l).1 := by
  obtain ⟨h1, h2, _⟩ := grown_true h
  rw [h2]; exact ⟨grow_inv l, (grow_sz l).up h1⟩
section
variable {r : Realm}
theorem wat_mem {l : List Writ} (h : TreeOk l) {w : Writ} (hw : w ∈ l) : wat l w.ID = some w := by
  have hf := findW_mem hw
  obtain ⟨x, h1, h2, h3⟩ := findW_at l w.ID hf
  have := h.inj h3 hw h2
  subst this
  exact wat_of (j := (findW l x.ID).toNat) (by omega) h1
/-- who is held where is had there -/
theorem get_of (ht : TreeOk r.Writs) {p : Place} {w : Writ} (hp : placeFault p = 0) (hw : w ∈ r.Writs) (ha : atH r.Held p = w.ID) : getR r p = (w, 0) := by
  unfold getR; rw [if_pos hp, ha, wat_mem ht hw]
theorem get_empty (ht : TreeOk r.Writs) {p : Place} (hp : placeFault p = 0) (ha : atH r.Held p = 0) : getR r p = (zeroW, 5) := by
  unfold getR; rw [if_pos hp, ha]
  have : findW r.Writs 0 = -1 := by
    rcases findW_cases r.Writs 0 with ⟨h1, _⟩ | ⟨k, hk, h1, _⟩
    · exact h1
    · have := ht.find0 (Int.le_refl 0); omega
  rw [wat_no this]
theorem give_law (h : Inv r) {p t : Place} {a b : Int} (hm : (giveR r p t a b).2 = 0) : (getR r p).2 = 0 ∧ (getR (giveR r p t a b).1 t).2 = 0 ∧ hasR (getR r p).1.Rights (getR (giveR r p t a b).1 t).1.Rights = true ∧ (getR (giveR r p t a b).1 t).1.Rights = a ∧ (0 ≤ a ∧ a ≤ 7) ∧
    (getR (giveR r p t a b).1 t).1.From = (getR r p).1.ID ∧ (p.Holder = t.Holder ∨ hasR (getR r p).1.Rights 4 = true) ∧ (getR (giveR r p t a b).1 t).1.ID ∈ benG (getR r p).1.ID (giveR r p t a b).1.Writs := by
  obtain ⟨hg, hf, hr, hw, hd, he⟩ := give_parts hm
  obtain ⟨hp, ha⟩ := free_zero hf
  have hpl := placeFault_zero hp
  obtain ⟨_, hgm, _⟩ := h.get hg
  obtain ⟨htree, hid, hth, hri, hfr, hha, a0, a7⟩ := h.derive hgm hw hd
  rw [he (by omega)]
  generalize hx : (derived (getR r p).1 r.NextWrit a b).1 = x at *
  have hxm : x ∈ r.Writs ++ [x] := List.mem_append.2 (.inr (List.mem_singleton.2 rfl))
  have hgt : getR ⟨r.Writs ++ [x], r.Things, putH r.Held t x.ID, r.Notes, r.NextWrit + 1, r.NextThing⟩ t = (x, 0) := get_of htree hp hxm (put_at h.good hp)
  rw [hgt]
  refine ⟨hg, rfl, by rw [hri]; exact hha, hri, ⟨a0, a7⟩, hfr, hr, ?_⟩
  exact ben_child htree (findW_some.2 ⟨_, List.mem_append.2 (.inl hgm), rfl⟩) hxm hfr
theorem move_law (h : Inv r) {p : Place} {s : Int} (hm : (moveR r p s).2 = 0) : (getR r p).2 = 0 ∧ getR (moveR r p s).1 ⟨p.Holder, s⟩ = ((getR r p).1, 0) ∧ (getR (moveR r p s).1 p).2 = 5 ∧ moveR (moveR r p s).1 ⟨p.Holder, s⟩ p.Slot = (r, 0) := by
  obtain ⟨hg, hf, he⟩ := move_parts hm
  obtain ⟨hp, ha⟩ := free_zero hf
  obtain ⟨hpf, hgm, hat, h1, _⟩ := h.get hg
  have hi : (getR r p).1.ID ≠ 0 := by omega
  have hg1 : Good (putH r.Held p 0) := good_put h.good hpf
  have hne : ¬ (⟨p.Holder, s⟩ : Place) = p := fun e => by rw [e] at ha; omega
  have hg2 : Good (putH (putH r.Held p 0) ⟨p.Holder, s⟩ (getR r p).1.ID) := good_put hg1 hp
  have a1 : atH (putH (putH r.Held p 0) ⟨p.Holder, s⟩ (getR r p).1.ID) ⟨p.Holder, s⟩ = (getR r p).1.ID := put_at hg1 hp
  have a2 : atH (putH (putH r.Held p 0) ⟨p.Holder, s⟩ (getR r p).1.ID) p = 0 := by rw [put_other hg1 hp (fun e => hne e.symm), put_at h.good hpf]
  have e1 : getR (moveR r p s).1 ⟨p.Holder, s⟩ = ((getR r p).1, 0) := by rw [he]; exact get_of (r := ⟨r.Writs, r.Things, putH (putH r.Held p 0) ⟨p.Holder, s⟩ (getR r p).1.ID, r.Notes, r.NextWrit, r.NextThing⟩) h.tree hp hgm a1
  have e2 : getR (moveR r p s).1 p = (zeroW, 5) := by rw [he]; exact get_empty (r := ⟨r.Writs, r.Things, putH (putH r.Held p 0) ⟨p.Holder, s⟩ (getR r p).1.ID, r.Notes, r.NextWrit, r.NextThing⟩) h.tree hpf a2
  refine ⟨hg, e1, by rw [e2], ?_⟩
  have hfree : freeR (moveR r p s).1 ⟨p.Holder, p.Slot⟩ = 0 := by
    show freeR (moveR r p s).1 p = 0
    rw [he]; unfold freeR; rw [if_pos hpf, if_pos a2]
  unfold moveR
  rw [show (if (getR r p).2 = 0 then _ else _ : Realm × Int) = moveR r p s from rfl]
  rw [if_pos (by rw [e1]), if_pos hfree, e1]
  have hh : putH (putH (moveR r p s).1.Held ⟨p.Holder, s⟩ 0) ⟨p.Holder, p.Slot⟩ (getR r p).1.ID = r.Held := by
    rw [he]; dsimp only
    have hg3 := good_put (id := 0) hg2 hp
    refine good_ext (good_put hg3 hpf) h.good fun q => ?_
    by_cases hq : q = p
    · subst hq; rw [show (⟨q.Holder, q.Slot⟩ : Place) = q from rfl, put_at hg3 hpf]; exact hat
    · rw [show (⟨p.Holder, p.Slot⟩ : Place) = p from rfl, put_other hg3 hpf hq]
      by_cases hq2 : q = ⟨p.Holder, s⟩
      · subst hq2; rw [put_at hg2 hp, ha]
      · rw [put_other hg2 hp hq2, put_other hg1 hp hq2, put_other h.good hpf hq]
  rw [hh, he]
end
end Go.Proofs.YtpipachmngdegaaGreat
end

section
/-
  The laws of the realm in plain words: what is made, dropped. No program.
-/
namespace Go.Proofs.YtpipachmngdegaaGreat
set_option linter.unusedVariables false
section
variable {r : Realm}
theorem keep_self {ws : List Writ} {ts : List Int} : ∀ {ns : List Note}, (∀ n ∈ ns, n.Port ∈ ts ∧ fixN ws n = n) → keepN ws ts ns = ns
  | [], _ => rfl
  | n :: ns, h => by
    obtain ⟨h1, h2⟩ := h n (List.mem_cons_self ..)
    rw [keep_cons, if_pos h1, h2, keep_self (fun m hm => h m (List.mem_cons_of_mem _ hm))]
theorem lost_self {ws : List Writ} {ts : List Int} {ns : List Note} (h : ∀ n ∈ ns, n.Port ∈ ts) : lostN ws ts ns = [] := by
  refine List.eq_nil_iff_forall_not_mem.2 fun j hj => ?_
  obtain ⟨m, hm, _, hp, _⟩ := mem_lost.1 hj
  exact hp (h m hm)
theorem Inv.port_in (h : Inv r) : ∀ n ∈ r.Notes, n.Port ∈ thingsL r.Writs := fun n hn => by
  obtain ⟨t, ht, e, _⟩ := h.port n hn
  obtain ⟨w, hw, e2⟩ := h.used t ht
  exact (mem_things h.tree).2 ⟨w, hw, by rw [e2, e]⟩
theorem Inv.fix (h : Inv r) : ∀ n ∈ r.Notes, fixN r.Writs n = n := fun n hn => by
  unfold fixN; split
  · rename_i hf
    have h0 := h.nwrit n hn
    have : n.Writ = 0 := by
      by_cases hp : 0 < n.Writ
      · obtain ⟨w, hw, e⟩ := h.nthere n hn hp
        have := findW_mem hw; rw [e] at this; omega
      · omega
    cases n; simp only [] at this ⊢; rw [this]
  · rfl
/-- things, places, notes beside those of a realm: swept, they are no more -/
theorem sweep_back (h : Inv r) (T : List Thing) (H : List Held) (hT : ∀ t ∈ T, ∀ w ∈ r.Writs, w.Thing ≠ t.ID) (hH : H.filter (fun h => !decide (findW r.Writs h.Writ < 0)) = r.Held) (a b : Int) : sweepR ⟨r.Writs, r.Things ++ T, H, r.Notes, a, b⟩ = ⟨r.Writs, r.Things, r.Held, r.Notes, a, b⟩ := by
  have hl : lostS ⟨r.Writs, r.Things ++ T, H, r.Notes, a, b⟩ = [] := lost_self h.port_in
  rw [sweepR_done (by rw [hl]; rfl)]
  unfold sweepS
  dsimp only
  have h1 : (r.Things ++ T).filter (fun t => !!decide (t.ID ∈ thingsL r.Writs)) = r.Things := by
    have k1 : r.Things.filter (fun t => !!decide (t.ID ∈ thingsL r.Writs)) = r.Things := List.filter_eq_self.2 fun t ht => by
      obtain ⟨w, hw, e⟩ := h.used t ht
      simp only [Bool.not_not, decide_eq_true_eq]
      exact (mem_things h.tree).2 ⟨w, hw, e⟩
    have k2 : T.filter (fun t => !!decide (t.ID ∈ thingsL r.Writs)) = [] := List.filter_eq_nil_iff.2 fun t ht => by
      simp only [Bool.not_not, decide_eq_true_eq]
      intro hm
      obtain ⟨w, hw, e⟩ := (mem_things h.tree).1 hm
      exact hT t ht w hw e
    rw [List.filter_append, k1, k2, List.append_nil]
  rw [h1, hH, keep_self (fun n hn => ⟨h.port_in n hn, h.fix n hn⟩)]
theorem Inv.held_self (h : Inv r) {H : List Held} (hs : ∀ x ∈ H, x ∈ r.Held) : H.filter (fun h => !decide (findW r.Writs h.Writ < 0)) = H :=
  List.filter_eq_self.2 fun x hx => by
    have := findW_some.2 (h.hthere x (hs x hx))
    simp only [Bool.not_eq_true', decide_eq_false_iff_not]; omega
theorem sweep_self (h : Inv r) : sweepR r = r := by
  have := sweep_back h [] r.Held (fun t ht => by cases ht) (h.held_self (fun x hx => hx)) r.NextWrit r.NextThing
  rw [List.append_nil] at this
  exact this
theorem without_last {l : List Writ} {w : Writ} (hi : ∀ y ∈ l, y.ID ≠ w.ID ∧ y.From ≠ w.ID) : without (l ++ [w]) w.ID = l := by
  unfold without woG
  have h1 : (l ++ [w]).filter (fun x => decide (x.ID ≠ w.ID)) = l := by
    rw [List.filter_append, List.filter_eq_self.2 (fun y hy => by simpa using (hi y hy).1), List.filter_eq_nil_iff.2 (fun y hy => by rw [List.mem_singleton.1 hy]; simp), List.append_nil]
  rw [h1]
  have : ∀ x ∈ l, woRe w.ID (fromOf (l ++ [w]) w.ID) x = x := fun x hx => by unfold woRe; rw [if_neg (hi x hx).2]
  exact (List.map_congr_left this).trans (List.map_id' _)
theorem make_law (h : Inv r) {p : Place} {kind : Int} (hm : (makeR r p kind).2 = 0) : getR (makeR r p kind).1 p = (⟨r.NextWrit, r.NextThing, 7, 0, 0⟩, 0) ∧ (makeR r p kind).1.Writs = r.Writs ++ [⟨r.NextWrit, r.NextThing, 7, 0, 0⟩] ∧ (makeR r p kind).1.Things.length = r.Things.length + 1 ∧
    (∀ w ∈ r.Writs, w.Thing ≠ r.NextThing) ∧ (dropR (makeR r p kind).1 p).2 = 0 ∧ (⟨(dropR (makeR r p kind).1 p).1.Writs, (dropR (makeR r p kind).1 p).1.Things, (dropR (makeR r p kind).1 p).1.Held, (dropR (makeR r p kind).1 p).1.Notes, r.NextWrit, r.NextThing⟩ : Realm) = r := by
  have hx := h.make hm
  obtain ⟨hk, hf, hl, ht, hw, he⟩ := make_parts hm
  obtain ⟨hp, ha⟩ := free_zero hf
  have hpl := placeFault_zero hp
  have he := he (by omega)
  have n1 := h.nw1
  have hi : r.NextWrit ≠ 0 := by omega
  have hth : ∀ w ∈ r.Writs, w.Thing ≠ r.NextThing := fun w hw e => by
    obtain ⟨t, ht, e2⟩ := h.thing w hw
    have := (h.tlt t ht).2; omega
  have hget : getR (makeR r p kind).1 p = (⟨r.NextWrit, r.NextThing, 7, 0, 0⟩, 0) := by
    have hin : (⟨r.NextWrit, r.NextThing, 7, 0, 0⟩ : Writ) ∈ (makeR r p kind).1.Writs := by rw [he]; exact List.mem_append.2 (.inr (List.mem_singleton.2 rfl))
    have hat : atH (makeR r p kind).1.Held p = r.NextWrit := by rw [he]; exact put_at h.good hp
    exact get_of hx.tree hp hin hat
  refine ⟨hget, by rw [he], by rw [he]; simp, hth, ?_, ?_⟩
  · unfold dropR; rw [if_pos (by rw [hget])]
  · unfold dropR; rw [if_pos (by rw [hget]), hget]
    dsimp only
    rw [he]; dsimp only
    rw [without_last (w := ⟨r.NextWrit, r.NextThing, 7, 0, 0⟩) (fun y hy => by
      have h1 := h.wlt y hy; have h2 := (h.tree.mem hy).frl
      dsimp only; omega)]
    obtain ⟨A, B, e, e2⟩ := put_new h.good ha hi
    have hnf : findW r.Writs r.NextWrit < 0 := findW_none' fun x hx => by have := h.wlt x hx; omega
    rw [sweep_back h [⟨r.NextThing, kind, ⟨#[]⟩⟩] (putH r.Held p r.NextWrit) (fun t ht w hw => by rw [List.mem_singleton.1 ht]; exact hth w hw) (by
      rw [e2, List.filter_append, List.filter_cons, if_neg (by simpa using hnf), ← List.filter_append, ← e]
      exact h.held_self (fun x hx => hx))]
/-! ### dropping -/
theorem cH_inj {l : List Held} {x y : Held} (hx : x ∈ l) (hy : y ∈ l) (e : x.Writ = y.Writ) (h : cH l x.Writ ≤ 1) : x = y := by
  obtain ⟨A, B, rfl⟩ := List.append_of_mem hx
  unfold cH at h
  rw [List.countP_append, List.countP_cons, if_pos (by simp)] at h
  have key : ∀ (C : List Held), y ∈ C → 0 < C.countP (fun h => h.Writ == x.Writ) := fun C hC => List.countP_pos_iff.2 ⟨y, hC, by simp [e]⟩
  rcases List.mem_append.1 hy with hy | hy
  · have := key A hy; omega
  · rcases List.mem_cons.1 hy with hy | hy
    · exact hy.symm
    · have := key B hy; omega
theorem Inv.one (h : Inv r) {x y : Held} (hx : x ∈ r.Held) (hy : y ∈ r.Held) (e : x.Writ = y.Writ) : x = y := by
  obtain ⟨w, hw, e2⟩ := h.hthere x hx
  have := h.once w hw
  exact cH_inj hx hy e (by rw [← e2]; omega)
/-- what is held is had -/
theorem Inv.had (h : Inv r) {x : Held} (hx : x ∈ r.Held) : ∃ w ∈ r.Writs, w.ID = x.Writ ∧ getR r x.Place = (w, 0) := by
  obtain ⟨w, hw, e⟩ := h.hthere x hx
  exact ⟨w, hw, e, get_of h.tree (fine_of h.good x hx).1 hw (by rw [mem_at h.good hx, e])⟩
theorem like_eq {x y : Writ} (h : Like x y) : (⟨x.ID, x.Thing, x.Rights, x.Badge, y.From⟩ : Writ) = y := by
  cases y; obtain ⟨a, b, c, d⟩ := h; simp only [] at a b c d; rw [a, b, c, d]
theorem drop_law (h : Inv r) {p : Place} (hm : (dropR r p).2 = 0) : findW (dropR r p).1.Writs (getR r p).1.ID < 0 ∧ atH (dropR r p).1.Held p = 0 ∧
    ∀ x ∈ r.Held, ¬ x.Place = p → (getR r x.Place).2 = 0 ∧ (getR (dropR r p).1 x.Place).2 = 0 ∧ Like (getR r x.Place).1 (getR (dropR r p).1 x.Place).1 := by
  have hx := h.drop hm
  obtain ⟨hg, he⟩ := drop_parts hm
  obtain ⟨hpf, hgm, hat, h1, _⟩ := h.get hg
  have hpre := h.toPre.wo (getR r p).1.ID
  have hsub := sweep_sub ⟨without r.Writs (getR r p).1.ID, r.Things, r.Held, r.Notes, r.NextWrit, r.NextThing⟩
  rw [← he] at hsub
  have hgone : ∀ v ∈ (dropR r p).1.Writs, v.ID ≠ (getR r p).1.ID := fun v hv e => by
    obtain ⟨y, hy, k⟩ := hsub.2.1 v hv
    obtain ⟨z, hz, hne, rfl⟩ := mem_without.1 hy
    exact hne (by rw [← (woRe_id z).1, ← k.id]; exact e)
  refine ⟨findW_none' hgone, ?_, fun x hxm hne => ?_⟩
  · by_cases h0 : atH (dropR r p).1.Held p = 0
    · exact h0
    · have hm1 := at_mem hx.good rfl h0
      obtain ⟨v, hv, e⟩ := hx.hthere _ hm1
      have := mem_at h.good (hsub.1 _ hm1)
      simp only [] at this e
      exact absurd (by rw [e, hat, this]) (hgone v hv)
  · obtain ⟨w, hw, e, hgw⟩ := h.had hxm
    have hwne : w.ID ≠ (getR r p).1.ID := fun e2 => by
      have hpm := at_mem h.good hat.symm (by omega)
      have := h.one hxm hpm (by rw [← e, e2])
      exact hne (by rw [this])
    obtain ⟨k1, v, hv, hlv⟩ := sweep_keep hpre (x := x) (w := woRe (getR r p).1.ID (fromOf r.Writs (getR r p).1.ID) w) hxm (mem_without.2 ⟨w, hw, hwne, rfl⟩) (by rw [(woRe_id w).1]; exact e)
    rw [← he] at k1 hv
    have hl : Like v w := hlv.trans (like_re _ _ w)
    have hgv : getR (dropR r p).1 x.Place = (v, 0) := get_of hx.tree (fine_of h.good x hxm).1 hv (by rw [mem_at hx.good k1, hl.id, e])
    rw [hgw, hgv]; exact ⟨rfl, rfl, hl.symm⟩
end
end Go.Proofs.YtpipachmngdegaaGreat
end
