import Derived.Test.YtpipachmngdegaaGreatRealmSaysProofG40
section
/-
  What holds of every realm that grows, on: each act keeps it. No program.
-/
namespace Go.Proofs.YtpipachmngdegaaGreat
set_option linter.unusedVariables false

theorem free_zero {r : Realm} {p : Place} (h : freeR r p = 0) : placeFault p = 0 ∧ atH r.Held p = 0 := by
  unfold freeR at h
  by_cases h1 : placeFault p = 0
  · rw [if_pos h1] at h
    by_cases h2 : atH r.Held p = 0
    · exact ⟨h1, h2⟩
    · rw [if_neg h2] at h; omega
  · rw [if_neg h1] at h; exact absurd h h1
theorem mem_putN {l : List Held} {p : Place} {id : Int} (hg : Good l) (h : atH l p = 0) (hi : id ≠ 0) {x : Held} : x ∈ putH l p id ↔ x = ⟨p, id⟩ ∨ x ∈ l := by
  obtain ⟨A, B, e, e2⟩ := put_new hg h hi
  rw [e2, e]; simp only [List.mem_append, List.mem_cons]; constructor <;> (rintro (h | h | h) <;> simp [h])
theorem mem_putD {l : List Held} {p : Place} {w : Int} (hg : Good l) (h : atH l p = w) (hw : w ≠ 0) {x : Held} (hx : x ∈ putH l p 0) : x ∈ l := by
  obtain ⟨A, B, e, e2⟩ := put_del hg h hw
  rw [e2] at hx; rw [e]; simp only [List.mem_append, List.mem_cons] at hx ⊢; rcases hx with h | h <;> simp [h]
section
variable {r : Realm}
theorem Inv.get (h : Inv r) {p : Place} (hg : (getR r p).2 = 0) : placeFault p = 0 ∧ (getR r p).1 ∈ r.Writs ∧ (getR r p).1.ID = atH r.Held p ∧ 1 ≤ (getR r p).1.ID ∧ (getR r p).1.ID < r.NextWrit := by
  obtain ⟨h1, h2, h3⟩ := getR_zero hg
  exact ⟨h1, h2, h3, (h.tree.mem h2).id1, h.wlt _ h2⟩
/-- the next number is nowhere -/
theorem Inv.fresh (h : Inv r) : cH r.Held r.NextWrit = 0 ∧ cN r.Notes r.NextWrit = 0 := by
  constructor
  · refine List.countP_eq_zero.2 fun x hx => ?_
    obtain ⟨w, hw, e⟩ := h.hthere x hx
    have := h.wlt w hw
    simp; omega
  · refine List.countP_eq_zero.2 fun x hx => ?_
    have h0 := h.nwrit x hx; have h1 := h.nw1
    by_cases hp : 0 < x.Writ
    · obtain ⟨w, hw, e⟩ := h.nthere x hx hp
      have := h.wlt w hw
      simp; omega
    · simp; omega
theorem tree_snoc {l : List Writ} {w : Writ} (h : TreeOk l) (hw : writFault w = 0) (hlt : ∀ y ∈ l, y.ID < w.ID) (hm : w.From ≠ 0 → ∃ y ∈ l, Made y w) : TreeOk (l ++ [w]) := by
  have hi := h.is
  refine TreeIs.ok' ⟨fun x hx => ?_, List.pairwise_append.2 ⟨hi.rise, by simp, fun a ha b hb => by simp at hb; subst hb; exact hlt a ha⟩, fun x hx h0 => ?_⟩
  · rcases List.mem_append.1 hx with hx | hx
    · exact hi.ok x hx
    · rw [List.mem_singleton.1 hx]; exact hw
  · rcases List.mem_append.1 hx with hx | hx
    · obtain ⟨y, hy, hmd⟩ := hi.made x hx h0
      exact ⟨y, List.mem_append.2 (.inl hy), hmd⟩
    · have e := List.mem_singleton.1 hx
      subst e
      obtain ⟨y, hy, hmd⟩ := hm h0
      exact ⟨y, List.mem_append.2 (.inl hy), hmd⟩
/-! ### making -/
theorem make_parts {p : Place} {kind : Int} (h : (makeR r p kind).2 = 0) : (kind = 1 ∨ kind = 2) ∧ freeR r p = 0 ∧ r.Things.length ≠ 10 ∧ r.NextThing ≤ 999 ∧ r.NextWrit ≤ 999 ∧
    (0 < p.Holder → (makeR r p kind).1 = ⟨r.Writs ++ [⟨r.NextWrit, r.NextThing, 7, 0, 0⟩], r.Things ++ [⟨r.NextThing, kind, ⟨#[]⟩⟩], putH r.Held p r.NextWrit, r.Notes, r.NextWrit + 1, r.NextThing + 1⟩) := by
  unfold makeR at h ⊢
  by_cases h1 : kind = 1 ∨ kind = 2
  · rw [if_pos h1] at h ⊢
    by_cases h2 : freeR r p = 0
    · rw [if_pos h2] at h ⊢
      by_cases h3 : r.Things.length = 10 ∨ 999 < r.NextThing ∨ 999 < r.NextWrit
      · rw [if_pos h3] at h; simp at h
      · rw [if_neg h3]
        refine ⟨h1, h2, by omega, by omega, by omega, fun hp => ?_⟩
        unfold addR; dsimp only; rw [if_pos hp]
    · rw [if_neg h2] at h; exact absurd h h2
  · rw [if_neg h1] at h; simp at h
theorem Inv.make (h : Inv r) {p : Place} {kind : Int} (hm : (makeR r p kind).2 = 0) : Inv (makeR r p kind).1 := by
  obtain ⟨hk, hf, hl, ht, hw, he⟩ := make_parts hm
  obtain ⟨hp, ha⟩ := free_zero hf
  have hpl := placeFault_zero hp
  rw [he (by omega)]
  have n1 := h.nw1; have n2 := h.nt1; have hfr := h.fresh; have hmax := h.tmax
  have hi : r.NextWrit ≠ 0 := by omega
  have hgp := good_put (id := r.NextWrit) h.good hp
  refine { tree := tree_snoc h.tree (writFault_ok (by dsimp only; omega)) (fun y hy => h.wlt y hy) (fun h0 => absurd rfl h0), good := hgp, wlt := ?_, nw1 := by show 1 ≤ r.NextWrit + 1; omega, nw2 := by show r.NextWrit + 1 ≤ 1000; omega, nt1 := by show 1 ≤ r.NextThing + 1; omega, nt2 := by show r.NextThing + 1 ≤ 1000; omega, trise := List.pairwise_append.2 ⟨h.trise, by simp, fun a ha b hb => by simp at hb; subst hb; exact (h.tlt a ha).2⟩, tlt := ?_, tkind := ?_, tdata := ?_, tmax := by show (r.Things ++ [_]).length ≤ 10; simp; omega, thing := ?_, port := ?_, ndata := h.ndata, wait := h.wait, nwrit := h.nwrit, once := ?_, nthere := ?_, hthere := ?_, used := ?_ }
  · intro w hw
    show w.ID < r.NextWrit + 1
    rcases List.mem_append.1 hw with hw | hw
    · have := h.wlt w hw; omega
    · rw [List.mem_singleton.1 hw]; show r.NextWrit < _; omega
  · intro t ht
    show 1 ≤ t.ID ∧ t.ID < r.NextThing + 1
    rcases List.mem_append.1 ht with ht | ht
    · have := h.tlt t ht; omega
    · rw [List.mem_singleton.1 ht]; show 1 ≤ r.NextThing ∧ r.NextThing < _; omega
  · intro t ht
    rcases List.mem_append.1 ht with ht | ht
    · exact h.tkind t ht
    · rw [List.mem_singleton.1 ht]; exact hk
  · intro t ht
    rcases List.mem_append.1 ht with ht | ht
    · exact h.tdata t ht
    · rw [List.mem_singleton.1 ht]; exact ⟨by show (0 : Nat) ≤ 8; decide, fun _ => rfl⟩
  · intro w hw
    rcases List.mem_append.1 hw with hw | hw
    · obtain ⟨t, ht, e⟩ := h.thing w hw
      exact ⟨t, List.mem_append.2 (.inl ht), e⟩
    · rw [List.mem_singleton.1 hw]; exact ⟨_, List.mem_append.2 (.inr (List.mem_singleton.2 rfl)), rfl⟩
  · intro n hn
    obtain ⟨t, ht, e⟩ := h.port n hn
    exact ⟨t, List.mem_append.2 (.inl ht), e⟩
  · intro w hw
    show cH (putH r.Held p r.NextWrit) w.ID + cN r.Notes w.ID = 1
    rw [cH_new h.good ha hi]
    rcases List.mem_append.1 hw with hw | hw
    · have := h.wlt w hw; have := h.once w hw
      rw [if_neg (by omega)]; omega
    · rw [List.mem_singleton.1 hw]; show cH r.Held r.NextWrit + (if r.NextWrit = r.NextWrit then 1 else 0) + cN r.Notes r.NextWrit = 1
      rw [if_pos rfl]; omega
  · intro n hn h0
    obtain ⟨w, hw, e⟩ := h.nthere n hn h0
    exact ⟨w, List.mem_append.2 (.inl hw), e⟩
  · intro x hx
    rcases (mem_putN h.good ha hi).1 hx with e | hx
    · rw [e]; exact ⟨_, List.mem_append.2 (.inr (List.mem_singleton.2 rfl)), rfl⟩
    · obtain ⟨w, hw, e⟩ := h.hthere x hx
      exact ⟨w, List.mem_append.2 (.inl hw), e⟩
  · intro t ht
    rcases List.mem_append.1 ht with ht | ht
    · obtain ⟨w, hw, e⟩ := h.used t ht
      exact ⟨w, List.mem_append.2 (.inl hw), e⟩
    · rw [List.mem_singleton.1 ht]; exact ⟨_, List.mem_append.2 (.inr (List.mem_singleton.2 rfl)), rfl⟩
/-! ### giving -/
theorem give_parts {p t : Place} {a b : Int} (h : (giveR r p t a b).2 = 0) : (getR r p).2 = 0 ∧ freeR r t = 0 ∧ (p.Holder = t.Holder ∨ hasR (getR r p).1.Rights 4 = true) ∧ r.NextWrit ≤ 999 ∧ (derived (getR r p).1 r.NextWrit a b).2 = 0 ∧
    (0 < t.Holder → (giveR r p t a b).1 = ⟨r.Writs ++ [(derived (getR r p).1 r.NextWrit a b).1], r.Things, putH r.Held t (derived (getR r p).1 r.NextWrit a b).1.ID, r.Notes, r.NextWrit + 1, r.NextThing⟩) := by
  unfold giveR at h ⊢
  by_cases h1 : (getR r p).2 = 0
  · rw [if_pos h1] at h ⊢
    by_cases h2 : freeR r t = 0
    · rw [if_pos h2] at h ⊢
      by_cases h3 : p.Holder = t.Holder ∨ hasR (getR r p).1.Rights 4 = true
      · rw [if_pos h3] at h ⊢
        by_cases h4 : 999 < r.NextWrit
        · rw [if_pos h4] at h; simp at h
        · rw [if_neg h4] at h ⊢
          by_cases h5 : (derived (getR r p).1 r.NextWrit a b).2 = 0
          · rw [if_pos h5]
            refine ⟨h1, h2, h3, by omega, h5, fun hp => ?_⟩
            unfold addR; dsimp only; rw [if_pos hp]
          · rw [if_neg h5] at h; exact absurd h h5
      · rw [if_neg h3] at h; simp at h
    · rw [if_neg h2] at h; exact absurd h h2
  · rw [if_neg h1] at h; exact absurd h h1
/-- a writ that is made of one that is there -/
theorem Inv.derive (h : Inv r) {g : Writ} (hg : g ∈ r.Writs) {a b : Int} (hn : r.NextWrit ≤ 999) (hd : (derived g r.NextWrit a b).2 = 0) : TreeOk (r.Writs ++ [(derived g r.NextWrit a b).1]) ∧ (derived g r.NextWrit a b).1.ID = r.NextWrit ∧ (derived g r.NextWrit a b).1.Thing = g.Thing ∧ (derived g r.NextWrit a b).1.Rights = a ∧ (derived g r.NextWrit a b).1.From = g.ID ∧ hasR g.Rights a = true ∧ 0 ≤ a ∧ a ≤ 7 := by
  obtain ⟨a0, a7, b0, b9, hh, e, hb⟩ := derived_zero hd
  have w := h.tree.mem hg
  have w1 := w.id1; have w2 := w.th1; have w3 := w.th9; have w4 := w.ba0; have w5 := w.ba9; have w6 := h.wlt g hg
  rw [e]
  refine ⟨tree_snoc h.tree (writFault_ok ⟨by show 1 ≤ r.NextWrit; omega, hn, w2, w3, ?_, ?_, by show 0 ≤ g.ID; omega, w6, a0, a7⟩) (fun y hy => h.wlt y hy) (fun _ => ⟨g, hg, rfl, hh, ?_, rfl⟩), rfl, rfl, rfl, rfl, hh, a0, a7⟩
  · show 0 ≤ (if b = 0 then g.Badge else b); split <;> omega
  · show (if b = 0 then g.Badge else b) ≤ 99; split <;> omega
  · show g.Badge = 0 ∨ (if b = 0 then g.Badge else b) = g.Badge
    split <;> omega
theorem Inv.give (h : Inv r) {p t : Place} {a b : Int} (hm : (giveR r p t a b).2 = 0) : Inv (giveR r p t a b).1 := by
  obtain ⟨hg, hf, hr, hw, hd, he⟩ := give_parts hm
  obtain ⟨hp, ha⟩ := free_zero hf
  have hpl := placeFault_zero hp
  obtain ⟨_, hgm, _⟩ := h.get hg
  obtain ⟨htree, hid, hth, _⟩ := h.derive hgm hw hd
  rw [he (by omega), hid]
  generalize hx : (derived (getR r p).1 r.NextWrit a b).1 = x at *
  have n1 := h.nw1; have hfr := h.fresh
  have hi : r.NextWrit ≠ 0 := by omega
  have hgp := good_put (id := r.NextWrit) h.good hp
  refine { tree := htree, good := hgp, wlt := ?_, nw1 := by show 1 ≤ r.NextWrit + 1; omega, nw2 := by show r.NextWrit + 1 ≤ 1000; omega, nt1 := h.nt1, nt2 := h.nt2, trise := h.trise, tlt := h.tlt, tkind := h.tkind, tdata := h.tdata, tmax := h.tmax, thing := ?_, port := h.port, ndata := h.ndata, wait := h.wait, nwrit := h.nwrit, once := ?_, nthere := ?_, hthere := ?_, used := ?_ }
  · intro w hw
    show w.ID < r.NextWrit + 1
    rcases List.mem_append.1 hw with hw | hw
    · have := h.wlt w hw; omega
    · rw [List.mem_singleton.1 hw, hid]; omega
  · intro w hw
    rcases List.mem_append.1 hw with hw | hw
    · exact h.thing w hw
    · rw [List.mem_singleton.1 hw, hth]; exact h.thing _ hgm
  · intro w hw
    show cH (putH r.Held t r.NextWrit) w.ID + cN r.Notes w.ID = 1
    rw [cH_new h.good ha hi]
    rcases List.mem_append.1 hw with hw | hw
    · have := h.wlt w hw; have := h.once w hw
      rw [if_neg (by omega)]; omega
    · rw [List.mem_singleton.1 hw, hid, if_pos rfl]; omega
  · intro n hn h0
    obtain ⟨w, hw, e⟩ := h.nthere n hn h0
    exact ⟨w, List.mem_append.2 (.inl hw), e⟩
  · intro y hy
    rcases (mem_putN h.good ha hi).1 hy with e | hy
    · rw [e]; exact ⟨x, List.mem_append.2 (.inr (List.mem_singleton.2 rfl)), hid⟩
    · obtain ⟨w, hw, e⟩ := h.hthere y hy
      exact ⟨w, List.mem_append.2 (.inl hw), e⟩
  · intro t ht
    obtain ⟨w, hw, e⟩ := h.used t ht
    exact ⟨w, List.mem_append.2 (.inl hw), e⟩
/-! ### moving -/
theorem move_parts {p : Place} {s : Int} (h : (moveR r p s).2 = 0) : (getR r p).2 = 0 ∧ freeR r ⟨p.Holder, s⟩ = 0 ∧ (moveR r p s).1 = ⟨r.Writs, r.Things, putH (putH r.Held p 0) ⟨p.Holder, s⟩ (getR r p).1.ID, r.Notes, r.NextWrit, r.NextThing⟩ := by
  unfold moveR at h ⊢
  by_cases h1 : (getR r p).2 = 0
  · rw [if_pos h1] at h ⊢
    by_cases h2 : freeR r ⟨p.Holder, s⟩ = 0
    · rw [if_pos h2]; exact ⟨h1, h2, rfl⟩
    · rw [if_neg h2] at h; exact absurd h h2
  · rw [if_neg h1] at h; exact absurd h h1
theorem Inv.held (h : Inv r) {m : List Held} (hg : Good m) (hc : ∀ w ∈ r.Writs, cH m w.ID = cH r.Held w.ID) (hs : ∀ x ∈ m, ∃ w ∈ r.Writs, w.ID = x.Writ) : Inv ⟨r.Writs, r.Things, m, r.Notes, r.NextWrit, r.NextThing⟩ :=
  { tree := h.tree, good := hg, wlt := h.wlt, nw1 := h.nw1, nw2 := h.nw2, nt1 := h.nt1, nt2 := h.nt2, trise := h.trise, tlt := h.tlt, tkind := h.tkind, tdata := h.tdata, tmax := h.tmax, thing := h.thing, port := h.port, ndata := h.ndata, wait := h.wait, nwrit := h.nwrit, once := fun w hw => by show cH m w.ID + _ = 1; rw [hc w hw]; exact h.once w hw, nthere := h.nthere, hthere := hs, used := h.used }
theorem Inv.move (h : Inv r) {p : Place} {s : Int} (hm : (moveR r p s).2 = 0) : Inv (moveR r p s).1 := by
  obtain ⟨hg, hf, he⟩ := move_parts hm
  obtain ⟨hp, ha⟩ := free_zero hf
  obtain ⟨hpf, hgm, hat, h1, _⟩ := h.get hg
  rw [he]
  have hi : (getR r p).1.ID ≠ 0 := by omega
  have hg1 : Good (putH r.Held p 0) := good_put h.good hpf
  have hne : ¬ (⟨p.Holder, s⟩ : Place) = p := fun e => by rw [e] at ha; omega
  have ha1 : atH (putH r.Held p 0) ⟨p.Holder, s⟩ = 0 := by rw [put_other h.good hpf hne]; exact ha
  refine h.held (good_put hg1 hp) (fun w hw => ?_) (fun x hx => ?_)
  · rw [cH_new hg1 ha1 hi, ← cH_del h.good hat.symm hi]
  · rcases (mem_putN hg1 ha1 hi).1 hx with e | hx
    · rw [e]; exact ⟨_, hgm, rfl⟩
    · exact h.hthere x (mem_putD h.good hat.symm hi hx)
/-! ### dropping, revoking -/
theorem Pre.writs (h : Pre r) {l : List Writ} (ht : TreeOk l) (hs : ∀ v ∈ l, ∃ w ∈ r.Writs, Like v w) : Pre ⟨l, r.Things, r.Held, r.Notes, r.NextWrit, r.NextThing⟩ :=
  { tree := ht, good := h.good, wlt := fun v hv => by obtain ⟨w, hw, k⟩ := hs v hv; rw [k.id]; exact h.wlt w hw, nw1 := h.nw1, nw2 := h.nw2, nt1 := h.nt1, nt2 := h.nt2, trise := h.trise, tlt := h.tlt, tkind := h.tkind, tdata := h.tdata, tmax := h.tmax, thing := fun v hv => by obtain ⟨w, hw, k⟩ := hs v hv; rw [k.th]; exact h.thing w hw, port := h.port, ndata := h.ndata, wait := h.wait, nwrit := h.nwrit, once := fun v hv => by obtain ⟨w, hw, k⟩ := hs v hv; rw [k.id]; exact h.once w hw }
theorem Pre.wo (h : Pre r) (id : Int) : Pre ⟨without r.Writs id, r.Things, r.Held, r.Notes, r.NextWrit, r.NextThing⟩ :=
  h.writs (h.tree.wo id) (fun v hv => by obtain ⟨y, hy, _, rfl⟩ := mem_without.1 hv; exact ⟨y, hy, like_re _ _ y⟩)
theorem mem_cutW {l : List Writ} {id : Int} {x : Writ} : x ∈ cutW l id ↔ x ∈ l ∧ ¬ x.ID ∈ benG id l := by
  unfold cutW; rw [List.mem_filter]; simp
/-- what is made of what is beneath is beneath -/
theorem ben_step {l : List Writ} (h : TreeOk l) {id : Int} {x y : Writ} (hi : 0 ≤ findW l id) (hx : x ∈ l) (hy : y ∈ l) (e : y.ID = x.From) (hb : y.ID ∈ benG id l) : x.ID ∈ benG id l := by
  have h1 := findW_mem hx; have h2 := findW_mem hy
  rw [ben_above h hi h1]
  rw [ben_above h hi h2] at hb
  unfold above at hb ⊢
  obtain ⟨x', _, e1, hx', e2⟩ := fromOf_at h1
  have : x' = x := h.inj hx' hx e1
  subst this
  rw [e2, ← e, chain_some h h2]
  exact List.mem_cons_of_mem _ hb
/-- what is made of it is beneath -/
theorem ben_child {l : List Writ} (h : TreeOk l) {id : Int} {x : Writ} (hi : 0 ≤ findW l id) (hx : x ∈ l) (e : x.From = id) : x.ID ∈ benG id l := by
  have h1 := findW_mem hx
  rw [ben_above h hi h1]
  unfold above
  obtain ⟨x', _, e1, hx', e2⟩ := fromOf_at h1
  have : x' = x := h.inj hx' hx e1
  subst this
  rw [e2, e, chain_some h hi]
  exact List.mem_cons_self ..
theorem TreeOk.cut {l : List Writ} (h : TreeOk l) {id : Int} (hi : 0 ≤ findW l id) : TreeOk (cutW l id) := by
  have hs := h.is
  refine TreeIs.ok' ⟨fun x hx => hs.ok x (mem_cutW.1 hx).1, hs.rise.filter _, fun x hx h0 => ?_⟩
  obtain ⟨h1, h2⟩ := mem_cutW.1 hx
  obtain ⟨y, hy, hm⟩ := hs.made x h1 h0
  exact ⟨y, mem_cutW.2 ⟨hy, fun hb => h2 (ben_step h hi h1 hy hm.frm hb)⟩, hm⟩
theorem Pre.cut (h : Pre r) {id : Int} (hi : 0 ≤ findW r.Writs id) : Pre ⟨cutW r.Writs id, r.Things, r.Held, r.Notes, r.NextWrit, r.NextThing⟩ :=
  h.writs (h.tree.cut hi) (fun v hv => ⟨v, (mem_cutW.1 hv).1, Like.refl v⟩)
theorem drop_parts {p : Place} (h : (dropR r p).2 = 0) : (getR r p).2 = 0 ∧ (dropR r p).1 = sweepR ⟨without r.Writs (getR r p).1.ID, r.Things, r.Held, r.Notes, r.NextWrit, r.NextThing⟩ := by
  unfold dropR at h ⊢
  by_cases h1 : (getR r p).2 = 0
  · rw [if_pos h1]; exact ⟨h1, rfl⟩
  · rw [if_neg h1] at h; exact absurd h h1
theorem revoke_parts {p : Place} (h : (revokeR r p).2 = 0) : (getR r p).2 = 0 ∧ (revokeR r p).1 = sweepR ⟨cutW r.Writs (getR r p).1.ID, r.Things, r.Held, r.Notes, r.NextWrit, r.NextThing⟩ := by
  unfold revokeR at h ⊢
  by_cases h1 : (getR r p).2 = 0
  · rw [if_pos h1]; exact ⟨h1, rfl⟩
  · rw [if_neg h1] at h; exact absurd h h1
theorem Inv.drop (h : Inv r) {p : Place} (hm : (dropR r p).2 = 0) : Inv (dropR r p).1 := by
  rw [(drop_parts hm).2]; exact sweep_inv (h.toPre.wo _)
theorem Inv.revoke (h : Inv r) {p : Place} (hm : (revokeR r p).2 = 0) : Inv (revokeR r p).1 := by
  obtain ⟨hg, he⟩ := revoke_parts hm
  rw [he]; exact sweep_inv (h.toPre.cut (findW_mem (h.get hg).2.1))
/-! ### cells -/
theorem mem_set {l : List Thing} {i : Nat} {d : ByteArray} {x : Thing} (h : x ∈ setData l i d) : ∃ (k : Nat) (t : Thing), l[k]? = some t ∧ x.ID = t.ID ∧ x.Kind = t.Kind ∧ (x.Data = t.Data ∨ k = i ∧ x.Data = d) := by
  unfold setData at h
  split at h
  · rename_i t ht
    obtain ⟨k, hk⟩ := List.mem_iff_getElem?.1 h
    rw [List.getElem?_set] at hk
    split at hk
    · rename_i e; subst e
      split at hk
      · injection hk with hk; subst hk; exact ⟨_, t, ht, rfl, rfl, .inr ⟨rfl, rfl⟩⟩
      · cases hk
    · exact ⟨k, x, hk, rfl, rfl, .inl rfl⟩
  · obtain ⟨k, hk⟩ := List.mem_iff_getElem?.1 h
    exact ⟨k, x, hk, rfl, rfl, .inl rfl⟩
theorem set_mem {l : List Thing} {i : Nat} {d : ByteArray} {t : Thing} (h : t ∈ l) : ∃ x ∈ setData l i d, x.ID = t.ID ∧ x.Kind = t.Kind := by
  unfold setData
  split
  · rename_i y hy
    obtain ⟨k, hk⟩ := List.mem_iff_getElem?.1 h
    by_cases e : i = k
    · subst e; rw [hk] at hy; injection hy with hy; subst hy
      exact ⟨_, List.mem_set (by have := (List.getElem?_eq_some_iff.1 hk).1; exact this) _, rfl, rfl⟩
    · exact ⟨t, List.mem_of_getElem? (i := k) (by rw [List.getElem?_set, if_neg e]; exact hk), rfl, rfl⟩
  · exact ⟨t, h, rfl, rfl⟩
theorem set_ids (l : List Thing) (i : Nat) (d : ByteArray) : (setData l i d).map Thing.ID = l.map Thing.ID := by
  unfold setData
  split
  · rename_i t ht
    rw [List.map_set]
    apply List.ext_getElem?
    intro k
    rw [List.getElem?_set]
    split
    · rename_i e; subst e; rw [List.getElem?_map, ht]
      split
      · rfl
      · rename_i hk; exfalso; apply hk; have := (List.getElem?_eq_some_iff.1 ht).1; simpa using this
    · rfl
  · rfl
theorem write_parts {p : Place} {d : ByteArray} (h : (writeR r p d).2 = 0) : (mayR r p 1 2).2.2 = 0 ∧ d.size ≤ 8 ∧ (writeR r p d).1 = ⟨r.Writs, setData r.Things (mayR r p 1 2).2.1.toNat d, r.Held, r.Notes, r.NextWrit, r.NextThing⟩ := by
  unfold writeR at h ⊢
  by_cases h1 : (mayR r p 1 2).2.2 = 0
  · rw [if_pos h1] at h ⊢
    by_cases h2 : 8 < d.size
    · rw [if_pos h2] at h; simp at h
    · rw [if_neg h2]; exact ⟨h1, by omega, rfl⟩
  · rw [if_neg h1] at h; exact absurd h h1
theorem Inv.write (h : Inv r) {p : Place} {d : ByteArray} (hm : (writeR r p d).2 = 0) : Inv (writeR r p d).1 := by
  obtain ⟨hy, hd, he⟩ := write_parts hm
  obtain ⟨_, _, _, k, t, hk, ht, htid, htk, _⟩ := mayR_zero hy
  rw [he, hk, Int.toNat_natCast]
  have hids := set_ids r.Things k d
  have hin : ∀ x ∈ setData r.Things k d, ∃ y ∈ r.Things, x.ID = y.ID ∧ x.Kind = y.Kind := fun x hx => by
    obtain ⟨j, y, hj, a, b, _⟩ := mem_set hx; exact ⟨y, List.mem_of_getElem? hj, a, b⟩
  refine { tree := h.tree, good := h.good, wlt := h.wlt, nw1 := h.nw1, nw2 := h.nw2, nt1 := h.nt1, nt2 := h.nt2, trise := ?_, tlt := ?_, tkind := ?_, tdata := ?_, tmax := by show (setData _ _ _).length ≤ 10; rw [setData_len]; exact h.tmax, thing := ?_, port := ?_, ndata := h.ndata, wait := h.wait, nwrit := h.nwrit, once := h.once, nthere := h.nthere, hthere := h.hthere, used := ?_ }
  · have h1 : (r.Things.map Thing.ID).Pairwise (· < ·) := List.pairwise_map.2 h.trise
    show (setData r.Things k d).Pairwise _
    rw [← hids] at h1
    exact List.pairwise_map.1 h1
  · intro x hx; obtain ⟨y, hy, a, b⟩ := hin x hx; show 1 ≤ x.ID ∧ x.ID < r.NextThing; rw [a]; exact h.tlt y hy
  · intro x hx; obtain ⟨y, hy, a, b⟩ := hin x hx; rw [b]; exact h.tkind y hy
  · intro x hx
    obtain ⟨j, y, hj, a, b, c⟩ := mem_set hx
    have := h.tdata y (List.mem_of_getElem? hj)
    rcases c with c | ⟨c, c2⟩
    · rw [c, b]; exact this
    · subst c; rw [ht] at hj; injection hj with hj; subst hj
      rw [c2]; exact ⟨hd, fun h2 => by rw [b, htk] at h2; omega⟩
  · intro w hw
    obtain ⟨t', ht', e⟩ := h.thing w hw
    obtain ⟨x, hx, a, _⟩ := set_mem (i := k) (d := d) ht'
    exact ⟨x, hx, by rw [a, e]⟩
  · intro n hn
    obtain ⟨t', ht', e, e2⟩ := h.port n hn
    obtain ⟨x, hx, a, b⟩ := set_mem (i := k) (d := d) ht'
    exact ⟨x, hx, by rw [a, e], by rw [b, e2]⟩
  · intro x hx; obtain ⟨y, hy, a, b⟩ := hin x hx; rw [a]; exact h.used y hy
end
end Go.Proofs.YtpipachmngdegaaGreat
end
