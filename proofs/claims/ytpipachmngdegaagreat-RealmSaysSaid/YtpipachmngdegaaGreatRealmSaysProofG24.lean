import Derived.Test.YtpipachmngdegaaGreatRealmSaysProofG22
section
/-
  The laws of chapter 3: what is beneath is above the other way round; without a writ all others are still right. No program.
-/
namespace Go.Proofs.YtpipachmngdegaaGreat
open Go.RowKit
set_option linter.unusedVariables false

/-! ### one writ is right of another one -/
structure Made (y x : Writ) : Prop where
  thing : y.Thing = x.Thing
  has : hasR y.Rights x.Rights = true
  badge : y.Badge = 0 ∨ x.Badge = y.Badge
  frm : y.ID = x.From
theorem made_of {y x : Writ} (h1 : (derived y x.ID x.Rights x.Badge).2 = 0) (h2 : (derived y x.ID x.Rights x.Badge).1 = x) : Made y x := by
  unfold derived at h1 h2
  split at h1; · simp at h1
  split at h1; · simp at h1
  split at h1; · simp at h1
  split at h1; · simp at h1
  split at h1; · simp at h1
  rename_i a b c d e
  rw [if_neg a, if_neg b, if_neg c, if_neg d, if_neg e] at h2
  have ht := congrArg Writ.Thing h2
  have hb := congrArg Writ.Badge h2
  have hf := congrArg Writ.From h2
  simp only [] at ht hb hf
  refine ⟨ht, by simpa using d, ?_, hf⟩
  by_cases h0 : x.Badge = 0
  · rw [if_pos h0] at hb; exact .inl (by omega)
  · by_cases hy : y.Badge = 0
    · exact .inl hy
    · right
      by_cases he : x.Badge = y.Badge
      · exact he
      · exact absurd ⟨h0, hy, he⟩ e
theorem derived_of {y x : Writ} (w : WOk x) (h : Made y x) : derived y x.ID x.Rights x.Badge = (x, 0) := by
  have := w.ri0; have := w.ri7; have := w.ba0; have := w.ba9
  unfold derived
  rw [if_neg (by rw [rightFault_ok w.ri0 w.ri7]; omega), if_neg (by omega), if_neg (by omega), if_neg (by rw [h.has]; simp), if_neg (by rintro ⟨h1, h2, h3⟩; rcases h.badge with h4 | h4 <;> omega)]
  have hb : (if x.Badge = 0 then y.Badge else x.Badge) = x.Badge := by
    split
    · rcases h.badge with h4 | h4 <;> omega
    · rfl
  rw [hb, h.thing, h.frm]
theorem hasT_fin : ∀ a b c : Fin 8, hasR ((a : Nat) : Int) ((b : Nat) : Int) = true → hasR ((b : Nat) : Int) ((c : Nat) : Int) = true → hasR ((a : Nat) : Int) ((c : Nat) : Int) = true := by decide
theorem hasT {a b c : Int} (a0 : 0 ≤ a) (a7 : a ≤ 7) (b0 : 0 ≤ b) (b7 : b ≤ 7) (c0 : 0 ≤ c) (c7 : c ≤ 7) (h : hasR a b = true) (k : hasR b c = true) : hasR a c = true := by
  obtain ⟨x, rfl⟩ := fin_of a0 a7; obtain ⟨y, rfl⟩ := fin_of b0 b7; obtain ⟨z, rfl⟩ := fin_of c0 c7; exact hasT_fin x y z h k

/-! ### a tree is right: in words -/
structure TreeIs (l : List Writ) : Prop where
  ok : ∀ x ∈ l, writFault x = 0
  rise : l.Pairwise (fun x y => x.ID < y.ID)
  made : ∀ x ∈ l, x.From ≠ 0 → ∃ y ∈ l, Made y x
theorem TreeOk.fault {l : List Writ} (h : TreeOk l) {x : Writ} (hx : x ∈ l) : writFault x = 0 := by
  obtain ⟨j, hj⟩ := List.mem_iff_getElem?.1 hx
  rcases writFault_01 x with h1 | h1
  · exact h1
  · have := stepF_fault hj (by omega); rw [h.steps j (List.getElem?_eq_some_iff.1 hj).1] at this; omega
theorem TreeOk.is {l : List Writ} (h : TreeOk l) : TreeIs l := by
  refine ⟨fun x hx => h.fault hx, ?_, fun x hx h0 => ?_⟩
  · rw [List.pairwise_iff_getElem]
    intro i j hi hj hij
    exact h.rise j i hij (List.getElem?_eq_getElem hj) (List.getElem?_eq_getElem hi)
  · obtain ⟨k, hk⟩ := List.mem_iff_getElem?.1 hx
    obtain ⟨j, y, hj, hy, _, h1, h2⟩ := stepF_from hk (h.steps k (List.getElem?_eq_some_iff.1 hk).1) h0
    exact ⟨y, List.mem_of_getElem? hy, made_of h1 h2⟩
theorem pairwise_at {l : List Writ} (h : l.Pairwise (fun x y => x.ID < y.ID)) {i j : Nat} {x y : Writ} (hi : l[i]? = some x) (hj : l[j]? = some y) (hij : i < j) : x.ID < y.ID := by
  rw [List.pairwise_iff_getElem] at h
  obtain ⟨h1, rfl⟩ := List.getElem?_eq_some_iff.1 hi
  obtain ⟨h2, rfl⟩ := List.getElem?_eq_some_iff.1 hj
  exact h i j h1 h2 hij
theorem TreeIs.ok' {l : List Writ} (h : TreeIs l) : TreeOk l := by
  refine treeFault_zero fun k hk => ?_
  have hx : l[k]? = some l[k] := List.getElem?_eq_getElem hk
  have hm : l[k] ∈ l := List.getElem_mem hk
  have h0 := h.ok _ hm
  have w := wOk_of h0
  have hsh : ¬ 0 < k ∨ ∃ y, l[k - 1]? = some y ∧ y.ID < (l[k]).ID := by
    by_cases h1 : 0 < k
    · have hy : l[k - 1]? = some (l[k - 1]'(by omega)) := List.getElem?_eq_getElem (by omega)
      exact .inr ⟨_, hy, pairwise_at h.rise hy hx (by omega)⟩
    · exact .inl h1
  by_cases hf : (l[k]).From = 0
  · exact stepF_root hx h0 hsh hf
  · obtain ⟨y, hy, hmd⟩ := h.made _ hm hf
    obtain ⟨j, hj⟩ := List.mem_iff_getElem?.1 hy
    have hjl : j < l.length := (List.getElem?_eq_some_iff.1 hj).1
    have hjk : j < k := by
      rcases Nat.lt_trichotomy j k with h1 | h1 | h1
      · exact h1
      · subst h1; rw [hj] at hx; injection hx with hx
        have := hmd.frm; have := w.frl; rw [hx] at *; omega
      · have := pairwise_at h.rise hx hj h1; have := hmd.frm; have := w.frl; omega
    have hfw : findW (l.take k) (l[k]).From = (j : Int) := by
      have hl : j < (l.take k).length := by rw [List.length_take]; omega
      have hge : (l.take k)[j] = y := by
        rw [List.getElem_take]; exact (List.getElem?_eq_some_iff.1 hj).2
      refine findW_eq hl (by rw [hge]; exact hmd.frm) (fun i z hi hz => ?_)
      have hz' : l[i]? = some z := by rw [List.getElem?_take, if_pos (by omega)] at hz; exact hz
      have := pairwise_at h.rise hz' hj hi
      have := hmd.frm; omega
    rw [stepF_some hx h0 hsh hf hfw hjk hj]
    have := derived_of w hmd
    rw [this]; simp

/-! ### beneath, and above -/
theorem ben_above {l : List Writ} (h : TreeOk l) {a b : Int} (ha : 0 ≤ findW l a) (hb : 0 ≤ findW l b) : b ∈ benG a l ↔ a ∈ above l b := by
  rw [benG_eq h]
  have ha0 := h.from0 ha
  have hb0 := h.from0 hb
  unfold beneath benR above
  rw [← up_chain h ha _ hb0.2.2.1]
  simp only [List.mem_map, List.mem_filter, isB, Bool.and_eq_true, decide_eq_true_eq]
  obtain ⟨y, _, hy2, hy3, hy4⟩ := fromOf_at hb
  constructor
  · rintro ⟨x, ⟨hx, hu, _⟩, hid⟩
    have : x = y := h.inj hx hy3 (by omega)
    subst this; rw [hy4]; exact hu
  · intro hu
    exact ⟨y, ⟨hy3, by rw [← hy4]; exact hu, ha0.1⟩, hy2⟩
theorem above_self {l : List Writ} (h : TreeOk l) {a : Int} (ha : 0 ≤ findW l a) : ¬ a ∈ above l a := by
  intro hm
  have := (chain_le (l := l) (fromOf l a)).1 a hm
  have := h.from0 ha; omega
theorem ben_self {l : List Writ} (h : TreeOk l) {a : Int} (ha : 0 ≤ findW l a) : ¬ a ∈ benG a l := fun hm => above_self h ha ((ben_above h ha ha).1 hm)

/-! ### without a writ -/
theorem mem_without {l : List Writ} {id : Int} {x : Writ} : x ∈ without l id ↔ ∃ y ∈ l, y.ID ≠ id ∧ x = woRe id (fromOf l id) y := by
  unfold without woG
  simp only [List.mem_map, List.mem_filter, decide_eq_true_eq]
  constructor
  · rintro ⟨y, ⟨h1, h2⟩, rfl⟩; exact ⟨y, h1, h2, rfl⟩
  · rintro ⟨y, h1, h2, rfl⟩; exact ⟨y, ⟨h1, h2⟩, rfl⟩
theorem woRe_id {id f : Int} (x : Writ) : (woRe id f x).ID = x.ID ∧ (woRe id f x).Thing = x.Thing ∧ (woRe id f x).Rights = x.Rights ∧ (woRe id f x).Badge = x.Badge := by unfold woRe; split <;> exact ⟨rfl, rfl, rfl, rfl⟩
theorem woRe_from {id f : Int} (x : Writ) : (woRe id f x).From = if x.From = id then f else x.From := by unfold woRe; split <;> rfl
theorem wF_from {x : Writ} (h : writFault x = 0) {f : Int} (h0 : 0 ≤ f) (h1 : f < x.ID) : writFault { x with From := f } = 0 := by
  have w := wOk_of h
  rcases writFault_cases { x with From := f } with ⟨h2, h3⟩ | ⟨h2, _⟩
  · have := w.id1; have := w.id9; have := w.th1; have := w.th9; have := w.ba0; have := w.ba9; have := w.ri0; have := w.ri7
    simp only [] at h3; omega
  · exact h2
theorem made_re {id f : Int} {y x : Writ} (h : Made y x) (hf : x.From ≠ id) : Made (woRe id f y) (woRe id f x) := by
  have hy := woRe_id (id := id) (f := f) y
  have hx := woRe_id (id := id) (f := f) x
  refine ⟨by rw [hy.2.1, hx.2.1]; exact h.thing, by rw [hy.2.2.1, hx.2.2.1]; exact h.has, by rw [hy.2.2.2, hx.2.2.2]; exact h.badge, ?_⟩
  rw [hy.1, woRe_from, if_neg hf]; exact h.frm
theorem TreeOk.wo {l : List Writ} (h : TreeOk l) (id : Int) : TreeOk (without l id) := by
  have hi := h.is
  refine TreeIs.ok' ⟨fun x hx => ?_, ?_, fun x hx h0 => ?_⟩
  · obtain ⟨y, hy, hne, rfl⟩ := mem_without.1 hx
    have hyf := hi.ok y hy
    unfold woRe
    split
    · rename_i he
      have w := wOk_of hyf
      have := w.fr0; have := w.frl
      have hid : 0 ≤ fromOf l id ∧ (0 < fromOf l id → fromOf l id < id) := by
        rcases Int.lt_or_le (findW l id) 0 with h1 | h1
        · rw [fromOf_out h1]; omega
        · have := h.from0 h1; omega
      exact wF_from hyf hid.1 (by omega)
    · exact hyf
  · unfold without woG
    rw [List.pairwise_map]
    refine (hi.rise.filter _).imp ?_
    intro a b hab
    rw [(woRe_id a).1, (woRe_id b).1]; exact hab
  · obtain ⟨y, hy, hne, rfl⟩ := mem_without.1 hx
    rw [woRe_from] at h0
    by_cases he : y.From = id
    · rw [if_pos he] at h0
      have hid : 0 ≤ findW l id := by
        rcases Int.lt_or_le (findW l id) 0 with h1 | h1
        · rw [fromOf_out h1] at h0; exact absurd rfl h0
        · exact h1
      obtain ⟨p, _, hp2, hp3, hp4⟩ := fromOf_at hid
      have hpid := h.from0 hid
      obtain ⟨z, hz, hzp⟩ := hi.made p hp3 (by rw [← hp4]; exact h0)
      have hy0 : y.From ≠ 0 := by rw [he]; omega
      obtain ⟨p', hp', hpy⟩ := hi.made y hy hy0
      have : p' = p := h.inj hp' hp3 (by rw [hpy.frm, he, hp2])
      subst this
      have hzne : z.ID ≠ id := by have := hzp.frm; rw [← hp4] at this; omega
      refine ⟨woRe id (fromOf l id) z, mem_without.2 ⟨z, hz, hzne, rfl⟩, ?_⟩
      have wz := h.mem hz; have wp := h.mem hp3; have wy := h.mem hy
      have hz' := woRe_id (id := id) (f := fromOf l id) z
      have hy' := woRe_id (id := id) (f := fromOf l id) y
      refine ⟨by rw [hz'.2.1, hy'.2.1, hzp.thing, hpy.thing], by rw [hz'.2.2.1, hy'.2.2.1]; exact hasT wz.ri0 wz.ri7 wp.ri0 wp.ri7 wy.ri0 wy.ri7 hzp.has hpy.has, ?_, ?_⟩
      · rw [hz'.2.2.2, hy'.2.2.2]
        rcases hzp.badge with h1 | h1
        · exact .inl h1
        · rcases hpy.badge with h2 | h2
          · exact .inl (by omega)
          · exact .inr (by omega)
      · rw [hz'.1, woRe_from, if_pos he, hzp.frm, hp4]
    · rw [if_neg he] at h0
      obtain ⟨p, hp, hpy⟩ := hi.made y hy h0
      exact ⟨woRe id (fromOf l id) p, mem_without.2 ⟨p, hp, by rw [hpy.frm]; exact he, rfl⟩, made_re hpy he⟩
theorem findW_none' {l : List Writ} {id : Int} (h : ∀ x ∈ l, x.ID ≠ id) : findW l id < 0 := by
  rcases findW_cases l id with ⟨h1, _⟩ | ⟨k, hk, h1, h2, _⟩
  · omega
  · exact absurd h2 (h _ (List.getElem_mem hk))
theorem without_gone (l : List Writ) (id : Int) : findW (without l id) id < 0 := findW_none' fun x hx => by
  obtain ⟨y, hy, hne, rfl⟩ := mem_without.1 hx
  rw [(woRe_id y).1]; exact hne
theorem without_there {l : List Writ} (h : TreeOk l) {id : Int} {x : Writ} (hx : x ∈ l) (hne : x.ID ≠ id) : ∃ y, (without l id)[(findW (without l id) x.ID).toNat]? = some y ∧ 0 ≤ findW (without l id) x.ID ∧ y = woRe id (fromOf l id) x := by
  have hm : woRe id (fromOf l id) x ∈ without l id := mem_without.2 ⟨x, hx, hne, rfl⟩
  have hf : 0 ≤ findW (without l id) x.ID := by have := findW_mem hm; rwa [(woRe_id x).1] at this
  obtain ⟨y, h1, h2, h3⟩ := findW_at _ _ hf
  exact ⟨y, h1, hf, (h.wo id).inj h3 hm (by rw [h2, (woRe_id x).1])⟩
theorem without_from {l : List Writ} (h : TreeOk l) {id f : Int} (hne : f ≠ id) : fromOf (without l id) f = if fromOf l f = id ∧ 0 ≤ findW l f then fromOf l id else fromOf l f := by
  rcases Int.lt_or_le (findW l f) 0 with h1 | h1
  · have h2 : findW (without l id) f < 0 := findW_none' fun x hx he => by
      obtain ⟨y, hy, _, rfl⟩ := mem_without.1 hx
      rw [(woRe_id y).1] at he
      have := findW_mem hy; rw [he] at this; omega
    rw [fromOf_out h2, fromOf_out h1, if_neg (by omega)]
  · obtain ⟨x, _, hx2, hx3, hx4⟩ := fromOf_at h1
    obtain ⟨y, hy1, hy2, rfl⟩ := without_there h (id := id) hx3 (by omega)
    rw [hx2] at hy1 hy2
    obtain ⟨z, hz1, _, _, hz4⟩ := fromOf_at hy2
    rw [hy1] at hz1; injection hz1 with hz1
    rw [hz4, ← hz1, woRe_from, hx4]
    by_cases he : x.From = id
    · rw [if_pos he, if_pos ⟨he, h1⟩]
    · rw [if_neg he, if_neg (fun hc => he hc.1)]
theorem chain_without {l : List Writ} (h : TreeOk l) {id : Int} (f : Int) : chain (without l id) (if f = id then fromOf l id else f) = offC l id f := by
  by_cases hfi : f = id
  · subst hfi
    rw [if_pos rfl]
    rcases Int.lt_or_le (findW l f) 0 with h1 | h1
    · rw [offC_out h1, fromOf_out h1]
      exact chain_none ((h.wo f).find0 (by omega))
    · rw [offC_hit h h1 rfl]
      have hlt := h.from0 h1
      have ih := chain_without h (id := f) (fromOf l f)
      rw [if_neg (by omega)] at ih
      exact ih
  · rw [if_neg hfi]
    rcases Int.lt_or_le (findW l f) 0 with h1 | h1
    · rw [offC_out h1]
      refine chain_none (findW_none' fun x hx he => ?_)
      obtain ⟨y, hy, _, rfl⟩ := mem_without.1 hx
      rw [(woRe_id y).1] at he
      have := findW_mem hy; rw [he] at this; omega
    · have hlt := h.from0 h1
      obtain ⟨x, _, hx2, hx3, hx4⟩ := fromOf_at h1
      obtain ⟨y, hy1, hy2, _⟩ := without_there h (id := id) hx3 (by omega)
      rw [hx2] at hy2
      rw [offC_miss h h1 hfi, chain_some (h.wo id) hy2, without_from h hfi]
      have ih := chain_without h (id := id) (fromOf l f)
      congr 1
      by_cases he : fromOf l f = id
      · rw [if_pos ⟨he, h1⟩]; rw [if_pos he] at ih; exact ih
      · rw [if_neg (fun hc => he hc.1)]; rw [if_neg he] at ih; exact ih
termination_by f.toNat
decreasing_by all_goals omega
theorem above_without {l : List Writ} (h : TreeOk l) {id f : Int} (hne : f ≠ id) : above (without l id) f = (above l f).filter (fun z => decide (z ≠ id)) := by
  have := chain_without h (id := id) (fromOf l f)
  unfold above
  rw [without_from h hne]
  by_cases he : fromOf l f = id
  · rw [if_pos he] at this
    by_cases h1 : 0 ≤ findW l f
    · rw [if_pos ⟨he, h1⟩]; exact this
    · have h2 : id = 0 := by rw [← he]; exact fromOf_out (by omega)
      rw [if_neg (by omega), he, h2, chain_none ((h.wo 0).find0 (by omega)), chain_none (h.find0 (by omega))]; rfl
  · rw [if_neg he] at this; rw [if_neg (fun hc => he hc.1)]; exact this
theorem woRef_eq {l : List Writ} (h : TreeOk l) (id : Int) : woRef l id = without l id := by
  unfold woRef
  split
  · rename_i h1
    unfold without woG
    rw [fromOf_out h1]
    have : ∀ x ∈ l.filter (fun x => decide (x.ID ≠ id)), woRe id 0 x = x := by
      intro x hx
      have hxl := (List.mem_filter.1 hx).1
      unfold woRe; split
      · rename_i he
        by_cases h0 : x.From = 0
        · cases x; simp only [] at h0; subst h0; rfl
        · obtain ⟨y, hy, hm⟩ := h.is.made x hxl h0
          have := findW_mem hy; rw [hm.frm, he] at this; omega
      · rfl
    exact (List.map_congr_left this).trans (List.map_id' _) |>.symm
  · rfl
end Go.Proofs.YtpipachmngdegaaGreat
end
