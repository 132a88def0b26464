import Derived.Test.YtpipachmngdegaaGreatRealmSaysProofG20
section
/-
  What is above a writ, and beneath: plain functions. No program.
-/
namespace Go.Proofs.YtpipachmngdegaaGreat
open Go.RowKit
set_option linter.unusedVariables false

/-! ### a tree that is right -/
theorem stepF_rise {l : List Writ} {k : Nat} {x y : Writ} (hx : l[k]? = some x) (h : stepF l k = 0) (hk : 0 < k) (hy : l[k - 1]? = some y) : y.ID < x.ID := by
  have hw := stepF_ok hx h
  have h0 : writFault x = 0 := by rcases writFault_01 x with h1 | h1; exact h1; rw [stepF_fault hx (by omega)] at h; omega
  rcases Int.lt_or_le y.ID x.ID with h1 | h1
  · exact h1
  · rw [stepF_shape hx h0 hk hy (by omega)] at h; omega
theorem TreeOk.rise {l : List Writ} (h : TreeOk l) : ∀ (j i : Nat) {x y : Writ}, i < j → l[j]? = some x → l[i]? = some y → y.ID < x.ID
  | 0, i, x, y, hij, hx, hy => by omega
  | j + 1, i, x, y, hij, hx, hy => by
    have hlt : j + 1 < l.length := (List.getElem?_eq_some_iff.1 hx).1
    have hz : l[j]? = some l[j] := List.getElem?_eq_getElem (by omega)
    have h1 := stepF_rise hx (h.steps _ hlt) (by omega) hz
    by_cases hj : i = j
    · subst hj; rw [hz] at hy; injection hy with hy; subst hy; exact h1
    · have := h.rise j i (by omega) hz hy; omega
theorem TreeOk.inj {l : List Writ} (h : TreeOk l) {x y : Writ} (hx : x ∈ l) (hy : y ∈ l) (he : x.ID = y.ID) : x = y := by
  obtain ⟨i, hi⟩ := List.mem_iff_getElem?.1 hx
  obtain ⟨j, hj⟩ := List.mem_iff_getElem?.1 hy
  rcases Nat.lt_trichotomy i j with h1 | h1 | h1
  · have := h.rise j i h1 hj hi; omega
  · subst h1; rw [hi] at hj; injection hj
  · have := h.rise i j h1 hi hj; omega
/-- of what a writ was made -/
theorem stepF_from {l : List Writ} {k : Nat} {x : Writ} (hx : l[k]? = some x) (h : stepF l k = 0) (h0 : x.From ≠ 0) :
    ∃ j y, j < k ∧ l[j]? = some y ∧ y.ID = x.From ∧ (derived y x.ID x.Rights x.Badge).2 = 0 ∧ (derived y x.ID x.Rights x.Badge).1 = x := by
  have hw : writFault x = 0 := by rcases writFault_01 x with h1 | h1; exact h1; rw [stepF_fault hx (by omega)] at h; omega
  have hsh : ¬ 0 < k ∨ ∃ y, l[k - 1]? = some y ∧ y.ID < x.ID := by
    by_cases hk : 0 < k
    · have hlt : k < l.length := (List.getElem?_eq_some_iff.1 hx).1
      exact .inr ⟨_, List.getElem?_eq_getElem (by omega), stepF_rise hx h hk (List.getElem?_eq_getElem (by omega))⟩
    · exact .inl hk
  rcases findW_cases (l.take k) x.From with ⟨h1, h2⟩ | ⟨j, hj, h1, h2, h3⟩
  · rw [stepF_none hx hw hsh h0 h1] at h; omega
  · have hjk : j < k := by rw [List.length_take] at hj; omega
    have hlt : k < l.length := (List.getElem?_eq_some_iff.1 hx).1
    have hy : l[j]? = some l[j] := List.getElem?_eq_getElem (by omega)
    rw [stepF_some hx hw hsh h0 h1 hjk hy] at h
    have hid : (l[j]'(by omega)).ID = x.From := by simpa [List.getElem_take] using h2
    by_cases hd : (derived l[j] x.ID x.Rights x.Badge).2 ≠ 0
    · rw [if_pos hd] at h; exact absurd h hd
    · rw [if_neg hd] at h
      by_cases he : (derived l[j] x.ID x.Rights x.Badge).1 ≠ x
      · rw [if_pos he] at h; omega
      · exact ⟨j, _, hjk, hy, hid, by simpa using hd, by simpa using he⟩
theorem findW_mem {l : List Writ} {x : Writ} (hx : x ∈ l) : 0 ≤ findW l x.ID := by
  rcases findW_cases l x.ID with ⟨h1, h2⟩ | ⟨k, hk, h1, h2, _⟩
  · exact absurd rfl (h2 x hx)
  · omega
theorem fromOf_at {l : List Writ} {f : Int} (h : 0 ≤ findW l f) : ∃ y, l[(findW l f).toNat]? = some y ∧ y.ID = f ∧ y ∈ l ∧ fromOf l f = y.From := by
  obtain ⟨y, h1, h2, h3⟩ := findW_at l f h
  exact ⟨y, h1, h2, h3, fromOf_some (j := (findW l f).toNat) (by omega) h1⟩
theorem fromOf_out {l : List Writ} {f : Int} (h : findW l f < 0) : fromOf l f = 0 := by
  rcases findW_cases l f with ⟨h1, _⟩ | ⟨k, hk, h1, _⟩
  · exact fromOf_none h1
  · omega
theorem TreeOk.from0 {l : List Writ} (h : TreeOk l) {f : Int} (hf : 0 ≤ findW l f) : 0 < f ∧ f ≤ 999 ∧ 0 ≤ fromOf l f ∧ fromOf l f < f := by
  obtain ⟨y, h1, h2, h3, h4⟩ := fromOf_at hf
  have w := h.mem h3
  have := w.id1; have := w.fr0; have := w.frl; have := w.id9
  omega
theorem TreeOk.find0 {l : List Writ} (h : TreeOk l) {f : Int} (hf : f ≤ 0) : findW l f < 0 := by
  rcases Int.lt_or_le (findW l f) 0 with h1 | h1
  · exact h1
  · have := h.from0 h1; omega

/-! ### above -/
def chain (l : List Writ) (f : Int) : List Int :=
  if h : 0 ≤ findW l f ∧ 0 < f ∧ fromOf l f < f then f :: chain l (fromOf l f) else []
termination_by f.toNat
decreasing_by omega
def above (l : List Writ) (id : Int) : List Int := chain l (fromOf l id)
theorem chain_some {l : List Writ} (h : TreeOk l) {f : Int} (hf : 0 ≤ findW l f) : chain l f = f :: chain l (fromOf l f) := by
  have := h.from0 hf
  rw [chain, dif_pos ⟨hf, by omega, by omega⟩]
theorem chain_none {l : List Writ} {f : Int} (hf : findW l f < 0) : chain l f = [] := by
  rw [chain, dif_neg (by omega)]
theorem chain_le {l : List Writ} (f : Int) : (∀ z ∈ chain l f, z ≤ f ∧ 0 < z) ∧ (chain l f).length ≤ f.toNat := by
  rw [chain]
  split
  · rename_i hc
    have ih := chain_le (l := l) (fromOf l f)
    refine ⟨fun z hz => ?_, ?_⟩
    · rcases List.mem_cons.1 hz with rfl | hz
      · omega
      · have := ih.1 z hz; omega
    · have := ih.2; simp only [List.length_cons]; omega
  · simp
termination_by f.toNat
decreasing_by omega
theorem chain_len {l : List Writ} (h : TreeOk l) (f : Int) : (chain l f).length ≤ 999 := by
  rcases Int.lt_or_le (findW l f) 0 with h1 | h1
  · rw [chain_none h1]; simp
  · have := (chain_le (l := l) f).2; have := h.from0 h1; omega
def offC (l : List Writ) (id c : Int) : List Int := (chain l c).filter (fun z => decide (z ≠ id))
theorem offC_self {l : List Writ} (h : TreeOk l) (id : Int) : offC l id id = above l id := by
  unfold offC above
  rcases Int.lt_or_le (findW l id) 0 with h1 | h1
  · rw [chain_none h1, fromOf_out h1, chain_none (h.find0 (by omega))]; rfl
  · rw [chain_some h h1, List.filter_cons]
    simp only [ne_eq, not_true_eq_false, decide_false]
    rw [if_neg (by simp), List.filter_eq_self.2]
    intro z hz
    have := (chain_le (l := l) (fromOf l id)).1 z hz; have := h.from0 h1
    simp; omega
theorem offC_out {l : List Writ} {id c : Int} (h : findW l c < 0) : offC l id c = [] := by unfold offC; rw [chain_none h]; rfl
theorem offC_hit {l : List Writ} (h : TreeOk l) {id c : Int} (hc : 0 ≤ findW l c) (he : c = id) : offC l id c = offC l id (fromOf l c) := by
  unfold offC; rw [chain_some h hc, List.filter_cons, if_neg (by simp [he])]
theorem offC_miss {l : List Writ} (h : TreeOk l) {id c : Int} (hc : 0 ≤ findW l c) (he : ¬ c = id) : offC l id c = c :: offC l id (fromOf l c) := by
  unfold offC; rw [chain_some h hc, List.filter_cons, if_pos (by simp [he])]
theorem above_len {l : List Writ} (h : TreeOk l) (id : Int) : (above l id).length ≤ 999 := chain_len h _
theorem above_out {l : List Writ} (h : TreeOk l) {id : Int} (hc : findW l id < 0) : above l id = [] := by
  unfold above; rw [fromOf_out hc, chain_none (h.find0 (by omega))]
theorem above_step {l : List Writ} (h : TreeOk l) {c f : Int} (hf : fromOf l c = f) (hc : 0 ≤ findW l f) : above l c = f :: above l f := by
  unfold above; rw [hf, chain_some h hc]
theorem above_end {l : List Writ} (h : TreeOk l) {c f : Int} (hf : fromOf l c = f) (hc : findW l f < 0) : above l c = [] := by
  unfold above; rw [hf, chain_none hc]

/-! ### beneath -/
def benS (id : Int) (acc : List Int) (x : Writ) : List Int := if (x.From = id ∨ x.From ∈ acc) ∧ 0 < x.From then acc ++ [x.ID] else acc
def benG (id : Int) (l : List Writ) : List Int := l.foldl (benS id) []
theorem benG_hit {id : Int} {l : List Writ} {k : Nat} {x : Writ} {S : List Int} (hx : l[k]? = some x) (hS : ∀ z, z ∈ S ↔ z = id ∨ z ∈ benG id (l.take k)) (h : x.From ∈ S) (h0 : 0 < x.From) : benG id (l.take (k + 1)) = benG id (l.take k) ++ [x.ID] := by
  unfold benG at *
  rw [List.take_add_one, hx, List.foldl_append]
  simp only [Option.toList, List.foldl_cons, List.foldl_nil]
  unfold benS at *
  rw [if_pos ⟨(hS _).1 h, h0⟩]
theorem benG_miss {id : Int} {l : List Writ} {k : Nat} {x : Writ} {S : List Int} (hx : l[k]? = some x) (hS : ∀ z, z ∈ S ↔ z = id ∨ z ∈ benG id (l.take k)) (h : ¬ (x.From ∈ S ∧ 0 < x.From)) : benG id (l.take (k + 1)) = benG id (l.take k) := by
  unfold benG at *
  rw [List.take_add_one, hx, List.foldl_append]
  simp only [Option.toList, List.foldl_cons, List.foldl_nil]
  unfold benS at *
  rw [if_neg (fun hc => h ⟨(hS _).2 hc.1, hc.2⟩)]
theorem benG_len (id : Int) (l : List Writ) : (benG id l).length ≤ l.length := by
  have : ∀ (l : List Writ) (acc : List Int), (l.foldl (benS id) acc).length ≤ acc.length + l.length := by
    intro l
    induction l with
    | nil => intro acc; simp
    | cons x l ih =>
      intro acc
      have := ih (benS id acc x)
      have h2 : (benS id acc x).length ≤ acc.length + 1 := by unfold benS; split <;> simp
      simp only [List.foldl_cons, List.length_cons]; omega
  simpa [benG] using this l []
def up (l : List Writ) (id f : Int) : Int :=
  if h : 0 < f ∧ f ≠ id ∧ 0 ≤ findW l f ∧ fromOf l f < f then up l id (fromOf l f) else f
termination_by f.toNat
decreasing_by omega
theorem up_step {l : List Writ} (h : TreeOk l) {id f : Int} (h1 : f ≠ id) (h2 : 0 ≤ findW l f) : up l id f = up l id (fromOf l f) := by
  have := h.from0 h2
  rw [up, dif_pos ⟨by omega, h1, h2, by omega⟩]
theorem up_end {l : List Writ} {id f : Int} (h : ¬ 0 < f ∨ f = id ∨ findW l f < 0) : up l id f = f := by
  rw [up, dif_neg (by omega)]
def isB (l : List Writ) (id : Int) (x : Writ) : Bool := decide (up l id x.From = id) && decide (0 < id)
def benR (l : List Writ) (id : Int) (m : List Writ) : List Int := (m.filter (isB l id)).map Writ.ID
theorem benR_hit {l0 : List Writ} {id : Int} {l : List Writ} {k : Nat} {x : Writ} (hx : l[k]? = some x) (h : up l0 id x.From = id) (h0 : 0 < id) : benR l0 id (l.take (k + 1)) = benR l0 id (l.take k) ++ [x.ID] := by
  unfold benR
  rw [List.take_add_one, hx, List.filter_append]; simp [isB, h, h0]
theorem benR_miss {l0 : List Writ} {id : Int} {l : List Writ} {k : Nat} {x : Writ} (hx : l[k]? = some x) (h : ¬ (up l0 id x.From = id ∧ 0 < id)) : benR l0 id (l.take (k + 1)) = benR l0 id (l.take k) := by
  unfold benR
  rw [List.take_add_one, hx, List.filter_append]
  have : isB l0 id x = false := by unfold isB; rw [Bool.and_eq_false_iff]; by_cases h1 : up l0 id x.From = id; right; simpa using (fun h2 => h ⟨h1, h2⟩); left; simpa using h1
  simp [this]
theorem benR_len (l0 : List Writ) (id : Int) (l : List Writ) : (benR l0 id l).length ≤ l.length := by unfold benR; simp; exact List.length_filter_le _ _
def beneath (l : List Writ) (id : Int) : List Int := benR l id l
theorem ben_eq {l : List Writ} (h : TreeOk l) (id : Int) : ∀ k, k ≤ l.length → benG id (l.take k) = benR l id (l.take k)
  | 0, _ => by simp [benG, benR]
  | k + 1, hk => by
    have ih := ben_eq h id k (by omega)
    have hx : l[k]? = some l[k] := List.getElem?_eq_getElem (by omega)
    have hS : ∀ z, z ∈ id :: benG id (l.take k) ↔ z = id ∨ z ∈ benG id (l.take k) := fun z => by simp
    have w := stepF_ok hx (h.steps k (by omega))
    have key : ((l[k]).From ∈ id :: benG id (l.take k) ∧ 0 < (l[k]).From) ↔ (up l id (l[k]).From = id ∧ 0 < id) := by
      by_cases h0 : (l[k]).From = 0
      · rw [h0, up_end (.inl (by omega))]
        constructor
        · intro h; omega
        · intro h; omega
      · have hpos : 0 < (l[k]).From := by have := w.fr0; omega
        by_cases he : (l[k]).From = id
        · rw [up_end (.inr (.inl he))]
          constructor
          · intro _; exact ⟨he, by omega⟩
          · intro _; exact ⟨by rw [he]; simp, hpos⟩
        · obtain ⟨j, y, hj, hy, hid, _, _⟩ := stepF_from hx (h.steps k (by omega)) h0
          have hym : y ∈ l := List.mem_of_getElem? hy
          have hfi : 0 ≤ findW l (l[k]).From := by rw [← hid]; exact findW_mem hym
          rw [up_step h he hfi]
          obtain ⟨y', _, hy2, hy3, hy4⟩ := fromOf_at hfi
          have : y' = y := h.inj hy3 hym (by rw [hy2, hid])
          subst this
          rw [hy4, ih]
          have hmem : (l[k]).From ∈ benR l id (l.take k) ↔ (up l id y'.From = id ∧ 0 < id) := by
            unfold benR
            simp only [List.mem_map, List.mem_filter, isB, Bool.and_eq_true, decide_eq_true_eq]
            constructor
            · rintro ⟨z, ⟨hz, hz2⟩, hz3⟩
              have : z = y' := h.inj (List.mem_of_mem_take hz) hy3 (by rw [hz3, hid])
              subst this; exact hz2
            · intro hh
              exact ⟨y', ⟨List.mem_of_getElem? (i := j) (by rw [List.getElem?_take, if_pos hj]; exact hy), hh⟩, hid⟩
          constructor
          · rintro ⟨h1, _⟩
            rcases List.mem_cons.1 h1 with h1 | h1
            · exact absurd h1 he
            · exact hmem.1 h1
          · intro h1; exact ⟨List.mem_cons.2 (.inr (hmem.2 h1)), hpos⟩
    by_cases hc : up l id (l[k]).From = id ∧ 0 < id
    · have := key.2 hc
      rw [benG_hit hx hS this.1 this.2, benR_hit hx hc.1 hc.2, ih]
    · rw [benG_miss hx hS (fun hh => hc (key.1 hh)), benR_miss hx hc, ih]
theorem benG_eq {l : List Writ} (h : TreeOk l) (id : Int) : benG id l = beneath l id := by
  have := ben_eq h id l.length (Nat.le_refl _)
  simpa [beneath, List.take_length] using this
theorem up_chain {l : List Writ} (h : TreeOk l) {a : Int} (ha : 0 ≤ findW l a) (f : Int) (hf0 : 0 ≤ f) : up l a f = a ↔ a ∈ chain l f := by
  have ha0 := h.from0 ha
  by_cases he : f = a
  · subst he; rw [up_end (.inr (.inl rfl)), chain_some h ha]; simp
  · rcases Int.lt_or_le (findW l f) 0 with h1 | h1
    · rw [up_end (.inr (.inr h1)), chain_none h1]; simp [he]
    · have hf := h.from0 h1
      rw [up_step h he h1, chain_some h h1, up_chain h ha (fromOf l f) hf.2.2.1]
      simp [Ne.symm he]
termination_by f.toNat
decreasing_by omega
end Go.Proofs.YtpipachmngdegaaGreat
end
