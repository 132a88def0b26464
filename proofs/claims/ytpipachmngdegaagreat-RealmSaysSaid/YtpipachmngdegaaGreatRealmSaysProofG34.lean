import Derived.Test.YtpipachmngdegaaGreatRealmSaysProofG15
section
/-
  The laws of chapter 4, in plain words: of places that rise, search by halves finds what a look at each finds; what is put is there, nothing else is moved. No program.
-/
namespace Go.Proofs.YtpipachmngdegaaGreat
set_option linter.unusedVariables false

theorem ltPl_trans {p q r : Place} (h : ltPl p q) (k : ltPl q r) : ltPl p r := by unfold ltPl at *; omega
theorem ltPl_irr {p : Place} (h : ltPl p p) : False := by unfold ltPl at h; omega
theorem ltPl_tri (p q : Place) : ltPl p q ∨ p = q ∨ ltPl q p := by
  cases p; cases q; unfold ltPl; simp only [Place.mk.injEq]; omega
theorem ltPl_ne {p q : Place} (h : ltPl p q) : p ≠ q := fun e => ltPl_irr (e ▸ h)
theorem cmpP_neg (p q : Place) : cmpP p q < 0 ↔ ltPl p q := by
  unfold cmpP cmpI ltPl
  constructor
  · intro h; split at h <;> (repeat' split at h) <;> first | omega | (simp_all; done) | (simp_all; omega)
  · intro h; split <;> (repeat' split) <;> omega
abbrev Rise (l : List Held) : Prop := l.Pairwise fun a b => ltPl a.Place b.Place
def Fine (l : List Held) : Prop := ∀ h ∈ l, placeFault h.Place = 0 ∧ h.Writ ≠ 0
theorem rise_of {l : List Held} (h : Good l) : Rise l := by
  have key : ∀ (d i : Nat) x y, l[i]? = some x → l[i + d + 1]? = some y → ltPl x.Place y.Place := by
    intro d
    induction d with
    | zero =>
      intro i x y hx hy
      have hi := (List.getElem?_eq_some_iff.1 hy).1
      exact (h (i + 1) hi y hy).2.2 x (by omega) (by simpa using hx)
    | succ d ih =>
      intro i x y hx hy
      have hi := (List.getElem?_eq_some_iff.1 hy).1
      obtain ⟨z, hz⟩ : ∃ z, l[i + d + 1]? = some z := ⟨_, List.getElem?_eq_getElem (by omega)⟩
      exact ltPl_trans (ih i x z hx hz) ((h (i + (d + 1) + 1) hi y hy).2.2 z (by omega) (by rw [← hz]; congr 1))
  refine List.pairwise_iff_getElem.2 ?_
  intro i j hi hj hij
  exact key (j - i - 1) i _ _ (List.getElem?_eq_getElem hi) (by rw [show i + (j - i - 1) + 1 = j by omega]; exact List.getElem?_eq_getElem hj)
theorem fine_of {l : List Held} (h : Good l) : Fine l := fun x hx => by
  obtain ⟨i, hi⟩ := List.mem_iff_getElem?.1 hx
  have := h i (List.getElem?_eq_some_iff.1 hi).1 x hi
  exact ⟨this.1, this.2.1⟩
theorem good_of {l : List Held} (h : Rise l) (hf : Fine l) : Good l := fun k hk x hx => by
  refine ⟨(hf x (List.mem_of_getElem? hx)).1, (hf x (List.mem_of_getElem? hx)).2, fun g h0 hg => ?_⟩
  have h := List.pairwise_iff_getElem.1 h
  have := h (k - 1) k (by omega) hk (by omega)
  rw [(List.getElem?_eq_some_iff.1 hx).2, (List.getElem?_eq_some_iff.1 hg).2] at this
  exact this
theorem good_iff {l : List Held} : Good l ↔ Rise l ∧ Fine l := ⟨fun h => ⟨rise_of h, fine_of h⟩, fun h => good_of h.1 h.2⟩
/-- a place among all that may be -/
def numP (p : Place) : Int := 6 * p.Holder + p.Slot
theorem numP_lt {p q : Place} (hp : placeFault p = 0) (hq : placeFault q = 0) (h : ltPl p q) : numP p < numP q := by
  have := placeFault_zero hp; have := placeFault_zero hq
  unfold ltPl at h; unfold numP; omega
theorem good_len {l : List Held} (h : Good l) : l.length ≤ 24 := by
  have hr := rise_of h; have hf := fine_of h
  have key : ∀ (l : List Held) (m : Int), Rise l → Fine l → (∀ x ∈ l, m < numP x.Place) → m ≤ 30 → m + l.length ≤ 29 ∨ l = [] := by
    intro l
    induction l with
    | nil => intro m _ _ _ _; exact .inr rfl
    | cons x l ih =>
      intro m hr hf hm h30
      left
      have hx := hf x (List.mem_cons_self ..)
      have hp := placeFault_zero hx.1
      have h1 := hm x (List.mem_cons_self ..)
      have h2 : numP x.Place ≤ 29 := by unfold numP; omega
      obtain ⟨hr1, hr2⟩ := List.pairwise_cons.1 hr
      have hf' : Fine l := fun y hy => hf y (List.mem_cons_of_mem _ hy)
      rcases ih (numP x.Place) hr2 hf' (fun y hy => numP_lt hx.1 (hf' y hy).1 (hr1 y hy)) (by omega) with h3 | h3
      · simp only [List.length_cons]; omega
      · subst h3; simp; omega
  rcases key l 5 hr hf (fun x hx => by have := placeFault_zero (hf x hx).1; unfold numP; omega) (by omega) with h1 | h1
  · omega
  · subst h1; simp

/-- how places that rise lie about a place -/
inductive Shape (l : List Held) (p : Place) : Prop
  | hit (A B : List Held) (w : Int) (e : l = A ++ ⟨p, w⟩ :: B) (h : isH l p = true) (k : posH l p = A.length) (ha : ∀ x ∈ A, ltPl x.Place p) (hb : ∀ x ∈ B, ltPl p x.Place)
  | miss (A B : List Held) (e : l = A ++ B) (h : isH l p = false) (k : posH l p = A.length) (ha : ∀ x ∈ A, ltPl x.Place p) (hb : ∀ x ∈ B, ltPl p x.Place)
theorem shape (l : List Held) (p : Place) (hr : Rise l) : Shape l p := by
  have hm := bsL_rise (f := fun h : Held => cmpP h.Place p) (l := l) (fun i j x y hij hx hy hc => by
    simp only [cmpP_neg] at hc ⊢
    rcases Nat.lt_or_ge i j with h1 | h1
    · have hr' := List.pairwise_iff_getElem.1 hr
      have := hr' i j (List.getElem?_eq_some_iff.1 hx).1 (List.getElem?_eq_some_iff.1 hy).1 h1
      rw [(List.getElem?_eq_some_iff.1 hx).2, (List.getElem?_eq_some_iff.1 hy).2] at this
      exact ltPl_trans this hc
    · have : i = j := by omega
      subst this; rw [hx] at hy; injection hy with hy; subst hy; exact hc)
  have hk := posH_le l p
  have hsplit : l = l.take (posH l p) ++ l.drop (posH l p) := (List.take_append_drop _ _).symm
  have hlen : (l.take (posH l p)).length = posH l p := by rw [List.length_take]; omega
  have hA : ∀ x ∈ l.take (posH l p), ltPl x.Place p := fun x hx => by
    obtain ⟨i, hi⟩ := List.mem_iff_getElem?.1 hx
    rw [List.getElem?_take] at hi
    split at hi
    · exact (cmpP_neg _ _).1 (hm.1 i x (by assumption) hi)
    · cases hi
  have hB : ∀ x ∈ l.drop (posH l p), ¬ ltPl x.Place p := fun x hx => by
    obtain ⟨i, hi⟩ := List.mem_iff_getElem?.1 hx
    rw [List.getElem?_drop] at hi
    exact fun hc => hm.2 _ x (Nat.le_add_right _ _) hi ((cmpP_neg _ _).2 hc)
  rcases isH_cases l p with h | ⟨x, hx, h, hp, hlt⟩
  · refine .miss _ _ hsplit h hlen.symm hA fun x hx => ?_
    have h1 := hB x hx
    rcases ltPl_tri p x.Place with h2 | h2 | h2
    · exact h2
    · exfalso
      -- the first of the rest is at p, or ahead of it: both are not
      obtain ⟨y, hy⟩ : ∃ y, l[posH l p]? = some y := by
        obtain ⟨i, hi⟩ := List.mem_iff_getElem?.1 hx
        rw [List.getElem?_drop] at hi
        have := (List.getElem?_eq_some_iff.1 hi).1
        exact ⟨_, List.getElem?_eq_getElem (by omega)⟩
      have hyn : cmpP y.Place p ≠ 0 := fun hc => by
        have : isH l p = true := by
          show bsF _ l = true
          unfold bsF
          have hy' : l[bsL (fun h : Held => cmpP h.Place p) l]? = some y := hy
          rw [hy']; simp [hc]
        rw [h] at this; cases this
      have hym : y ∈ l.drop (posH l p) := List.mem_iff_getElem?.2 ⟨0, by rw [List.getElem?_drop]; exact hy⟩
      have hyb := hB y hym
      have hyp : ltPl p y.Place := by
        rcases ltPl_tri p y.Place with h3 | h3 | h3
        · exact h3
        · exact absurd (by rw [h3]; exact cmpP_self _) hyn
        · exact absurd h3 hyb
      obtain ⟨i, hi⟩ := List.mem_iff_getElem?.1 hx
      rw [List.getElem?_drop] at hi
      rcases Nat.eq_zero_or_pos i with h0 | h0
      · subst h0; rw [Nat.add_zero, hy] at hi; injection hi with hi; subst hi
        exact ltPl_irr (h2 ▸ hyp)
      · have hr' := List.pairwise_iff_getElem.1 hr
        have := hr' (posH l p) (posH l p + i) (List.getElem?_eq_some_iff.1 hy).1 (List.getElem?_eq_some_iff.1 hi).1 (by omega)
        rw [(List.getElem?_eq_some_iff.1 hy).2, (List.getElem?_eq_some_iff.1 hi).2] at this
        exact ltPl_irr (h2 ▸ ltPl_trans hyp this)
    · exact absurd h2 h1
  · have hd : l.drop (posH l p) = x :: l.drop (posH l p + 1) := by
      rw [List.drop_eq_getElem_cons hlt, (List.getElem?_eq_some_iff.1 hx).2]
    have hxe : x = ⟨p, x.Writ⟩ := by cases x; simp at hp; simp [hp]
    refine .hit (l.take (posH l p)) (l.drop (posH l p + 1)) x.Writ ?_ h hlen.symm hA fun y hy => ?_
    · rw [← hxe, ← hd, List.take_append_drop]
    · obtain ⟨i, hi⟩ := List.mem_iff_getElem?.1 hy
      rw [List.getElem?_drop] at hi
      have hr' := List.pairwise_iff_getElem.1 hr
      have := hr' (posH l p) (posH l p + 1 + i) hlt (List.getElem?_eq_some_iff.1 hi).1 (by omega)
      rw [(List.getElem?_eq_some_iff.1 hx).2, (List.getElem?_eq_some_iff.1 hi).2, hp] at this
      exact this
theorem find_no {A : List Held} {p : Place} (h : ∀ x ∈ A, ¬ x.Place = p) : A.find? (fun h => h.Place == p) = none := by
  rw [List.find?_eq_none]; intro x hx; simpa using h x hx
theorem atRef_mid {A B : List Held} {p : Place} {w : Int} (h : ∀ x ∈ A, ¬ x.Place = p) : atRef (A ++ ⟨p, w⟩ :: B) p = w := by
  unfold atRef; rw [List.find?_append, find_no h]; simp
theorem atRef_no {A : List Held} {p : Place} (h : ∀ x ∈ A, ¬ x.Place = p) : atRef A p = 0 := by
  unfold atRef; rw [find_no h]
theorem atRef_skip {A B : List Held} {x : Held} {q : Place} (h : ¬ x.Place = q) : atRef (A ++ x :: B) q = atRef (A ++ B) q := by
  unfold atRef; rw [List.find?_append, List.find?_append, List.find?_cons]
  have : (x.Place == q) = false := by simpa using h
  rw [this]
theorem at_eq {l : List Held} {p : Place} (hr : Rise l) : atH l p = atRef l p := by
  cases shape l p hr with
  | hit A B w e h k ha hb =>
    have hx : l[posH l p]? = some ⟨p, w⟩ := by rw [k, e]; simp
    rw [atH_hit h hx, e, atRef_mid (fun x hx => ltPl_ne (ha x hx))]
  | miss A B e h k ha hb =>
    rw [atH_no h, e, atRef_no]
    intro x hx
    rcases List.mem_append.1 hx with hx | hx
    · exact ltPl_ne (ha x hx)
    · exact fun e => ltPl_ne (hb x hx) e.symm
theorem free_eq {l : List Held} {h : Int} (hr : Rise l) : freeH l h = freeRef l h := by
  have : ∀ n s, freeGo l h n s = freeRGo l h n s := by
    intro n
    induction n with
    | zero => intro s; rfl
    | succ n ih => intro s; simp only [freeGo, freeRGo, at_eq hr, ih]
  exact this 6 0
theorem foldA {p : Place} {id : Int} : ∀ {A : List Held} (acc : List Held) (b : Bool), (∀ x ∈ A, ltPl x.Place p) → A.foldl (putStep p id) (acc, b) = (acc ++ A, b)
  | [], acc, b, h => by simp
  | x :: A, acc, b, h => by
    have hx := h x (List.mem_cons_self ..)
    simp only [List.foldl_cons]
    rw [putStep_out (.inr (by unfold ltPl at hx; omega)), if_neg (ltPl_ne hx), foldA _ _ (fun y hy => h y (List.mem_cons_of_mem _ hy))]
    simp
theorem foldB {p : Place} {id : Int} : ∀ {B : List Held} (acc : List Held), (∀ x ∈ B, ltPl p x.Place) → B.foldl (putStep p id) (acc, true) = (acc ++ B, true)
  | [], acc, h => by simp
  | x :: B, acc, h => by
    have hx := h x (List.mem_cons_self ..)
    simp only [List.foldl_cons]
    rw [putStep_out (.inl rfl), if_neg (fun e => ltPl_ne hx e.symm), foldB _ (fun y hy => h y (List.mem_cons_of_mem _ hy))]
    simp
/-- what putting makes of places that rise -/
theorem putH_hit {l A B : List Held} {p : Place} {w id : Int} (e : l = A ++ ⟨p, w⟩ :: B) (h : isH l p = true) (k : posH l p = A.length) : putH l p id = if id = 0 then A ++ B else A ++ ⟨p, id⟩ :: B := by
  unfold putH; rw [if_pos h, k, e]
  split
  · congr 1
    · simp
    · rw [List.drop_append, List.drop_of_length_le (by omega)]; simp
  · simp
theorem putH_miss {l A B : List Held} {p : Place} {id : Int} (e : l = A ++ B) (h : isH l p = false) (k : posH l p = A.length) : putH l p id = if id = 0 then A ++ B else A ++ ⟨p, id⟩ :: B := by
  unfold putH; rw [if_neg (by rw [h]; simp), k, e]
  split
  · rfl
  · simp
theorem put_eq {l : List Held} {p : Place} {id : Int} (hr : Rise l) : putH l p id = putRef l p id := by
  cases shape l p hr with
  | hit A B w e h k ha hb =>
    rw [putH_hit e h k]
    unfold putRef putGo
    rw [e, List.foldl_append, foldA _ _ ha, List.foldl_cons]
    have hle : p.Holder < (⟨p, w⟩ : Held).Place.Holder ∨ (p.Holder = (⟨p, w⟩ : Held).Place.Holder ∧ p.Slot ≤ (⟨p, w⟩ : Held).Place.Slot) := .inr ⟨rfl, Int.le_refl _⟩
    by_cases h0 : id = 0
    · have : (id == 0) = true := by simpa using h0
      rw [this, putStep_out (.inl rfl), if_pos rfl, foldB _ hb, if_pos h0, if_pos rfl]; simp
    · have : (id == 0) = false := by simpa using h0
      rw [this, putStep_in hle, if_pos rfl, foldB _ hb, if_neg h0, if_pos rfl]; simp
  | miss A B e h k ha hb =>
    rw [putH_miss e h k]
    unfold putRef putGo
    rw [e, List.foldl_append, foldA _ _ ha]
    by_cases h0 : id = 0
    · have : (id == 0) = true := by simpa using h0
      rw [this, foldB _ hb, if_pos h0, if_pos rfl]; simp
    · have : (id == 0) = false := by simpa using h0
      rw [this, if_neg h0]
      cases B with
      | nil => rw [List.foldl_nil, if_neg Bool.false_ne_true]; simp
      | cons x B =>
        have hx := hb x (List.mem_cons_self ..)
        have hne : ¬ x.Place = p := fun e => ltPl_ne hx e.symm
        rw [List.foldl_cons, putStep_in (by unfold ltPl at hx; omega), if_neg hne, foldB _ (fun y hy => hb y (List.mem_cons_of_mem _ hy)), if_pos rfl]; simp
/-! ### the law of what is put -/
theorem rise_app {A B : List Held} (h : Rise (A ++ B)) : Rise A ∧ Rise B ∧ ∀ x ∈ A, ∀ y ∈ B, ltPl x.Place y.Place := List.pairwise_append.1 h
theorem good_put {l : List Held} {p : Place} {id : Int} (hg : Good l) (hp : placeFault p = 0) : Good (putH l p id) := by
  have hr := rise_of hg; have hf := fine_of hg
  cases shape l p hr with
  | hit A B w e h k ha hb =>
    rw [putH_hit e h k]
    rw [e] at hr hf
    obtain ⟨h1, h2, h3⟩ := rise_app hr
    obtain ⟨h4, h5⟩ := List.pairwise_cons.1 h2
    split
    · exact good_of (List.pairwise_append.2 ⟨h1, h5, fun x hx y hy => h3 x hx y (List.mem_cons_of_mem _ hy)⟩) (fun x hx => hf x (by simp at hx ⊢; rcases hx with hx | hx <;> simp [hx]))
    · refine good_of (List.pairwise_append.2 ⟨h1, List.pairwise_cons.2 ⟨hb, h5⟩, fun x hx y hy => ?_⟩) (fun x hx => ?_)
      · rcases List.mem_cons.1 hy with hy | hy
        · subst hy; exact ha x hx
        · exact h3 x hx y (List.mem_cons_of_mem _ hy)
      · simp at hx
        rcases hx with hx | hx | hx
        · exact hf x (by simp [hx])
        · subst hx; exact ⟨hp, by assumption⟩
        · exact hf x (by simp [hx])
  | miss A B e h k ha hb =>
    rw [putH_miss e h k]
    split
    · rw [← e]; exact hg
    · rw [e] at hr hf
      obtain ⟨h1, h2, h3⟩ := rise_app hr
      refine good_of (List.pairwise_append.2 ⟨h1, List.pairwise_cons.2 ⟨hb, h2⟩, fun x hx y hy => ?_⟩) (fun x hx => ?_)
      · rcases List.mem_cons.1 hy with hy | hy
        · subst hy; exact ha x hx
        · exact h3 x hx y hy
      · simp at hx
        rcases hx with hx | hx | hx
        · exact hf x (by simp [hx])
        · subst hx; exact ⟨hp, by assumption⟩
        · exact hf x (by simp [hx])
theorem put_at {l : List Held} {p : Place} {id : Int} (hg : Good l) (hp : placeFault p = 0) : atH (putH l p id) p = id := by
  have hr := rise_of hg
  rw [at_eq (rise_of (good_put hg hp))]
  cases shape l p hr with
  | hit A B w e h k ha hb =>
    rw [putH_hit e h k]
    split
    · rename_i h0; rw [h0]; refine atRef_no fun x hx => ?_
      rcases List.mem_append.1 hx with hx | hx
      · exact ltPl_ne (ha x hx)
      · exact fun e => ltPl_ne (hb x hx) e.symm
    · exact atRef_mid (fun x hx => ltPl_ne (ha x hx))
  | miss A B e h k ha hb =>
    rw [putH_miss e h k]
    split
    · rename_i h0; rw [h0]; refine atRef_no fun x hx => ?_
      rcases List.mem_append.1 hx with hx | hx
      · exact ltPl_ne (ha x hx)
      · exact fun e => ltPl_ne (hb x hx) e.symm
    · exact atRef_mid (fun x hx => ltPl_ne (ha x hx))
theorem put_other {l : List Held} {p q : Place} {id : Int} (hg : Good l) (hp : placeFault p = 0) (hq : ¬ q = p) : atH (putH l p id) q = atH l q := by
  have hr := rise_of hg
  rw [at_eq (rise_of (good_put hg hp)), at_eq hr]
  have hpq : ¬ p = q := fun e => hq e.symm
  cases shape l p hr with
  | hit A B w e h k ha hb =>
    rw [putH_hit e h k, e, atRef_skip (x := ⟨p, w⟩) hpq]
    split
    · rfl
    · rw [atRef_skip (x := ⟨p, id⟩) hpq]
  | miss A B e h k ha hb =>
    rw [putH_miss e h k, e]
    split
    · rfl
    · rw [atRef_skip (x := ⟨p, id⟩) hpq]
theorem freeGo_spec {l : List Held} {h : Int} : ∀ (n s : Nat), (freeGo l h n s = -1 ∧ ∀ t, s ≤ t → t < s + n → atH l ⟨h, (t : Int)⟩ ≠ 0) ∨ ∃ k : Nat, freeGo l h n s = k ∧ s ≤ k ∧ k < s + n ∧ atH l ⟨h, (k : Int)⟩ = 0 ∧ ∀ t, s ≤ t → t < k → atH l ⟨h, (t : Int)⟩ ≠ 0
  | 0, s => .inl ⟨rfl, fun t h1 h2 => by omega⟩
  | n + 1, s => by
    simp only [freeGo]
    by_cases e : atH l ⟨h, s⟩ = 0
    · rw [if_pos e]; exact .inr ⟨s, rfl, Nat.le_refl _, by omega, e, fun t h1 h2 => by omega⟩
    · rw [if_neg e]
      rcases freeGo_spec (l := l) (h := h) n (s + 1) with ⟨h1, h2⟩ | ⟨k, h1, h2, h3, h4, h5⟩
      · refine .inl ⟨h1, fun t h3 h4 => ?_⟩
        rcases Nat.eq_or_lt_of_le h3 with h5 | h5
        · subst h5; exact e
        · exact h2 t h5 (by omega)
      · refine .inr ⟨k, h1, by omega, by omega, h4, fun t h6 h7 => ?_⟩
        rcases Nat.eq_or_lt_of_le h6 with h8 | h8
        · subst h8; exact e
        · exact h5 t h8 h7
theorem free_spec (l : List Held) (h : Int) : (freeH l h = -1 ∧ ∀ t : Int, 0 ≤ t → t ≤ 5 → atH l ⟨h, t⟩ ≠ 0) ∨ (0 ≤ freeH l h ∧ freeH l h ≤ 5 ∧ atH l ⟨h, freeH l h⟩ = 0 ∧ ∀ t : Int, 0 ≤ t → t < freeH l h → atH l ⟨h, t⟩ ≠ 0) := by
  rcases freeGo_spec (l := l) (h := h) 6 0 with ⟨h1, h2⟩ | ⟨k, h1, h2, h3, h4, h5⟩
  · refine .inl ⟨h1, fun t h3 h4 => ?_⟩
    have := h2 t.toNat (Nat.zero_le _) (by omega)
    rwa [Int.toNat_of_nonneg h3] at this
  · have hk : freeH l h = k := h1
    refine .inr ⟨by omega, by omega, by rw [hk]; exact h4, fun t h6 h7 => ?_⟩
    have := h5 t.toNat (Nat.zero_le _) (by omega)
    rwa [Int.toNat_of_nonneg h6] at this
end Go.Proofs.YtpipachmngdegaaGreat
end

section
/-
  The closed facts of chapter 4. No program.
-/
namespace Go.Proofs.YtpipachmngdegaaGreat
theorem one_put : putH [] ⟨1, 2⟩ 5 = [⟨⟨1, 2⟩, 5⟩] := by rw [put_eq List.Pairwise.nil]; decide
theorem one_rise : Rise [⟨⟨1, 2⟩, 5⟩] := List.pairwise_singleton _ _
theorem one_at : atH (putH [] ⟨1, 2⟩ 5) ⟨1, 2⟩ = 5 := by rw [one_put, at_eq one_rise]; decide
theorem one_free : freeH (putH [] ⟨1, 2⟩ 5) 1 = 0 := by rw [one_put, free_eq one_rise]; decide
end Go.Proofs.YtpipachmngdegaaGreat
end
