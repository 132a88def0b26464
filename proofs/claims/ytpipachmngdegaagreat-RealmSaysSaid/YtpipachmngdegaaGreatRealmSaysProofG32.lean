import Derived.Test.YtpipachmngdegaaGreatRealmSaysProofG12
import Derived.Test.YtpipachmngdegaaGreatRealmSaysProofG28
section
/-
  Few, and not too much: as plain tests. No program.
-/
namespace Go.Proofs.YtpipachmngdegaaGreat
set_option linter.unusedVariables false

def lightC1 (c : Change) : Bool := decide (c.Key.size ≤ 20) && decide (c.Val.size ≤ 40)
def lightC (l : List Change) (most : Int) : Bool := decide ((l.length : Int) ≤ most) && l.all lightC1
def lightA1 (a : Deed) : Bool := decide (a.S.size ≤ 100) && lightC a.Changes 70
def lightA (l : List Deed) (most : Int) : Bool := decide ((l.length : Int) ≤ most) && l.all lightA1
theorem all_hit {α : Type} {p : α → Bool} {l : List α} {k : Nat} {x : α} (hx : l[k]? = some x) (h : p x = false) : l.all p = false := by
  rw [Bool.eq_false_iff]; intro h'
  have := List.all_eq_true.1 h' x (List.mem_of_getElem? hx)
  rw [h] at this; simp at this
theorem all_up {α : Type} {p : α → Bool} {l : List α} {k : Nat} (hk : ¬ k < l.length) (h : (l.take k).all p = true) : l.all p = true := by
  rwa [List.take_of_length_le (by omega)] at h
theorem all_snoc {α : Type} {p : α → Bool} {l : List α} {k : Nat} {x : α} (hx : l[k]? = some x) (h : (l.take k).all p = true) (hp : p x = true) : (l.take (k + 1)).all p = true := by
  rw [List.take_add_one, hx]; simp [List.all_append, h, hp]
theorem lightA_len {l : List Deed} {most : Int} (h : lightA l most = true) : (l.length : Int) ≤ most := by
  unfold lightA at h; simp only [Bool.and_eq_true, decide_eq_true_eq] at h; exact h.1
theorem lightC_len {l : List Change} {m : Int} (h : lightC l m = true) : (l.length : Int) ≤ m := by
  unfold lightC at h; simp only [Bool.and_eq_true, decide_eq_true_eq] at h; exact h.1
theorem lightC_all {l : List Change} {m : Int} (h : lightC l m = true) : ∀ x ∈ l, x.Key.size ≤ 20 ∧ x.Val.size ≤ 40 := fun x hx => by
  unfold lightC at h; simp only [Bool.and_eq_true, decide_eq_true_eq] at h
  have := List.all_eq_true.1 h.2 x hx
  unfold lightC1 at this; simp only [Bool.and_eq_true, decide_eq_true_eq] at this; exact this
theorem lightA_all {l : List Deed} {m : Int} (h : lightA l m = true) : ∀ a ∈ l, a.S.size ≤ 100 ∧ lightC a.Changes 70 = true := fun a ha => by
  unfold lightA at h; simp only [Bool.and_eq_true, decide_eq_true_eq] at h
  have := List.all_eq_true.1 h.2 a ha
  unfold lightA1 at this; simp only [Bool.and_eq_true, decide_eq_true_eq] at this; exact this
end Go.Proofs.YtpipachmngdegaaGreat
end

section
/-
  Acts as plain functions: what is light, what an act does, what grows. No program.
-/
namespace Go.Proofs.YtpipachmngdegaaGreat
set_option linter.unusedVariables false

def kMake : ByteArray := ⟨#[109, 97, 107, 101]⟩
def newR : Realm := ⟨[], [], [], [], 1, 1⟩
def doR (r : Realm) (a : Deed) : Realm × Int :=
  if a.Kind = (⟨#[109, 97, 107, 101]⟩ : ByteArray) then makeR r a.P a.A
  else if a.Kind = (⟨#[103, 105, 118, 101]⟩ : ByteArray) then giveR r a.P a.Q a.A a.B
  else if a.Kind = (⟨#[109, 111, 118, 101]⟩ : ByteArray) then moveR r a.P a.A
  else if a.Kind = (⟨#[100, 114, 111, 112]⟩ : ByteArray) then dropR r a.P
  else if a.Kind = (⟨#[114, 101, 118, 111, 107, 101]⟩ : ByteArray) then revokeR r a.P
  else if a.Kind = (⟨#[119, 114, 105, 116, 101]⟩ : ByteArray) then writeR r a.P a.S
  else if a.Kind = (⟨#[115, 101, 110, 100]⟩ : ByteArray) then sendR r a.P a.S a.A a.B
  else if a.Kind = (⟨#[116, 97, 107, 101]⟩ : ByteArray) then ((takeR r a.P).1, (takeR r a.P).2.2.2)
  else (r, 0)
def stepR (r : Realm) (a : Deed) : Realm := if (doR r a).2 = 0 then (doR r a).1 else r
def grow (l : List Deed) : Realm := l.foldl stepR newR
def grownR (l : List Deed) : Realm × Bool := if lightA l 80 then (grow l, true) else (r0, false)
theorem grow_snoc {l : List Deed} {k : Nat} {a : Deed} (h : l[k]? = some a) : grow (l.take (k + 1)) = stepR (grow (l.take k)) a := by
  unfold grow; rw [List.take_add_one, h]; simp
theorem step_yes {r : Realm} {a : Deed} (h : (doR r a).2 = 0) : stepR r a = (doR r a).1 := by unfold stepR; rw [if_pos h]
theorem step_no {r : Realm} {a : Deed} (h : ¬ (doR r a).2 = 0) : stepR r a = r := by unfold stepR; rw [if_neg h]
theorem grow_ind (P : Nat → Realm → Prop) (h0 : P 0 newR) (hs : ∀ k r a, P k r → P (k + 1) (stepR r a)) : ∀ (l : List Deed), P l.length (grow l) := by
  have key : ∀ (l : List Deed) (k : Nat) (r : Realm), P k r → P (k + l.length) (l.foldl stepR r) := by
    intro l
    induction l with
    | nil => intro k r h; exact h
    | cons a l ih =>
      intro k r h
      have := ih (k + 1) _ (hs k r a h)
      rw [List.length_cons, show k + (l.length + 1) = k + 1 + l.length by omega]; exact this
  intro l
  have := key l 0 newR h0
  rwa [Nat.zero_add] at this
theorem derived_zero {w : Writ} {id r b : Int} (h : (derived w id r b).2 = 0) : 0 ≤ r ∧ r ≤ 7 ∧ 0 ≤ b ∧ b ≤ 99 ∧ hasR w.Rights r = true ∧ (derived w id r b).1 = ⟨id, w.Thing, r, if b = 0 then w.Badge else b, w.ID⟩ ∧ (w.Badge = 0 ∨ b = 0 ∨ b = w.Badge) := by
  revert h
  rcases rightFault_cases r with ⟨h1, h2⟩ | ⟨h1, h2⟩
  · unfold derived; rw [if_pos h1]; intro h; simp at h
  · unfold derived; rw [if_neg (by rw [h1]; decide)]
    by_cases hb : b < 0
    · rw [if_pos hb]; intro h; simp at h
    · rw [if_neg hb]
      by_cases hb2 : 99 < b
      · rw [if_pos hb2]; intro h; simp at h
      · rw [if_neg hb2]
        cases hr : hasR w.Rights r with
        | false => rw [if_pos rfl]; intro h; simp at h
        | true =>
          rw [if_neg (by decide)]
          by_cases hc : b ≠ 0 ∧ w.Badge ≠ 0 ∧ b ≠ w.Badge
          · rw [if_pos hc]; intro h; simp at h
          · rw [if_neg hc]; intro h; exact ⟨h2.1, h2.2, by omega, by omega, rfl, rfl, by omega⟩
theorem derived_ri {w : Writ} {id r b : Int} (h : (derived w id r b).2 = 0) : 0 ≤ (derived w id r b).1.Rights ∧ (derived w id r b).1.Rights ≤ 7 := by
  have := derived_zero h; rw [this.2.2.2.2.2.1]; exact ⟨this.1, this.2.1⟩
/-- what grows isn't too great -/
structure Sz (k : Nat) (r : Realm) : Prop where
  wl : r.Writs.length ≤ k
  tl : r.Things.length ≤ k
  hl : r.Held.length ≤ 2 * k
  nl : r.Notes.length ≤ k
  ri : ∀ w ∈ r.Writs, 0 ≤ w.Rights ∧ w.Rights ≤ 7
  w0 : 0 ≤ r.NextWrit
  w1 : r.NextWrit ≤ 1000
  t0 : 0 ≤ r.NextThing
  t1 : r.NextThing ≤ 1000
theorem Sz.ok {k : Nat} {r : Realm} (h : Sz k r) (hk : k ≤ 1000) : Ok r := ⟨by have := h.wl; omega, by have := h.tl; omega, by have := h.hl; omega, by have := h.nl; omega, h.ri, h.w0, by have := h.w1; omega, h.t0, by have := h.t1; omega⟩
theorem Sz.up {k m : Nat} {r : Realm} (h : Sz k r) (hk : k ≤ m) : Sz m r := ⟨by have := h.wl; omega, by have := h.tl; omega, by have := h.hl; omega, by have := h.nl; omega, h.ri, h.w0, h.w1, h.t0, h.t1⟩
theorem Sz.new : Sz 0 newR := ⟨Nat.le_refl _, Nat.le_refl _, Nat.le_refl _, Nat.le_refl _, fun w hw => (by cases hw), by decide, by decide, by decide, by decide⟩
theorem sz_r0 (k : Nat) : Sz k r0 := ⟨Nat.zero_le _, Nat.zero_le _, Nat.zero_le _, Nat.zero_le _, fun w hw => (by cases hw), by decide, by decide, by decide, by decide⟩
theorem ri_snoc {l : List Writ} {x : Writ} (h : ∀ w ∈ l, 0 ≤ w.Rights ∧ w.Rights ≤ 7) (hx : 0 ≤ x.Rights ∧ x.Rights ≤ 7) : ∀ w ∈ l ++ [x], 0 ≤ w.Rights ∧ w.Rights ≤ 7 := fun w hw => by
  rcases List.mem_append.1 hw with hw | hw
  · exact h w hw
  · rw [List.mem_singleton.1 hw]; exact hx
theorem sweepS_sz {k : Nat} {r : Realm} (h : Sz k r) : Sz k (sweepS r) :=
  ⟨h.wl, Nat.le_trans (List.length_filter_le _ _) h.tl, Nat.le_trans (List.length_filter_le _ _) h.hl, by
    have := keep_lost r.Writs (thingsL r.Writs) r.Notes
    have := h.nl
    show (keepN r.Writs (thingsL r.Writs) r.Notes).length ≤ k
    omega, h.ri, h.w0, h.w1, h.t0, h.t1⟩
theorem sweepN_sz {k : Nat} {r : Realm} (h : Sz k r) : Sz k (sweepN r) :=
  ⟨Nat.le_trans (fold_len _ _) h.wl, (sweepS_sz h).tl, (sweepS_sz h).hl, (sweepS_sz h).nl, fold_ri _ _ h.ri, h.w0, h.w1, h.t0, h.t1⟩
theorem sweepGo_sz {k : Nat} : ∀ (n : Nat) (r : Realm), Sz k r → Sz k (sweepGo n r)
  | 0, r, h => sweepS_sz h
  | n + 1, r, h => by
    unfold sweepGo; split
    · exact sweepS_sz h
    · exact sweepGo_sz n _ (sweepN_sz h)
theorem Sz.writs {k : Nat} {r : Realm} (h : Sz k r) {l : List Writ} (hl : l.length ≤ k) (hr : ∀ w ∈ l, 0 ≤ w.Rights ∧ w.Rights ≤ 7) : Sz k ⟨l, r.Things, r.Held, r.Notes, r.NextWrit, r.NextThing⟩ :=
  ⟨hl, h.tl, h.hl, h.nl, hr, h.w0, h.w1, h.t0, h.t1⟩
theorem make_sz {k : Nat} {r : Realm} (h : Sz k r) (p : Place) (kind : Int) : Sz (k + 1) (makeR r p kind).1 := by
  have := h.wl; have := h.tl; have := h.hl; have := h.nl; have := h.w0; have := h.t0; have hp := putH_len r.Held p r.NextWrit
  unfold makeR
  (repeat' split) <;> first | exact sz_r0 _ | skip
  refine ⟨?_, ?_, ?_, ?_, ri_snoc h.ri ⟨(by show (0 : Int) ≤ 7; decide), (by show (7 : Int) ≤ 7; decide)⟩, ?_, ?_, ?_, ?_⟩ <;> dsimp only [addR]
  · simp; omega
  · simp; omega
  · split
    · omega
    · omega
  all_goals omega
theorem give_sz {k : Nat} {r : Realm} (h : Sz k r) (p t : Place) (a b : Int) : Sz (k + 1) (giveR r p t a b).1 := by
  have := h.wl; have := h.tl; have := h.hl; have := h.nl; have := h.w0; have := h.t0; have := h.t1
  unfold giveR
  (repeat' split) <;> first | exact sz_r0 _ | skip
  rename_i h1 h2 h3 h4 h5
  have hp := putH_len r.Held t (derived (getR r p).1 r.NextWrit a b).1.ID
  have hr : 0 ≤ (derived (getR r p).1 r.NextWrit a b).1.Rights ∧ (derived (getR r p).1 r.NextWrit a b).1.Rights ≤ 7 := derived_ri h5
  refine ⟨?_, ?_, ?_, ?_, ri_snoc h.ri hr, ?_, ?_, ?_, ?_⟩ <;> dsimp only [addR]
  · simp; omega
  · omega
  · split <;> omega
  all_goals omega
theorem move_sz {k : Nat} {r : Realm} (h : Sz k r) (p : Place) (s : Int) : Sz (k + 1) (moveR r p s).1 := by
  have := h.wl; have := h.tl; have := h.hl; have := h.nl; have := h.w0; have := h.t0; have := h.t1; have := h.w1
  have h1 := putH_len r.Held p 0
  have h2 := putH_len (putH r.Held p 0) ⟨p.Holder, s⟩ (getR r p).1.ID
  unfold moveR
  (repeat' split) <;> first | exact sz_r0 _ | exact ⟨by dsimp only; omega, by dsimp only; omega, by dsimp only; omega, by dsimp only; omega, h.ri, h.w0, h.w1, h.t0, h.t1⟩
theorem drop_sz {k : Nat} {r : Realm} (h : Sz k r) (p : Place) : Sz (k + 1) (dropR r p).1 := by
  unfold dropR; split
  · exact (sweepGo_sz _ _ (h.writs (Nat.le_trans (without_len _ _) h.wl) (without_ri h.ri))).up (Nat.le_succ k)
  · exact sz_r0 _
theorem revoke_sz {k : Nat} {r : Realm} (h : Sz k r) (p : Place) : Sz (k + 1) (revokeR r p).1 := by
  unfold revokeR; split
  · exact (sweepGo_sz _ _ (h.writs (Nat.le_trans (List.length_filter_le _ _) h.wl) (fun w hw => h.ri w (List.mem_filter.1 hw).1))).up (Nat.le_succ k)
  · exact sz_r0 _
theorem setData_len (l : List Thing) (i : Nat) (d : ByteArray) : (setData l i d).length = l.length := by
  unfold setData; split <;> simp
theorem write_sz {k : Nat} {r : Realm} (h : Sz k r) (p : Place) (d : ByteArray) : Sz (k + 1) (writeR r p d).1 := by
  have := h.wl; have := h.tl; have := h.hl; have := h.nl
  unfold writeR
  (repeat' split) <;> first | exact sz_r0 _ | exact ⟨by dsimp only; omega, by dsimp only; rw [setData_len]; omega, by dsimp only; omega, by dsimp only; omega, h.ri, h.w0, h.w1, h.t0, h.t1⟩
theorem send_sz {k : Nat} {r : Realm} (h : Sz k r) (p : Place) (d : ByteArray) (a b : Int) : Sz (k + 1) (sendR r p d a b).1 := by
  have := h.wl; have := h.tl; have := h.hl; have := h.nl; have := h.w0; have := h.t0; have := h.t1; have := h.w1
  unfold sendR
  (repeat' split) <;> first | exact sz_r0 _ | exact ⟨by dsimp only; omega, by dsimp only; omega, by dsimp only; omega, by simp; omega, h.ri, h.w0, h.w1, h.t0, h.t1⟩ | skip
  rename_i h8
  exact ⟨by simp; omega, by dsimp only; omega, by dsimp only; omega, by simp; omega, ri_snoc h.ri (derived_ri h8), by dsimp only; omega, by dsimp only; omega, h.t0, h.t1⟩
theorem cutN_len (l : List Note) (i : Nat) : (cutN l i).length ≤ l.length := by
  unfold cutN; rw [List.length_append, List.length_take, List.length_drop]; omega
theorem take_sz {k : Nat} {r : Realm} (h : Sz k r) (p : Place) : Sz (k + 1) (takeR r p).1 := by
  have := h.wl; have := h.tl; have := h.hl; have := h.nl
  unfold takeR
  split
  · split
    · rename_i n _ _
      have h1 := putH_len r.Held ⟨p.Holder, freeH r.Held p.Holder⟩ n.Writ
      have h2 := cutN_len r.Notes (idxOf (fun n => n.Port == (mayR r p 2 1).1.Thing) r.Notes).toNat
      (repeat' split) <;> first | exact sz_r0 _ | exact ⟨by dsimp only; omega, by dsimp only; omega, by dsimp only; omega, by dsimp only; omega, h.ri, h.w0, h.w1, h.t0, h.t1⟩
    · exact sz_r0 _
  · exact sz_r0 _
theorem do_sz {k : Nat} {r : Realm} (h : Sz k r) (a : Deed) : Sz (k + 1) (doR r a).1 := by
  unfold doR
  (repeat' split)
  · exact make_sz h _ _
  · exact give_sz h _ _ _ _
  · exact move_sz h _ _
  · exact drop_sz h _
  · exact revoke_sz h _
  · exact write_sz h _ _
  · exact send_sz h _ _ _ _
  · exact take_sz h _
  · exact h.up (Nat.le_succ k)
theorem grow_sz (l : List Deed) : Sz l.length (grow l) := grow_ind Sz Sz.new (fun k r a h => by
  unfold stepR; split
  · exact do_sz h a
  · exact h.up (Nat.le_succ k)) l
theorem grow_ok {l : List Deed} (h : l.length ≤ 80) : Ok (grow l) := (grow_sz l).ok (by omega)
theorem do_ok {l : List Deed} (h : l.length ≤ 80) (a : Deed) : Ok (doR (grow l) a).1 := (do_sz (grow_sz l) a).ok (by omega)
/-- an act that fails leaves nothing -/
theorem make_err {r : Realm} (p : Place) (kind : Int) (h : ¬ (makeR r p kind).2 = 0) : (makeR r p kind).1 = r0 := by
  revert h; unfold makeR
  (repeat' split) <;> first | (intro h; rfl) | (intro h; exact absurd rfl h)
theorem give_err {r : Realm} (p t : Place) (a b : Int) (h : ¬ (giveR r p t a b).2 = 0) : (giveR r p t a b).1 = r0 := by
  revert h; unfold giveR
  (repeat' split) <;> first | (intro h; rfl) | (intro h; exact absurd rfl h)
theorem move_err {r : Realm} (p : Place) (s : Int) (h : ¬ (moveR r p s).2 = 0) : (moveR r p s).1 = r0 := by
  revert h; unfold moveR
  (repeat' split) <;> first | (intro h; rfl) | (intro h; exact absurd rfl h)
theorem drop_err {r : Realm} (p : Place) (h : ¬ (dropR r p).2 = 0) : (dropR r p).1 = r0 := by
  revert h; unfold dropR
  (repeat' split) <;> first | (intro h; rfl) | (intro h; exact absurd rfl h)
theorem revoke_err {r : Realm} (p : Place) (h : ¬ (revokeR r p).2 = 0) : (revokeR r p).1 = r0 := by
  revert h; unfold revokeR
  (repeat' split) <;> first | (intro h; rfl) | (intro h; exact absurd rfl h)
theorem write_err {r : Realm} (p : Place) (d : ByteArray) (h : ¬ (writeR r p d).2 = 0) : (writeR r p d).1 = r0 := by
  revert h; unfold writeR
  (repeat' split) <;> first | (intro h; rfl) | (intro h; exact absurd rfl h)
theorem send_err {r : Realm} (p : Place) (d : ByteArray) (a b : Int) (h : ¬ (sendR r p d a b).2 = 0) : (sendR r p d a b).1 = r0 := by
  revert h; unfold sendR
  (repeat' split) <;> first | (intro h; rfl) | (intro h; exact absurd rfl h)
theorem take_err {r : Realm} (p : Place) (h : ¬ (takeR r p).2.2.2 = 0) : (takeR r p).1 = r0 := by
  revert h; unfold takeR
  split
  · split
    · split
      · split
        · intro h; rfl
        · intro h; exact absurd rfl h
      · intro h; exact absurd rfl h
    · intro h; rfl
  · intro h; rfl
theorem do_err {r : Realm} {a : Deed} (h : ¬ (doR r a).2 = 0) : (doR r a).1 = r0 := by
  revert h; unfold doR
  by_cases h1 : a.Kind = (⟨#[109, 97, 107, 101]⟩ : ByteArray)
  · rw [if_pos h1]; exact make_err _ _
  · rw [if_neg h1]
    by_cases h2 : a.Kind = (⟨#[103, 105, 118, 101]⟩ : ByteArray)
    · rw [if_pos h2]; exact give_err _ _ _ _
    · rw [if_neg h2]
      by_cases h3 : a.Kind = (⟨#[109, 111, 118, 101]⟩ : ByteArray)
      · rw [if_pos h3]; exact move_err _ _
      · rw [if_neg h3]
        by_cases h4 : a.Kind = (⟨#[100, 114, 111, 112]⟩ : ByteArray)
        · rw [if_pos h4]; exact drop_err _
        · rw [if_neg h4]
          by_cases h5 : a.Kind = (⟨#[114, 101, 118, 111, 107, 101]⟩ : ByteArray)
          · rw [if_pos h5]; exact revoke_err _
          · rw [if_neg h5]
            by_cases h6 : a.Kind = (⟨#[119, 114, 105, 116, 101]⟩ : ByteArray)
            · rw [if_pos h6]; exact write_err _ _
            · rw [if_neg h6]
              by_cases h7 : a.Kind = (⟨#[115, 101, 110, 100]⟩ : ByteArray)
              · rw [if_pos h7]; exact send_err _ _ _ _
              · rw [if_neg h7]
                by_cases h8 : a.Kind = (⟨#[116, 97, 107, 101]⟩ : ByteArray)
                · rw [if_pos h8]; exact take_err _
                · rw [if_neg h8]; intro h; exact absurd rfl h
theorem grown_true {l : List Deed} (h : (grownR l).2 = true) : l.length ≤ 80 ∧ (grownR l).1 = grow l ∧ Ok (grow l) := by
  unfold grownR at h ⊢
  by_cases hl : lightA l 80 = true
  · have := lightA_len hl
    rw [if_pos hl]; exact ⟨by omega, rfl, grow_ok (by omega)⟩
  · rw [if_neg hl] at h; simp at h
theorem same_r {r : Realm} (h : ¬ decide (r = r) = true) : False := h (decide_eq_true rfl)
end Go.Proofs.YtpipachmngdegaaGreat
end
