import Derived.Test.YtpipachmngdegaaStoreSaysProofG33
section
/-
  A log that is used anew and anew: what lies in its sectors, one by one; a deed that is added, on a disk that may fall. No program.
-/
namespace Go.Proofs.Ytpipachmngdegaa
open Go Go.RowKit
set_option linter.unusedVariables false

/-- the sectors of a log, of a first number: what is read of them; behind that no deed ends; no number is beyond its sector's -/
structure LogIs (l : List ByteArray) (first : Int) (W : List (List Change)) (u : Nat) : Prop where
  sc : scan l first = (W, u)
  noC : ∀ (j : Nat) s, u ≤ j → l[j]? = some s → byteAt s 0 = 99 → ¬ s.extract 1 5 = fourB (first + (j : Int))
  num : ∀ (j : Nat) s, l[j]? = some s → (byteAt s 0 = 111 ∨ byteAt s 0 = 99) → ∃ m : Int, 0 ≤ m ∧ m ≤ first + (j : Int) ∧ s.extract 1 5 = fourB m
theorem isC_false {s : ByteArray} {n k : Int} (h : byteAt s 0 = 99 → ¬ s.extract 1 5 = fourB n) : isC s n k = false := by
  rw [Bool.eq_false_iff]; intro hc
  unfold isC at hc; simp only [Bool.and_eq_true, decide_eq_true_eq] at hc
  exact h hc.1.2 hc.1.1.1
theorem sc_none2 : ∀ (l : List ByteArray) (n : Int) (out : List (List Change)) (deed : List Change) (used pos : Nat), (∀ (j : Nat) s, l[j]? = some s → byteAt s 0 = 99 → ¬ s.extract 1 5 = fourB (n + (j : Int))) → scD l n out deed used pos = (out, used)
  | [], n, out, deed, used, pos, _ => rfl
  | s :: r, n, out, deed, used, pos, h => by
    rw [scD, if_neg (by rw [isC_false (by have := h 0 s rfl; simpa using this)]; decide)]
    split
    · refine sc_none2 r _ _ _ _ _ fun j s' hs => ?_
      have := h (j + 1) s' (by simpa using hs)
      rwa [show n + ((j + 1 : Nat) : Int) = n + 1 + (j : Int) by omega] at this
    · rfl
section
variable {l l' : List ByteArray} {first : Int} {W : List (List Change)} {u : Nat} {c : List Change}
theorem LogIs.ule (h : LogIs l first W u) : u ≤ l.length := scan_room h.sc
/-- the next numbers: the log is empty -/
theorem LogIs.next (h : LogIs l first W u) (h0 : 0 ≤ first) (hb : first + 2 * (l.length : Int) < 4294967296) : LogIs l (first + (l.length : Int)) [] 0 := by
  have key : ∀ (j : Nat) s, l[j]? = some s → (byteAt s 0 = 111 ∨ byteAt s 0 = 99) → ∀ i : Nat, i ≤ l.length → ¬ s.extract 1 5 = fourB (first + (l.length : Int) + (i : Int)) := fun j s hs hk i hi e => by
    obtain ⟨m, h1, h2, h3⟩ := h.num j s hs hk
    have hj := (List.getElem?_eq_some_iff.1 hs).1
    have := fourB_inj (a := m) (b := first + (l.length : Int) + (i : Int)) (by omega) (by omega) (h3.symm.trans e)
    omega
  refine ⟨?_, fun j s _ hs hk => key j s hs (.inr hk) j (by have := (List.getElem?_eq_some_iff.1 hs).1; omega), fun j s hs hk => ?_⟩
  · cases l with
    | nil => rfl
    | cons s r =>
      unfold scan
      have hs : (s :: r)[0]? = some s := rfl
      rw [scD, if_neg (by rw [isC_false (fun hk => by have := key 0 s hs (.inr hk) 0 (Nat.zero_le _); simpa using this)]; decide), if_neg ?_]
      intro ho
      unfold isO at ho; simp only [Bool.and_eq_true, decide_eq_true_eq] at ho
      exact key 0 s hs (.inl ho.1.2) 0 (Nat.zero_le _) (by simpa using ho.1.1.1)
  · obtain ⟨m, h1, h2, h3⟩ := h.num j s hs hk
    exact ⟨m, h1, by omega, h3⟩
theorem LogIs.blank (first : Int) (h : ∀ s ∈ l, byteAt s 0 = 0) : LogIs l first [] 0 := by
  refine ⟨?_, fun j s _ hs hk => ?_, fun j s hs hk => ?_⟩
  · cases l with
    | nil => rfl
    | cons s r =>
      have := h s (List.mem_cons_self ..)
      unfold scan
      rw [scD, if_neg (by rw [isC_not (by omega)]; decide), if_neg (by rw [isO_not (by omega)]; decide)]
  · have := h s (List.mem_of_getElem? hs); omega
  · have := h s (List.mem_of_getElem? hs); omega
/-- sectors of a deed that is open, and blank ones, change nothing -/
theorem LogIs.keep (h : LogIs l first W u) (h0 : 0 ≤ first) (ht : l'.take u = l.take u) (hp : ∀ (j : Nat) s, l'[j]? = some s → l[j]? = some s ∨ byteAt s 0 = 0 ∨ (byteAt s 0 = 111 ∧ s.extract 1 5 = fourB (first + (j : Int)))) : LogIs l' first W u := by
  have hn : ∀ (j : Nat) s, u ≤ j → l'[j]? = some s → byteAt s 0 = 99 → ¬ s.extract 1 5 = fourB (first + (j : Int)) := fun j s hj hs hk => by
    rcases hp j s hs with h1 | h1 | h1
    · exact h.noC j s hj h1 hk
    · omega
    · omega
  refine ⟨?_, hn, fun j s hs hk => ?_⟩
  · have hcut := scan_cut (l := l) (l' := l') (first := first) (by rw [h.sc]; exact ht)
    rw [h.sc] at hcut
    rw [hcut]
    refine sc_none2 _ _ _ _ _ _ fun j s hs hk => ?_
    rw [List.getElem?_drop] at hs
    have := hn (u + j) s (Nat.le_add_right _ _) hs hk
    rwa [show first + ((u + j : Nat) : Int) = first + (u : Int) + (j : Int) by omega] at this
  · rcases hp j s hs with h1 | h1 | h1
    · exact h.num j s h1 hk
    · omega
    · exact ⟨first + (j : Int), by omega, by omega, h1.2⟩
/-- a deed that is there -/
theorem LogIs.after {r : List ByteArray} (h : LogIs l first W u) (h0 : 0 ≤ first) (hb : first + (l.length : Int) < 4294967296) (hc : ∀ x ∈ c, chF x = 0) (hm : c.length ≤ 62) (hlen : u + (c.length + 1) + r.length = l.length)
    (hr : r = [] ∨ ∃ r', r = full ⟨#[]⟩ :: r') (hrr : ∀ (j : Nat) s, r[j]? = some s → l[u + (c.length + 1) + j]? = some s ∨ byteAt s 0 = 0) :
    LogIs (l.take u ++ (dSecs (first + (u : Int)) c ++ r)) first (W ++ [c]) (u + c.length + 1) := by
  have htl : (l.take u).length = u := by rw [List.length_take]; omega
  have hds := dSecs_len (first + (u : Int)) c
  have hcut := scan_cut (l := l) (l' := l.take u ++ (dSecs (first + (u : Int)) c ++ r)) (first := first) (by rw [h.sc]; dsimp only; rw [List.take_append_of_le_length (by omega), List.take_take, Nat.min_self])
  rw [h.sc] at hcut
  dsimp only at hcut
  rw [List.drop_append_of_le_length (by omega), List.drop_of_length_le (by omega), List.nil_append] at hcut
  have at_r : ∀ (j : Nat) s, u + (c.length + 1) ≤ j → (l.take u ++ (dSecs (first + (u : Int)) c ++ r))[j]? = some s → l[j]? = some s ∨ byteAt s 0 = 0 := fun j s hj hs => by
    rw [List.getElem?_append_right (by omega), htl, List.getElem?_append_right (by omega), hds] at hs
    have := hrr (j - u - (c.length + 1)) s hs
    rwa [show u + (c.length + 1) + (j - u - (c.length + 1)) = j by omega] at this
  refine ⟨?_, fun j s hj hs hk => ?_, fun j s hs hk => ?_⟩
  · rw [hcut]
    unfold dSecs
    rw [List.append_assoc, List.singleton_append]
    refine sc_deed hc ?_
    rcases hr with hr | ⟨r', hr⟩
    · exact .inl hr
    · exact .inr ⟨_, r', hr, blank_kind⟩
  · rcases at_r j s (by omega) hs with h1 | h1
    · exact h.noC j s (by omega) h1 hk
    · omega
  · by_cases hj : j < u
    · rw [List.getElem?_append_left (by omega), List.getElem?_take_of_lt hj] at hs
      exact h.num j s hs hk
    · by_cases hj2 : j < u + (c.length + 1)
      · rw [List.getElem?_append_right (by omega), htl, List.getElem?_append_left (by omega)] at hs
        refine ⟨first + (j : Int), by omega, by omega, ?_⟩
        unfold dSecs at hs
        by_cases hj3 : j - u < c.length
        · rw [List.getElem?_append_left (by rw [oSecs_len]; exact hj3)] at hs
          obtain ⟨x, hx⟩ : ∃ x, c[j - u]? = some x := ⟨_, List.getElem?_eq_getElem hj3⟩
          rw [oSecs_get c _ _ x hx] at hs
          injection hs with hs
          obtain ⟨_, _, h3, h4⟩ := chF_zero (hc x (List.mem_of_getElem? hx))
          rw [← hs, sec_head (by rw [chB_size (hc x (List.mem_of_getElem? hx))]; omega)]
          congr 1; omega
        · rw [List.getElem?_append_right (by rw [oSecs_len]; omega), oSecs_len, show j - u - c.length = 0 by omega] at hs
          simp only [List.getElem?_cons_zero, Option.some.injEq] at hs
          rw [← hs, sec_head (by rw [fourB_size]; omega)]
          congr 1; omega
      · rcases at_r j s (by omega) hs with h1 | h1
        · exact h.num j s h1 hk
        · omega
end
/-! ### what is kept behind a fall, sector by sector -/
theorem lay_at (k : Int) : ∀ (w : List Turn) (i : Nat) (l : List ByteArray) (p : Nat) (s : ByteArray), ((w.zipIdx i).foldl (lay1 k) l)[p]? = some s → l[p]? = some s ∨ ∃ t ∈ w, t.At.toNat = p ∧ t.Data = s
  | [], i, l, p, s, h => .inl h
  | t :: w, i, l, p, s, h => by
    rw [List.zipIdx_cons, List.foldl_cons] at h
    rcases lay_at k w (i + 1) _ p s h with h1 | ⟨t', ht, h1⟩
    · unfold lay1 at h1
      split at h1
      · by_cases hp : t.At.toNat = p
        · dsimp only at h1
          rw [hp] at h1
          have hlt : p < l.length := by have := (List.getElem?_eq_some_iff.1 h1).1; simpa using this
          rw [List.getElem?_set_self hlt] at h1
          injection h1 with h1
          exact .inr ⟨t, List.mem_cons_self .., hp, h1⟩
        · rw [List.getElem?_set_ne hp] at h1; exact .inl h1
      · exact .inl h1
    · exact .inr ⟨t', List.mem_cons_of_mem _ ht, h1⟩
theorem layT_at {k : Int} {w : List Turn} {l : List ByteArray} {p : Nat} {s : ByteArray} (h : (layT k w l)[p]? = some s) : l[p]? = some s ∨ ∃ t ∈ w, t.At.toNat = p ∧ t.Data = s := lay_at k w 0 l p s h
theorem take_same {α : Type} {l l' : List α} {q : Nat} (hl : l'.length = l.length) (h : ∀ p s, p < q → l'[p]? = some s → l[p]? = some s) : l'.take q = l.take q := by
  refine List.ext_getElem? fun p => ?_
  by_cases hp : p < q
  · rw [List.getElem?_take_of_lt hp, List.getElem?_take_of_lt hp]
    by_cases hlt : p < l'.length
    · have e := List.getElem?_eq_getElem hlt
      rw [e]; exact (h p _ hp e).symm
    · rw [List.getElem?_eq_none (by omega), List.getElem?_eq_none (by omega)]
  · rw [List.getElem?_eq_none (by rw [List.length_take]; omega), List.getElem?_eq_none (by rw [List.length_take]; omega)]
theorem oTurns_at2 : ∀ (l : List Change) (p n : Int) (t : Turn), (∀ x ∈ l, chF x = 0) → t ∈ oTurns p n l → ∃ i : Nat, i < l.length ∧ t.At = p + (i : Int) ∧ byteAt t.Data 0 = 111 ∧ t.Data.extract 1 5 = fourB (n + (i : Int))
  | [], _, _, t, _, h => by cases h
  | c :: l, p, n, t, hc, h => by
    rcases List.mem_cons.1 h with rfl | h
    · obtain ⟨_, _, h3, h4⟩ := chF_zero (hc c (List.mem_cons_self ..))
      have hs : (chB c).1.size ≤ 41 := by rw [chB_size (hc c (List.mem_cons_self ..))]; omega
      exact ⟨0, by simp, by simp, by dsimp only; rw [sec_kind hs]; decide, by dsimp only; rw [sec_head hs]; simp⟩
    · obtain ⟨i, h1, h2, h3, h4⟩ := oTurns_at2 l (p + 1) (n + 1) t (fun x hx => hc x (List.mem_cons_of_mem _ hx)) h
      exact ⟨i + 1, by simp; omega, by omega, h3, by rw [h4]; congr 1; omega⟩
/-! ### a deed is added -/
theorem add_cnt {f k u cl n dn B : Nat} (h1 : f + k = n) (h2 : dn = n) (h3 : (cl : Int) + 1 ≤ (k : Int) - (u : Int)) (h4 : B + 1 = dn - (f + u + cl)) : u + (cl + 1) + B = k := by omega
/-- a disk at rest -/
structure Rest (n : Nat) (d : Dsk) : Prop where
  ok : DOk n 0 d
  down : d.Down = false
  fuse : -1 ≤ d.Fuse
  kn : d.Kept = d.Now
  wait : d.Wait = []
theorem add_law {n f k u : Nat} {first : Int} {d : Dsk} {W : List (List Change)} {c : List Change} (hR : Rest n d) (hfk : f + k = n) (h0 : 0 ≤ first) (hb : first + (k : Int) < 4294967296) (hL : LogIs (d.Now.drop f) first W u) (ha : addF ⟨f, k, first, u⟩ c = 0) :
    (∃ e, addL ⟨f, k, first, u⟩ d c = (⟨f, k, first, ((u + c.length + 1 : Nat) : Int)⟩, e, 0) ∧ Rest n e ∧ e.Now.take f = d.Now.take f ∧ LogIs (e.Now.drop f) first (W ++ [c]) (u + c.length + 1) ∧ (d.Fuse = -1 → e.Fuse = -1)) ∨
    (∃ e, addL ⟨f, k, first, u⟩ d c = (⟨f, k, first, u⟩, e, 10) ∧ ¬ d.Fuse = -1 ∧ ∀ z, DOk n 0 (dRestart e z) ∧ (layT z e.Wait e.Kept).take f = d.Now.take f ∧ ∃ W' u', LogIs ((layT z e.Wait e.Kept).drop f) first W' u' ∧ (W' = W ∨ W' = W ++ [c])) := by
  have hok := addL_ok (lg := ⟨f, k, first, u⟩) (c := c) hR.ok
  obtain ⟨a1, a2, a3⟩ := addF_zero ha
  dsimp only at a2
  have hnl := hR.ok.nl
  have hLK : LOk n 0 ⟨f, k, first, u⟩ d := ⟨hR.ok, by show (0 : Int) ≤ (f : Int); omega, by show (0 : Int) ≤ (k : Int); omega, by show (f : Int) + (k : Int) ≤ (n : Int); omega, by show (0 : Int) ≤ (u : Int); omega⟩
  have hkn := hR.kn; have hwt := hR.wait
  have hdl0 : (d.Now.drop f).length = k := by rw [List.length_drop]; omega
  have live := fun (h : d.Fuse = -1) => log_add (lg := ⟨f, k, first, u⟩) (c := c) (frm := f) (many := k) (first := first) (u := u) (W := W) hR.ok hR.down h rfl (by omega) (by omega) (by omega) (by
    rw [show ((k : Nat) : Int).toNat = k from rfl, regS_live hR.down (by omega), List.take_of_length_le (by omega)]; exact hL.sc)
  obtain ⟨B, b0, hB, hS⟩ := layA_arm (c := c) hLK hR.down hR.fuse ha
  have hq : ((f : Int) + (u : Int)).toNat = f + u := by omega
  dsimp only at hB hS
  rw [hq] at hB hS
  have hBl : (b0 :: B).length = d.Now.length - (f + u + c.length) := by rw [← hB, List.length_drop]
  rw [List.length_cons] at hBl
  have hBat : ∀ (j : Nat) s, (b0 :: B)[j]? = some s → d.Now[f + u + c.length + j]? = some s := fun j s hs => by rw [← hB, List.getElem?_drop] at hs; exact hs
  have htl : (d.Now.take (f + u)).length = f + u := by rw [List.length_take]; omega
  generalize hC : (if (u : Int) + (c.length : Int) + 1 < (k : Int) then B.set 0 (full ⟨#[]⟩) else B) = C at hS
  have hCl : C.length = B.length := by rw [← hC]; split <;> simp
  have hCat : ∀ (j : Nat) s, C[j]? = some s → d.Now[f + u + (c.length + 1) + j]? = some s ∨ byteAt s 0 = 0 := fun j s hs => by
    have hold : ∀ s, B[j]? = some s → d.Now[f + u + (c.length + 1) + j]? = some s := fun s hs => by
      have := hBat (j + 1) s (by simpa using hs)
      rwa [show f + u + c.length + (j + 1) = f + u + (c.length + 1) + j by omega] at this
    rw [← hC] at hs
    split at hs
    · by_cases hj : j = 0
      · subst hj
        have hlt : 0 < B.length := by have := (List.getElem?_eq_some_iff.1 hs).1; simpa using this
        rw [List.getElem?_set_self hlt] at hs
        injection hs with hs
        exact .inr (by rw [← hs]; exact blank_kind)
      · rw [List.getElem?_set_ne (by omega)] at hs; exact .inl (hold s hs)
    · exact .inl (hold s hs)
  have hCr : C = [] ∨ ∃ r', C = full ⟨#[]⟩ :: r' := by
    by_cases hr : (u : Int) + (c.length : Int) + 1 < (k : Int)
    · right
      rw [if_pos hr] at hC
      cases B with
      | nil => simp at hBl; omega
      | cons b1 B => exact ⟨B, hC.symm⟩
    · left
      exact List.eq_nil_of_length_eq_zero (by omega)
  have hAO : (d.Now.take (f + u) ++ oSecs (first + (u : Int)) c).length = f + u + c.length := by rw [List.length_append, htl, oSecs_len]
  -- the deed open
  have hN1t : (d.Now.take (f + u) ++ oSecs (first + (u : Int)) c ++ b0 :: C).take f = d.Now.take f := by
    rw [List.append_assoc, List.take_append_of_le_length (by omega), List.take_take, Nat.min_eq_left (by omega)]
  have hdr : ∀ X : List ByteArray, (d.Now.take (f + u) ++ X).drop f = (d.Now.drop f).take u ++ X := fun X => by
    rw [List.drop_append_of_le_length (by omega), List.drop_take, Nat.add_sub_cancel_left]
  have hul : ((d.Now.drop f).take u).length = u := by rw [List.length_take]; omega
  have hN1 : LogIs ((d.Now.take (f + u) ++ oSecs (first + (u : Int)) c ++ b0 :: C).drop f) first W u := by
    rw [List.append_assoc, hdr]
    refine hL.keep h0 (by rw [List.take_append_of_le_length (by omega), List.take_take, Nat.min_self]) fun j s hs => ?_
    by_cases hj : j < u
    · rw [List.getElem?_append_left (by omega), List.getElem?_take_of_lt hj] at hs; exact .inl hs
    · rw [List.getElem?_append_right (by omega), hul] at hs
      by_cases hj2 : j - u < c.length
      · rw [List.getElem?_append_left (by rw [oSecs_len]; exact hj2)] at hs
        obtain ⟨x, hx⟩ : ∃ x, c[j - u]? = some x := ⟨_, List.getElem?_eq_getElem hj2⟩
        rw [oSecs_get c _ _ x hx] at hs
        injection hs with hs
        have hz := a3 x (List.mem_of_getElem? hx)
        obtain ⟨_, _, h3, h4⟩ := chF_zero hz
        have hsz : (chB x).1.size ≤ 41 := by rw [chB_size hz]; omega
        refine .inr (.inr ⟨by rw [← hs, sec_kind hsz]; decide, by rw [← hs, sec_head hsz]; congr 1; omega⟩)
      · rw [List.getElem?_append_right (by rw [oSecs_len]; omega), oSecs_len] at hs
        by_cases hj3 : j - u - c.length = 0
        · rw [hj3] at hs
          have := hBat 0 s (by simpa using hs)
          left; rw [List.getElem?_drop]; rwa [show f + j = f + u + c.length + 0 by omega]
        · obtain ⟨i, hi⟩ : ∃ i, j - u - c.length = i + 1 := ⟨j - u - c.length - 1, by omega⟩
          rw [hi, List.getElem?_cons_succ] at hs
          rcases hCat i s hs with h1 | h1
          · left; rw [List.getElem?_drop]; rwa [show f + j = f + u + (c.length + 1) + i by omega]
          · exact .inr (.inl h1)
  -- the deed closed
  have hN2t : (d.Now.take (f + u) ++ (dSecs (first + (u : Int)) c ++ C)).take f = d.Now.take f := by
    rw [List.take_append_of_le_length (by omega), List.take_take, Nat.min_eq_left (by omega)]
  have hN2 : LogIs ((d.Now.take (f + u) ++ (dSecs (first + (u : Int)) c ++ C)).drop f) first (W ++ [c]) (u + c.length + 1) := by
    rw [hdr]
    have q1 : first + ((d.Now.drop f).length : Int) < 4294967296 := by rw [hdl0]; exact hb
    have q2 : u + (c.length + 1) + C.length = (d.Now.drop f).length := by rw [hdl0, hCl]; exact add_cnt hfk hnl a2 hBl
    refine hL.after h0 q1 a3 a1 q2 hCr fun j s hs => ?_
    rcases hCat j s hs with h1 | h1
    · left; rw [List.getElem?_drop]; rwa [show f + (u + (c.length + 1) + j) = f + u + (c.length + 1) + j by omega]
    · exact .inr h1
  -- what lies there of an open deed
  have hold : ∀ (T : List Turn) (z : Int), (∀ t ∈ T, t ∈ dTurns ⟨f, k, first, u⟩ c) → (layT z T d.Kept).take f = d.Now.take f ∧ LogIs ((layT z T d.Kept).drop f) first W u := fun T z hT => by
    have hlen : (layT z T d.Kept).length = d.Now.length := by rw [layT_len, hkn]
    have hp : ∀ (p : Nat) s, (layT z T d.Kept)[p]? = some s → d.Now[p]? = some s ∨ (f + u ≤ p ∧ (byteAt s 0 = 0 ∨ (byteAt s 0 = 111 ∧ s.extract 1 5 = fourB (first + ((p - f : Nat) : Int))))) := fun p s hs => by
      rcases layT_at hs with h1 | ⟨t, ht, h1, h2⟩
      · left; rw [← hkn]; exact h1
      · right
        have ht := hT t ht
        unfold dTurns at ht
        rcases List.mem_append.1 ht with ht | ht
        · obtain ⟨i, g1, g2, g3, g4⟩ := oTurns_at2 _ _ _ _ a3 ht
          dsimp only at g2 g4
          refine ⟨by omega, .inr ⟨by rw [← h2]; exact g3, by rw [← h2, g4]; congr 1; omega⟩⟩
        · split at ht
          · rw [List.mem_singleton.1 ht] at h1 h2
            dsimp only at h1 h2
            exact ⟨by omega, .inl (by rw [← h2]; exact blank_kind)⟩
          · cases ht
    refine ⟨take_same hlen fun p s hp1 hs => (hp p s hs).elim id fun h => by omega, hL.keep h0 ?_ fun j s hs => ?_⟩
    · refine take_same (by rw [List.length_drop, List.length_drop, hlen]) fun p s hp1 hs => ?_
      rw [List.getElem?_drop] at hs ⊢
      exact (hp _ s hs).elim id fun h => by omega
    · rw [List.getElem?_drop] at hs ⊢
      rcases hp _ s hs with h1 | ⟨h1, h2 | h2⟩
      · exact .inl h1
      · exact .inr (.inl h2)
      · rw [Nat.add_sub_cancel_left] at h2; exact .inr (.inr h2)
  have fell : ∀ e : Dsk, addL ⟨f, k, first, u⟩ d c = (⟨f, k, first, u⟩, e, 10) → ¬ d.Fuse = -1 := fun e he hf => by
    have := (live hf).1
    rw [he, ha] at this; cases this
  have rest : ∀ (e : Dsk), addL ⟨f, k, first, u⟩ d c = (⟨f, k, first, u⟩, e, 10) → ∀ z, DOk n 0 (dRestart e z) := fun e he z => by
    rw [he] at hok; exact hok.restart z
  rcases hS with ⟨g, hg, hS⟩ | ⟨e, he, e1, e2, j, e3⟩
  rotate_left
  · right
    have e' := add_a (lg := ⟨f, k, first, u⟩) (d := d) ha (by rw [he]; exact ten_ne)
    rw [he] at e'
    refine ⟨e, e', fell e e', fun z => ⟨rest e e' z, ?_⟩⟩
    rw [e2, e3, hwt, List.nil_append]
    have := hold (List.take j (dTurns ⟨f, k, first, u⟩ c)) z (fun t ht => List.mem_of_mem_take ht)
    exact ⟨this.1, W, u, this.2, .inl rfl⟩
  have g0 : (layA ⟨f, k, first, u⟩ d c).2 = 0 := by rw [hS]
  have hb1 : addB ⟨f, k, first, u⟩ d c = dFlush (layA ⟨f, k, first, u⟩ d c).1 := rfl
  rw [hS] at hb1
  rcases dFlush_arm (d := ⟨d.Kept, d.Now.take (f + u) ++ oSecs (first + (u : Int)) c ++ b0 :: C, d.Wait ++ dTurns ⟨f, k, first, u⟩ c, g, false⟩) rfl hg with ⟨g2, hg2, hb'⟩ | hb'
  rotate_left
  · rw [hb'] at hb1
    right
    have e' := add_b (lg := ⟨f, k, first, u⟩) (d := d) ha g0 (by rw [hb1]; exact ten_ne)
    rw [hb1] at e'
    refine ⟨_, e', fell _ e', fun z => ⟨rest _ e' z, ?_⟩⟩
    dsimp only
    rw [hwt, List.nil_append]
    have := hold _ z (fun t ht => ht)
    exact ⟨this.1, W, u, this.2, .inl rfl⟩
  rw [hb'] at hb1
  have g1 : (addB ⟨f, k, first, u⟩ d c).2 = 0 := by rw [hb1]
  have hc1 : addC ⟨f, k, first, u⟩ d c = dWrite (addB ⟨f, k, first, u⟩ d c).1 ((f : Int) + ((u : Int) + (c.length : Int))) (secT 99 (first + ((u : Int) + (c.length : Int))) (fourB (c.length : Int))) := rfl
  rw [hb1] at hc1
  rcases dWrite_arm (d := ⟨d.Now.take (f + u) ++ oSecs (first + (u : Int)) c ++ b0 :: C, d.Now.take (f + u) ++ oSecs (first + (u : Int)) c ++ b0 :: C, [], g2, false⟩) (i := (f : Int) + ((u : Int) + (c.length : Int))) (x := secT 99 (first + ((u : Int) + (c.length : Int))) (fourB (c.length : Int))) rfl hg2 (by omega) (by dsimp only; rw [List.length_append, hAO, List.length_cons]; omega) (by rw [secT_size, fourB_size]; omega) with ⟨g3, hg3, hc'⟩ | hc'
  rotate_left
  · dsimp only at hc1 hc'
    rw [hc'] at hc1
    right
    have e' := add_c (lg := ⟨f, k, first, u⟩) (d := d) ha g0 g1 (by rw [hc1]; exact ten_ne)
    rw [hc1] at e'
    refine ⟨_, e', fell _ e', fun z => ⟨rest _ e' z, ?_⟩⟩
    exact ⟨hN1t, W, u, hN1, .inl rfl⟩
  have e : ((f : Int) + ((u : Int) + (c.length : Int))).toNat = f + u + c.length := by omega
  have hset : (d.Now.take (f + u) ++ oSecs (first + (u : Int)) c ++ b0 :: C).set (f + u + c.length) (full (secT 99 (first + ((u : Int) + (c.length : Int))) (fourB (c.length : Int)))) = d.Now.take (f + u) ++ (dSecs (first + (u : Int)) c ++ C) := by
    rw [List.set_append_right _ _ (by omega), hAO, Nat.sub_self, List.set_cons_zero]
    unfold dSecs
    rw [show first + ((u : Int) + (c.length : Int)) = first + (u : Int) + (c.length : Int) by omega]
    simp only [List.append_assoc, List.singleton_append, List.nil_append]
  dsimp only at hc1 hc'
  rw [hc', e, hset] at hc1
  have g2' : (addC ⟨f, k, first, u⟩ d c).2 = 0 := by rw [hc1]
  have hdd : addD ⟨f, k, first, u⟩ d c = dFlush (addC ⟨f, k, first, u⟩ d c).1 := rfl
  rw [hc1] at hdd
  rcases dFlush_arm (d := (⟨d.Now.take (f + u) ++ oSecs (first + (u : Int)) c ++ b0 :: C, d.Now.take (f + u) ++ (dSecs (first + (u : Int)) c ++ C), [] ++ [⟨(f : Int) + ((u : Int) + (c.length : Int)), full (secT 99 (first + ((u : Int) + (c.length : Int))) (fourB (c.length : Int)))⟩], g3, false⟩ : Dsk)) rfl hg3 with ⟨g4, hg4, hd'⟩ | hd'
  rotate_left
  · dsimp only at hdd hd'
    rw [hd'] at hdd
    right
    have e' := add_d (lg := ⟨f, k, first, u⟩) (d := d) ha g0 g1 g2' (by rw [hdd]; exact ten_ne)
    rw [hdd] at e'
    refine ⟨_, e', fell _ e', fun z => ⟨rest _ e' z, ?_⟩⟩
    dsimp only
    show (lay1 z _ (_, 0)).take f = _ ∧ ∃ W' u', LogIs ((lay1 z _ (_, 0)).drop f) first W' u' ∧ _
    by_cases hbit : bitOf z 0 = true
    · unfold lay1; dsimp only
      rw [if_pos hbit, e, hset]; exact ⟨hN2t, _, _, hN2, .inr rfl⟩
    · unfold lay1; dsimp only
      rw [if_neg hbit]; exact ⟨hN1t, _, _, hN1, .inl rfl⟩
  dsimp only at hdd hd'
  rw [hd'] at hdd
  left
  have e' := add_ok (lg := ⟨f, k, first, u⟩) (d := d) ha g0 g1 g2' (by rw [hdd])
  rw [hdd] at e'
  refine ⟨_, by rw [e']; dsimp only; congr 1, ⟨?_, rfl, hg4, rfl, rfl⟩, hN2t, hN2, fun hf => ?_⟩
  · rw [e'] at hok
    exact ⟨hok.kl, hok.nl, hok.ks, hok.ns, Nat.zero_le _, fun t ht => (by cases ht), hok.f0, hok.f1⟩
  · have := (live hf).2.2.1
    rw [e'] at this; exact this
end Go.Proofs.Ytpipachmngdegaa
end
