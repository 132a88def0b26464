import Derived.Test.YtpipachmngdegaaStoreSaysProofG32
section
/-
  Laws of a log on a disk that may fall: a deed is there whole, or not at all. No program.
-/
namespace Go.Proofs.Ytpipachmngdegaa
open Go Go.RowKit
set_option linter.unusedVariables false

theorem scan_split {l l' : List ByteArray} {f k u : Nat} {first : Int} {W : List (List Change)} (hs : scan ((l.drop f).take k) first = (W, u)) (hl : f + k ≤ l.length) (ht : l'.take (f + u) = l.take (f + u)) :
    u ≤ k ∧ scan ((l'.drop f).take k) first = scD ((l'.drop (f + u)).take (k - u)) (first + (u : Int)) W [] u u := by
  have hu := scan_le ((l.drop f).take k) first
  rw [hs, List.length_take, List.length_drop] at hu
  have huk : u ≤ k := by dsimp only at hu; omega
  refine ⟨huk, ?_⟩
  have e : ∀ q : List ByteArray, ((q.drop f).take k).take u = (q.take (f + u)).drop f := fun q => by
    rw [List.take_take, Nat.min_eq_left huk, List.drop_take, Nat.add_sub_cancel_left]
  have hcut := scan_cut (l := (l.drop f).take k) (l' := (l'.drop f).take k) (first := first) (by rw [hs]; dsimp only; rw [e, e, ht])
  rw [hs] at hcut
  rw [hcut]; dsimp only
  rw [List.drop_take, List.drop_drop]
theorem scan_keep {l l' : List ByteArray} {f k u : Nat} {first : Int} {W : List (List Change)} (hs : scan ((l.drop f).take k) first = (W, u)) (hl : f + k ≤ l.length) (ht : l'.take (f + u) = l.take (f + u)) (hn : ∀ s ∈ l'.drop (f + u), ¬ byteAt s 0 = 99) :
    scan ((l'.drop f).take k) first = (W, u) := by
  rw [(scan_split hs hl ht).2]
  exact sc_none _ _ _ _ _ _ fun s h => hn s (List.mem_of_mem_take h)
theorem scan_after {l r : List ByteArray} {f k u : Nat} {first : Int} {W : List (List Change)} {c : List Change} (hs : scan ((l.drop f).take k) first = (W, u)) (hl : f + k ≤ l.length) (hu : u + c.length + 1 ≤ k) (hc : ∀ x ∈ c, chF x = 0)
    (hr : u + c.length + 1 < k → ∃ r', r = full ⟨#[]⟩ :: r') : scan (((l.take (f + u) ++ dSecs (first + (u : Int)) c ++ r).drop f).take k) first = (W ++ [c], u + c.length + 1) := by
  have htl : (l.take (f + u)).length = f + u := by rw [List.length_take]; omega
  rw [(scan_split (l' := l.take (f + u) ++ dSecs (first + (u : Int)) c ++ r) hs hl (by rw [List.append_assoc, List.take_append_of_le_length (by omega), List.take_take, Nat.min_self])).2]
  rw [List.append_assoc, List.drop_append_of_le_length (by omega), List.drop_of_length_le (l := l.take (f + u)) (by omega), List.nil_append, List.take_append, dSecs_len, List.take_of_length_le (l := dSecs (first + (u : Int)) c) (by rw [dSecs_len]; omega)]
  unfold dSecs
  rw [List.append_assoc, List.singleton_append]
  refine sc_deed hc ?_
  by_cases hb : u + c.length + 1 < k
  · obtain ⟨r', hr'⟩ := hr hb
    right
    obtain ⟨j, hj⟩ : ∃ j, k - u - (c.length + 1) = j + 1 := ⟨k - u - (c.length + 1) - 1, by omega⟩
    exact ⟨full ⟨#[]⟩, r'.take j, by rw [hr', hj, List.take_succ_cons], blank_kind⟩
  · left
    rw [show k - u - (c.length + 1) = 0 by omega, List.take_zero]
/-! ### what is kept behind a fall -/
theorem lay_pre (k : Int) (q : Nat) (K : List ByteArray) : ∀ (w : List Turn) (j : Nat) (l : List ByteArray), (∀ t ∈ w, (q : Int) ≤ t.At ∧ ¬ byteAt t.Data 0 = 99) → l.take q = K.take q → (∀ s ∈ l.drop q, ¬ byteAt s 0 = 99) →
    (((w.zipIdx j).foldl (lay1 k) l).take q = K.take q ∧ ∀ s ∈ ((w.zipIdx j).foldl (lay1 k) l).drop q, ¬ byteAt s 0 = 99)
  | [], j, l, _, h1, h2 => ⟨h1, h2⟩
  | t :: w, j, l, ht, h1, h2 => by
    rw [List.zipIdx_cons, List.foldl_cons]
    obtain ⟨a, b⟩ := ht t (List.mem_cons_self ..)
    refine lay_pre k q K w (j + 1) _ (fun t h => ht t (List.mem_cons_of_mem _ h)) ?_ ?_
    · unfold lay1; split
      · rw [List.take_set_of_le (by dsimp only; omega)]; exact h1
      · exact h1
    · unfold lay1; split
      · intro s hs
        rw [List.drop_set, if_neg (by dsimp only; omega)] at hs
        rcases List.mem_or_eq_of_mem_set hs with hs | hs
        · exact h2 s hs
        · rw [hs]; exact b
      · exact h2
/-! ### a disk that may fall -/
section
variable {n m : Nat} {lg : Lg} {d : Dsk} {c : List Change}
theorem ten_ne {a : Dsk} : ¬ ((a, (10 : Int)) : Dsk × Int).2 = 0 := by show ¬ (10 : Int) = 0; decide
theorem dStep_arm (hd : d.Down = false) (hf : -1 ≤ d.Fuse) : (∃ g, -1 ≤ g ∧ dStep d = (⟨d.Kept, d.Now, d.Wait, g, false⟩, 0)) ∨ dStep d = (⟨d.Kept, d.Now, d.Wait, -1, true⟩, 10) := by
  by_cases h : d.Fuse = 0
  · exact .inr (dStep_blow hd h)
  · exact .inl ⟨_, by omega, dStep_go hd h⟩
theorem dWrite_arm {i : Int} {x : ByteArray} (hd : d.Down = false) (hf : -1 ≤ d.Fuse) (h0 : 0 ≤ i) (h1 : i < (d.Now.length : Int)) (h2 : x.size ≤ 48) :
    (∃ g, -1 ≤ g ∧ dWrite d i x = (⟨d.Kept, d.Now.set i.toNat (full x), d.Wait ++ [⟨i, full x⟩], g, false⟩, 0)) ∨ dWrite d i x = (⟨d.Kept, d.Now, d.Wait, -1, true⟩, 10) := by
  rcases dStep_arm hd hf with ⟨g, hg, h⟩ | h
  · left; exact ⟨g, hg, by rw [dWrite_ok h0 h1 h2 (by rw [h]), h]⟩
  · right; rw [dWrite_err h0 h1 h2 (by rw [h]; exact ten_ne), h]
theorem dFlush_arm (hd : d.Down = false) (hf : -1 ≤ d.Fuse) : (∃ g, -1 ≤ g ∧ dFlush d = (⟨d.Now, d.Now, [], g, false⟩, 0)) ∨ dFlush d = (⟨d.Kept, d.Now, d.Wait, -1, true⟩, 10) := by
  unfold dFlush
  rcases dStep_arm hd hf with ⟨g, hg, h⟩ | h
  · left; exact ⟨g, hg, by rw [h, if_pos rfl]⟩
  · right; rw [h, if_neg ten_ne]
theorem layL_arm (lg : Lg) : ∀ (c : List Change) (d : Dsk) (i q : Nat), d.Down = false → -1 ≤ d.Fuse → lg.From + lg.Next + (i : Int) = (q : Int) → q + c.length ≤ d.Now.length → (∀ x ∈ c, chF x = 0) →
    (∃ g, -1 ≤ g ∧ layL lg d c i = (⟨d.Kept, d.Now.take q ++ oSecs (lg.First + lg.Next + (i : Int)) c ++ d.Now.drop (q + c.length), d.Wait ++ oTurns (q : Int) (lg.First + lg.Next + (i : Int)) c, g, false⟩, 0)) ∨
    (∃ e, layL lg d c i = (e, 10) ∧ e.Down = true ∧ e.Kept = d.Kept ∧ ∃ j, e.Wait = d.Wait ++ (oTurns (q : Int) (lg.First + lg.Next + (i : Int)) c).take j)
  | [], d, i, q, hd, hf, hq, hl, hc => by
    left; refine ⟨d.Fuse, hf, ?_⟩
    unfold layL; obtain ⟨a, b, e, f, g⟩ := d; simp_all [oSecs, oTurns]
  | x :: r, d, i, q, hd, hf, hq, hl, hc => by
    have hx := chB_fit (hc x (List.mem_cons_self ..))
    rw [List.length_cons] at hl
    have hw := dWrite_arm (d := d) (i := lg.From + lg.Next + (i : Int)) (x := secT 111 (lg.First + lg.Next + (i : Int)) (chB x).1) hd hf (by omega) (by omega) (by rw [secT_size]; omega)
    have hqt : (lg.From + lg.Next + (i : Int)).toNat = q := by omega
    rw [hqt, hq] at hw
    unfold layL
    rw [hq]
    rcases hw with ⟨g, hg, hw⟩ | hw
    · rw [hw, if_pos rfl]
      have e3 : lg.First + lg.Next + ((i + 1 : Nat) : Int) = lg.First + lg.Next + (i : Int) + 1 := by omega
      have e4 : ((q + 1 : Nat) : Int) = (q : Int) + 1 := by omega
      rcases layL_arm lg r ⟨d.Kept, d.Now.set q (full (secT 111 (lg.First + lg.Next + (i : Int)) (chB x).1)), d.Wait ++ [⟨(q : Int), full (secT 111 (lg.First + lg.Next + (i : Int)) (chB x).1)⟩], g, false⟩ (i + 1) (q + 1) rfl hg (by omega) (by dsimp only; rw [List.length_set]; omega) (fun y hy => hc y (List.mem_cons_of_mem _ hy)) with ⟨g', hg', h⟩ | ⟨e, he, h1, h2, j, h3⟩
      · left; refine ⟨g', hg', ?_⟩
        rw [h]
        have e1 : (d.Now.set q (full (secT 111 (lg.First + lg.Next + (i : Int)) (chB x).1))).take (q + 1) = d.Now.take q ++ [full (secT 111 (lg.First + lg.Next + (i : Int)) (chB x).1)] := by
          rw [List.take_add_one, List.take_set_of_le (Nat.le_refl _), List.getElem?_set_self (by omega)]; rfl
        have e2 : (d.Now.set q (full (secT 111 (lg.First + lg.Next + (i : Int)) (chB x).1))).drop (q + 1 + r.length) = d.Now.drop (q + (r.length + 1)) := by
          rw [List.drop_set_of_lt (by omega), show q + 1 + r.length = q + (r.length + 1) by omega]
        dsimp only
        rw [e1, e2, e3, e4, List.length_cons]
        simp only [oSecs, oTurns, List.append_assoc, List.singleton_append]
      · right; refine ⟨e, he, h1, h2, j + 1, ?_⟩
        rw [h3, e3, e4]
        simp only [oTurns, List.take_succ_cons, List.append_assoc, List.singleton_append]
    · right
      rw [hw, if_neg ten_ne]
      exact ⟨_, rfl, rfl, rfl, 0, by simp⟩
/-- what the turns of a deed are, before its end -/
def dTurns (lg : Lg) (c : List Change) : List Turn := oTurns (lg.From + lg.Next) (lg.First + lg.Next) c ++ (if lg.Next + (c.length : Int) + 1 < lg.Many then [⟨lg.From + (lg.Next + (c.length : Int) + 1), full ⟨#[]⟩⟩] else [])
theorem dTurns_at (hm : c.length ≤ 62) {t : Turn} (ht : t ∈ dTurns lg c) (hc : ∀ x ∈ c, chF x = 0) : lg.From + lg.Next ≤ t.At ∧ ¬ byteAt t.Data 0 = 99 := by
  unfold dTurns at ht
  rcases List.mem_append.1 ht with ht | ht
  · obtain ⟨h1, _, x, hx, k, h2⟩ := oTurns_at _ _ _ _ ht
    refine ⟨h1, ?_⟩
    obtain ⟨_, _, h3, h4⟩ := chF_zero (hc x hx)
    rw [h2, sec_kind (by rw [chB_size (hc x hx)]; omega)]; decide
  · split at ht
    · rw [List.mem_singleton.1 ht]; exact ⟨by dsimp only; omega, by rw [blank_kind]; decide⟩
    · cases ht
theorem layA_arm (h : LOk n m lg d) (hd : d.Down = false) (hf : -1 ≤ d.Fuse) (ha : addF lg c = 0) :
    ∃ (B : List ByteArray) (b0 : ByteArray), d.Now.drop ((lg.From + lg.Next).toNat + c.length) = b0 :: B ∧
      ((∃ g, -1 ≤ g ∧ layA lg d c = (⟨d.Kept, d.Now.take (lg.From + lg.Next).toNat ++ oSecs (lg.First + lg.Next) c ++ b0 :: (if lg.Next + (c.length : Int) + 1 < lg.Many then B.set 0 (full ⟨#[]⟩) else B), d.Wait ++ dTurns lg c, g, false⟩, 0)) ∨
       (∃ e, layA lg d c = (e, 10) ∧ e.Down = true ∧ e.Kept = d.Kept ∧ ∃ j, e.Wait = d.Wait ++ (dTurns lg c).take j)) := by
  obtain ⟨a1, a2, a3⟩ := addF_zero ha
  have h1 := h.f0; have h2 := h.m0; have h3 := h.fm; have h4 := h.x0; have h5 := h.ok.nl
  obtain ⟨q, hq⟩ : ∃ q : Nat, lg.From + lg.Next = (q : Int) := ⟨(lg.From + lg.Next).toNat, by omega⟩
  have hle : q + c.length ≤ d.Now.length := by omega
  have hqt : (lg.From + lg.Next).toNat = q := by omega
  have hl := layL_arm lg c d 0 q hd hf (by omega) (by omega) a3
  rw [show lg.First + lg.Next + ((0 : Nat) : Int) = lg.First + lg.Next by omega] at hl
  have hdl : (d.Now.drop (q + c.length)).length = d.Now.length - (q + c.length) := List.length_drop
  obtain ⟨b0, B, hB⟩ : ∃ b0 B, d.Now.drop (q + c.length) = b0 :: B := by
    cases hh : d.Now.drop (q + c.length) with
    | nil => rw [hh] at hdl; simp at hdl; omega
    | cons b0 B => exact ⟨b0, B, rfl⟩
  refine ⟨B, b0, by rw [hqt]; exact hB, ?_⟩
  rw [hqt]
  have hA : (d.Now.take q ++ oSecs (lg.First + lg.Next) c).length = q + c.length := by rw [List.length_append, List.length_take, oSecs_len]; omega
  rw [hB] at hl
  have hn : (d.Now.take q ++ oSecs (lg.First + lg.Next) c ++ b0 :: B).length = d.Now.length := by
    rw [List.length_append, hA, ← hB, hdl]; exact Nat.add_sub_cancel' hle
  unfold layA dTurns
  rw [hq]
  rcases hl with ⟨g, hg, hl⟩ | ⟨e, he, e1, e2, j, e3⟩
  · rw [hl, if_pos rfl]
    by_cases hr : lg.Next + (c.length : Int) + 1 < lg.Many
    · rw [if_pos hr, if_pos hr, if_pos hr]
      rcases dWrite_arm (d := ⟨d.Kept, d.Now.take q ++ oSecs (lg.First + lg.Next) c ++ b0 :: B, d.Wait ++ oTurns (q : Int) (lg.First + lg.Next) c, g, false⟩) (i := lg.From + (lg.Next + (c.length : Int) + 1)) (x := ⟨#[]⟩) rfl hg (by omega) (by dsimp only; omega) (by decide) with ⟨g', hg', hw⟩ | hw
      · left; refine ⟨g', hg', ?_⟩
        rw [hw]
        dsimp only
        have e : (lg.From + (lg.Next + (c.length : Int) + 1)).toNat = q + c.length + 1 := by
          have : lg.From + (lg.Next + (c.length : Int) + 1) = ((q + c.length + 1 : Nat) : Int) := by omega
          rw [this, Int.toNat_natCast]
        rw [e, List.set_append_right _ _ (by omega), hA, show q + c.length + 1 - (q + c.length) = 0 + 1 by omega, List.set_cons_succ]
        simp only [List.append_assoc]
      · right
        rw [hw]
        exact ⟨_, rfl, rfl, rfl, c.length, by dsimp only; rw [List.take_append_of_le_length (by rw [oTurns_len]; omega), List.take_of_length_le (by rw [oTurns_len]; omega)]⟩
    · rw [if_neg hr, if_neg hr, if_neg hr, List.append_nil]
      exact .inl ⟨g, hg, rfl⟩
  · right
    rw [he, if_neg ten_ne]
    refine ⟨e, rfl, e1, e2, min j c.length, ?_⟩
    rw [e3, List.take_append_of_le_length (by rw [oTurns_len]; exact Nat.min_le_right _ _)]
    congr 1
    by_cases hj : j ≤ c.length
    · rw [Nat.min_eq_left hj]
    · rw [Nat.min_eq_right (by omega), List.take_of_length_le (by rw [oTurns_len]; omega), List.take_of_length_le (by rw [oTurns_len]; omega)]
/-- a log that has just what it was given, on a disk on which all is kept -/
structure TL (n : Nat) (lg : Lg) (d : Dsk) (W : List (List Change)) (u : Nat) : Prop where
  ok : LOk n 0 lg d
  down : d.Down = false
  fuse : -1 ≤ d.Fuse
  kn : d.Kept = d.Now
  wait : d.Wait = []
  nx : lg.Next = (u : Int)
  sc : scan ((d.Now.drop lg.From.toNat).take lg.Many.toNat) lg.First = (W, u)
  tail : ∀ s ∈ d.Now.drop (lg.From.toNat + u), ¬ byteAt s 0 = 99
/-- what a fall may leave -/
def Left (lg : Lg) (n : Nat) (d : Dsk) (W : List (List Change)) : Prop :=
  ∀ k, DOk n 0 (dRestart d k) ∧ ∃ u, scan (((layT k d.Wait d.Kept).drop lg.From.toNat).take lg.Many.toNat) lg.First = (W, u)
theorem chFs_ten : ∀ l : List Change, ¬ chFs l = 10
  | [] => by unfold chFs; decide
  | x :: l => by
    unfold chFs; have := chF_023 x; split
    · exact chFs_ten l
    · omega
theorem add_fall {W : List (List Change)} {u : Nat} (h : TL n lg d W u) :
    ((addL lg d c).2.2 = 0 ∧ (addL lg d c).1 = ⟨lg.From, lg.Many, lg.First, lg.Next + (c.length : Int) + 1⟩ ∧ TL n (addL lg d c).1 (addL lg d c).2.1 (W ++ [c]) (u + c.length + 1)) ∨
    ((addL lg d c).2.2 = 10 ∧ ∀ k, DOk n 0 (dRestart (addL lg d c).2.1 k) ∧ ((∃ u', scan (((layT k (addL lg d c).2.1.Wait (addL lg d c).2.1.Kept).drop lg.From.toNat).take lg.Many.toNat) lg.First = (W, u')) ∨ ∃ u', scan (((layT k (addL lg d c).2.1.Wait (addL lg d c).2.1.Kept).drop lg.From.toNat).take lg.Many.toNat) lg.First = (W ++ [c], u'))) ∨
    (¬ (addL lg d c).2.2 = 0 ∧ ¬ (addL lg d c).2.2 = 10 ∧ (addL lg d c).1 = lg ∧ (addL lg d c).2.1 = d) := by
  by_cases ha : addF lg c = 0
  rotate_left
  · right; right
    rw [add_keeps ha]
    refine ⟨ha, ?_, rfl, rfl⟩
    show ¬ addF lg c = 10
    unfold addF; (repeat' split) <;> first | decide | exact chFs_ten c
  have hok := addL_ok (lg := lg) (c := c) h.ok.ok
  obtain ⟨a1, a2, a3⟩ := addF_zero ha
  have h1 := h.ok.f0; have h2 := h.ok.m0; have h3 := h.ok.fm; have h4 := h.ok.x0; have h5 := h.ok.ok.nl; have h6 := h.nx; have hkn := h.kn; have hwt := h.wait
  obtain ⟨f, hF⟩ : ∃ f : Nat, lg.From = (f : Int) := ⟨lg.From.toNat, by omega⟩
  obtain ⟨k, hK⟩ : ∃ k : Nat, lg.Many = (k : Int) := ⟨lg.Many.toNat, by omega⟩
  have hft : lg.From.toNat = f := by omega
  have hkt : lg.Many.toNat = k := by omega
  have hq : (lg.From + lg.Next).toNat = f + u := by omega
  have hsc := h.sc; have htail := h.tail
  rw [hft, hkt] at hsc
  rw [hft] at htail
  obtain ⟨B, b0, hB, hL⟩ := layA_arm (c := c) h.ok h.down h.fuse ha
  rw [hq] at hB hL
  have hdl : (b0 :: B).length = d.Now.length - (f + u + c.length) := by rw [← hB, List.length_drop]
  rw [List.length_cons] at hdl
  have htl : (d.Now.take (f + u)).length = f + u := by rw [List.length_take]; omega
  have hBt : ∀ s ∈ b0 :: B, ¬ byteAt s 0 = 99 := fun s hs => htail s (by rw [← hB, ← List.drop_drop] at hs; exact List.mem_of_mem_drop hs)
  have hn1 : lg.First + lg.Next = lg.First + (u : Int) := by omega
  rw [hn1] at hL
  generalize hC : (if lg.Next + (c.length : Int) + 1 < lg.Many then B.set 0 (full ⟨#[]⟩) else B) = C at hL
  have hCl : C.length = B.length := by rw [← hC]; split <;> simp
  have hCt : ∀ s ∈ C, ¬ byteAt s 0 = 99 := fun s hs => by
    rw [← hC] at hs
    split at hs
    · rcases List.mem_or_eq_of_mem_set hs with hs | hs
      · exact hBt s (List.mem_cons_of_mem _ hs)
      · rw [hs, blank_kind]; decide
    · exact hBt s (List.mem_cons_of_mem _ hs)
  have hCr : u + c.length + 1 < k → ∃ r', C = full ⟨#[]⟩ :: r' := fun hr => by
    rw [if_pos (by omega)] at hC
    cases B with
    | nil => simp at hdl; omega
    | cons b1 B => exact ⟨B, hC.symm⟩
  have hAO : (d.Now.take (f + u) ++ oSecs (lg.First + (u : Int)) c).length = f + u + c.length := by rw [List.length_append, htl, oSecs_len]
  have hN1 : scan (((d.Now.take (f + u) ++ oSecs (lg.First + (u : Int)) c ++ b0 :: C).drop f).take k) lg.First = (W, u) := by
    refine scan_keep hsc (by omega) (by rw [List.append_assoc, List.take_append_of_le_length (by omega), List.take_take, Nat.min_self]) (fun s hs => ?_)
    rw [List.append_assoc, List.drop_append_of_le_length (by omega), List.drop_of_length_le (by omega), List.nil_append] at hs
    rcases List.mem_append.1 hs with hs | hs
    · exact oSecs_kind _ _ a3 s hs
    · rcases List.mem_cons.1 hs with hs | hs
      · exact hBt s (by rw [hs]; exact List.mem_cons_self ..)
      · exact hCt s hs
  have hN2 := scan_after (r := C) hsc (by omega) (by omega) a3 hCr
  have hold : ∀ (T : List Turn) (z : Int), (∀ t ∈ T, t ∈ dTurns lg c) → scan (((layT z T d.Kept).drop f).take k) lg.First = (W, u) := fun T z hT => by
    have := lay_pre z (f + u) d.Now T 0 d.Kept (fun t ht => by
      have := dTurns_at a1 (hT t ht) a3
      exact ⟨by omega, this.2⟩) (by rw [hkn]) (by rw [hkn]; exact htail)
    exact scan_keep hsc (by omega) this.1 this.2
  rcases hL with ⟨g, hg, hL⟩ | ⟨e, he, e1, e2, j, e3⟩
  rotate_left
  · right; left
    have e := add_a ha (by rw [he]; exact ten_ne)
    rw [he] at e
    rw [e] at hok ⊢
    refine ⟨rfl, fun z => ⟨hok.restart z, .inl ⟨u, ?_⟩⟩⟩
    dsimp only
    rw [hft, hkt, e2, e3, hwt, List.nil_append]
    exact hold _ z (fun t ht => List.mem_of_mem_take ht)
  have g0 : (layA lg d c).2 = 0 := by rw [hL]
  have hb : addB lg d c = dFlush (layA lg d c).1 := rfl
  rw [hL] at hb
  rcases dFlush_arm (d := ⟨d.Kept, d.Now.take (f + u) ++ oSecs (lg.First + (u : Int)) c ++ b0 :: C, d.Wait ++ dTurns lg c, g, false⟩) rfl hg with ⟨g2, hg2, hb'⟩ | hb'
  rotate_left
  · rw [hb'] at hb
    right; left
    have e := add_b ha g0 (by rw [hb]; exact ten_ne)
    rw [hb] at e
    rw [e] at hok ⊢
    refine ⟨rfl, fun z => ⟨hok.restart z, .inl ⟨u, ?_⟩⟩⟩
    dsimp only
    rw [hft, hkt, hwt, List.nil_append]
    exact hold _ z (fun t ht => ht)
  rw [hb'] at hb
  have g1 : (addB lg d c).2 = 0 := by rw [hb]
  have hc : addC lg d c = dWrite (addB lg d c).1 (lg.From + (lg.Next + (c.length : Int))) (secT 99 (lg.First + (lg.Next + (c.length : Int))) (fourB (c.length : Int))) := rfl
  rw [hb] at hc
  rcases dWrite_arm (d := ⟨d.Now.take (f + u) ++ oSecs (lg.First + (u : Int)) c ++ b0 :: C, d.Now.take (f + u) ++ oSecs (lg.First + (u : Int)) c ++ b0 :: C, [], g2, false⟩) (i := lg.From + (lg.Next + (c.length : Int))) (x := secT 99 (lg.First + (lg.Next + (c.length : Int))) (fourB (c.length : Int))) rfl hg2 (by omega) (by dsimp only; rw [List.length_append, hAO, List.length_cons]; omega) (by rw [secT_size, fourB_size]; omega) with ⟨g3, hg3, hc'⟩ | hc'
  rotate_left
  · dsimp only at hc hc'
    rw [hc'] at hc
    right; left
    have e := add_c ha g0 g1 (by rw [hc]; exact ten_ne)
    rw [hc] at e
    rw [e] at hok ⊢
    refine ⟨rfl, fun z => ⟨hok.restart z, .inl ⟨u, ?_⟩⟩⟩
    dsimp only
    rw [hft, hkt]
    exact hN1
  have e : (lg.From + (lg.Next + (c.length : Int))).toNat = f + u + c.length := by omega
  have hset : (d.Now.take (f + u) ++ oSecs (lg.First + (u : Int)) c ++ b0 :: C).set (f + u + c.length) (full (secT 99 (lg.First + (lg.Next + (c.length : Int))) (fourB (c.length : Int)))) = d.Now.take (f + u) ++ dSecs (lg.First + (u : Int)) c ++ C := by
    rw [List.set_append_right _ _ (by omega), hAO, Nat.sub_self, List.set_cons_zero]
    unfold dSecs
    rw [show lg.First + (lg.Next + (c.length : Int)) = lg.First + (u : Int) + (c.length : Int) by omega]
    simp only [List.append_assoc, List.singleton_append, List.nil_append]
  dsimp only at hc hc'
  rw [hc', e, hset] at hc
  have g2' : (addC lg d c).2 = 0 := by rw [hc]
  have hdd : addD lg d c = dFlush (addC lg d c).1 := rfl
  rw [hc] at hdd
  rcases dFlush_arm (d := (⟨d.Now.take (f + u) ++ oSecs (lg.First + (u : Int)) c ++ b0 :: C, d.Now.take (f + u) ++ dSecs (lg.First + (u : Int)) c ++ C, [] ++ [⟨lg.From + (lg.Next + (c.length : Int)), full (secT 99 (lg.First + (lg.Next + (c.length : Int))) (fourB (c.length : Int)))⟩], g3, false⟩ : Dsk)) rfl hg3 with ⟨g4, hg4, hd'⟩ | hd'
  rotate_left
  · dsimp only at hdd hd'
    rw [hd'] at hdd
    right; left
    have e' := add_d ha g0 g1 g2' (by rw [hdd]; exact ten_ne)
    rw [hdd] at e'
    rw [e'] at hok ⊢
    refine ⟨rfl, fun z => ⟨hok.restart z, ?_⟩⟩
    dsimp only
    rw [hft, hkt]
    show (∃ u', scan (((lay1 z _ (_, 0)).drop f).take k) lg.First = _) ∨ _
    by_cases hbit : bitOf z 0 = true
    · right
      refine ⟨u + c.length + 1, ?_⟩
      show scan (((lay1 z (d.Now.take (f + u) ++ oSecs (lg.First + (u : Int)) c ++ b0 :: C) (⟨lg.From + (lg.Next + (c.length : Int)), full (secT 99 (lg.First + (lg.Next + (c.length : Int))) (fourB (c.length : Int)))⟩, 0)).drop f).take k) lg.First = _
      unfold lay1; dsimp only
      rw [if_pos hbit, e, hset]; exact hN2
    · left
      refine ⟨u, ?_⟩
      unfold lay1; dsimp only
      rw [if_neg hbit]; exact hN1
  dsimp only at hdd hd'
  rw [hd'] at hdd
  left
  have e' := add_ok ha g0 g1 g2' (by rw [hdd])
  rw [hdd] at e'
  rw [e'] at hok ⊢
  refine ⟨rfl, rfl, ⟨?_, h1, h2, h3, by dsimp only; omega⟩, rfl, hg4, rfl, rfl, by dsimp only; omega, ?_, ?_⟩
  · exact ⟨hok.kl, hok.nl, hok.ks, hok.ns, Nat.zero_le _, fun t ht => (by cases ht), hok.f0, hok.f1⟩
  · dsimp only; rw [hft, hkt]; exact hN2
  · dsimp only
    intro s hs
    rw [hft, List.append_assoc, List.drop_append, htl, List.drop_of_length_le (by omega), List.nil_append, show f + (u + c.length + 1) - (f + u) = c.length + 1 by omega, List.drop_append, dSecs_len, Nat.sub_self, List.drop_zero, List.drop_of_length_le (by rw [dSecs_len]; omega), List.nil_append] at hs
    exact hCt s hs
theorem opn_live {k : Int} {f M : Nat} {X : List (List Change)} (hO : DOk n m (dRestart d k)) (hl : f + M ≤ n) {first : Int} {u : Nat} (hs : scan (((layT k d.Wait d.Kept).drop f).take M) first = (X, u)) : opnD (dRestart d k) (f : Int) M first = X := by
  unfold opnD
  have hn := hO.nl
  rw [regS_live rfl (by omega)]
  show (scan (((layT k d.Wait d.Kept).drop f).take M) first).1 = X
  rw [hs]
theorem fall_none {W : List (List Change)} {u : Nat} (h : TL n lg d W u) (k : Int) : DOk n 0 (dRestart d k) ∧ opnD (dRestart d k) lg.From lg.Many.toNat lg.First = W := by
  have hO := h.ok.ok.restart k
  have h1 := h.ok.f0; have h2 := h.ok.m0; have h3 := h.ok.fm
  refine ⟨hO, ?_⟩
  have := opn_live (f := lg.From.toNat) (M := lg.Many.toNat) (first := lg.First) (X := W) (u := u) hO (by omega) (by rw [h.wait]; show scan ((d.Kept.drop _).take _) _ = _; rw [h.kn]; exact h.sc)
  rwa [show ((lg.From.toNat : Nat) : Int) = lg.From by omega] at this
theorem fall_break {W : List (List Change)} {u : Nat} (h : TL n lg d W u) (c : List Change) (k : Int) (he : (addL lg d c).2.2 = 10) : DOk n 0 (dRestart (addL lg d c).2.1 k) ∧ (opnD (dRestart (addL lg d c).2.1 k) lg.From lg.Many.toNat lg.First = W ∨ opnD (dRestart (addL lg d c).2.1 k) lg.From lg.Many.toNat lg.First = W ++ [c]) := by
  have h1 := h.ok.f0; have h2 := h.ok.m0; have h3 := h.ok.fm
  rcases add_fall (c := c) h with ⟨e, _⟩ | ⟨_, e⟩ | ⟨_, e, _⟩
  · rw [he] at e; cases e
  · obtain ⟨hO, e⟩ := e k
    refine ⟨hO, ?_⟩
    have hF : ((lg.From.toNat : Nat) : Int) = lg.From := by omega
    rcases e with ⟨u', e⟩ | ⟨u', e⟩
    · left; have := opn_live (f := lg.From.toNat) (M := lg.Many.toNat) hO (by omega) e; rwa [hF] at this
    · right; have := opn_live (f := lg.From.toNat) (M := lg.Many.toNat) hO (by omega) e; rwa [hF] at this
  · exact absurd he e
theorem open_add {frm many first : Int} (hO : DOk n m d) (hd : d.Down = false) (hf : d.Fuse = -1) (b1 : 0 ≤ frm) (b2 : 1 ≤ many) (b3 : frm + many ≤ (n : Int)) (ha : addF ⟨frm, many, first, (opnU d frm many.toNat first : Int)⟩ c = 0) :
    (addL ⟨frm, many, first, (opnU d frm many.toNat first : Int)⟩ d c).2.2 = 0 ∧ (addL ⟨frm, many, first, (opnU d frm many.toNat first : Int)⟩ d c).2.1.Down = false ∧ DOk n (m + c.length + 2) (addL ⟨frm, many, first, (opnU d frm many.toNat first : Int)⟩ d c).2.1 ∧
      opnD (addL ⟨frm, many, first, (opnU d frm many.toNat first : Int)⟩ d c).2.1 frm many.toNat first = opnD d frm many.toNat first ++ [c] := by
  obtain ⟨l1, l2, l3, l4, _⟩ := log_add (lg := ⟨frm, many, first, (opnU d frm many.toNat first : Int)⟩) (c := c) (u := opnU d frm many.toNat first) (W := opnD d frm many.toNat first) hO hd hf rfl b1 b2 b3 rfl
  refine ⟨by rw [l1, ha], l2, addL_ok hO, ?_⟩
  show (scan _ _).1 = _
  rw [(l4 ha).2.1]
theorem TL_start (z : Int) (hz : z ≤ 200) : TL 60 ⟨1, 59, 5, (opnU (dNew (Int.toNat 60)) 1 (Int.toNat 59) 5 : Int)⟩ (dArm (dNew (Int.toNat 60)) z) [] 0 := by
  have hu : opnU (dNew (Int.toNat 60)) 1 (Int.toNat 59) 5 = 0 := by decide +kernel
  rw [hu]
  refine ⟨⟨(dNew_ok 60).arm (by omega), by decide, by decide, by decide, by decide⟩, rfl, by show -1 ≤ max z (-1); omega, rfl, rfl, rfl, (by show scan (((dNew (Int.toNat 60)).Now.drop 1).take 59) 5 = ([], 0); decide +kernel), fun s hs => ?_⟩
  have hs' := List.mem_of_mem_drop hs
  rw [(List.mem_replicate.1 hs').2, nou_kind]; decide
theorem TL_next {W : List (List Change)} {u : Nat} (h : TL n lg d W u) (h2 : lg.Many = 59) : lg.Next ≤ 59 := by
  have := scan_le ((d.Now.drop lg.From.toNat).take lg.Many.toNat) lg.First
  rw [h.sc, List.length_take] at this
  have h3 := h.nx
  dsimp only at this
  omega
theorem DOk.pair {k : Nat} (h : DOk n m d) (hm : m ≤ k) (hn : n ≤ 100000) : DOk d.Now.length k d ∧ d.Now.length ≤ 100000 := by rw [h.nl]; exact ⟨h.up hm, hn⟩
theorem dRestart_down (d : Dsk) (k : Int) : (dRestart d k).Down = false := rfl
theorem dRestart_fuse (d : Dsk) (k : Int) : (dRestart d k).Fuse = -1 := rfl
theorem opnU_le (d : Dsk) (f : Int) (k : Nat) (first : Int) : opnU d f k first ≤ k := by
  have := scan_le (regS d f k) first
  rw [regS_len] at this; exact this
theorem opnD_le {d : Dsk} {f : Int} {k : Nat} {first : Int} : (opnD d f k first).length ≤ k := by
  have := sc_count (regS d f k) first [] [] 0 0
  rw [regS_len] at this
  simpa [opnD, scan] using this
theorem bats_le {l : List Bat} {d : Dsk} {f : Int} {k : Nat} {first : Int} (h : l.map Bat.L = opnD d f k first) : l.length ≤ k := by
  have := opnD_le (d := d) (f := f) (k := k) (first := first)
  rw [← h, List.length_map] at this; exact this
theorem no_same {A B : List (List Change)} (h : decide (A = B) = false) (e : A = B) : False := of_decide_eq_false h e
theorem no_same' {A B : List (List Change)} (h : (!decide (A = B)) = true) (e : A = B) : False := by simp [e] at h
end
end Go.Proofs.Ytpipachmngdegaa
end
