import Derived.Test.YtpipachmngdegaaStoreSaysProofG26
section
/-
  Laws of a log: a deed that was added is there when the log is opened anew. No program.
-/
namespace Go.Proofs.Ytpipachmngdegaa
open Go Go.RowKit
set_option linter.unusedVariables false

theorem dWrite_live2 {d : Dsk} {i : Int} {x : ByteArray} (hd : d.Down = false) (hf : d.Fuse = -1) (h0 : 0 ≤ i) (h1 : i < (d.Now.length : Int)) (h2 : x.size ≤ 48) :
    dWrite d i x = (⟨d.Kept, d.Now.set i.toNat (full x), d.Wait ++ [⟨i, full x⟩], -1, false⟩, 0) := by
  rw [dWrite_ok h0 h1 h2 (by rw [dStep_live hd hf]), dStep_live hd hf]
def oTurns (p n : Int) : List Change → List Turn
  | [] => []
  | c :: l => ⟨p, full (secT 111 n (chB c).1)⟩ :: oTurns (p + 1) (n + 1) l
theorem oTurns_len : ∀ (l : List Change) (p n : Int), (oTurns p n l).length = l.length
  | [], _, _ => rfl
  | c :: l, p, n => by simp [oTurns, oTurns_len l]
theorem oTurns_at : ∀ (l : List Change) (p n : Int) (t : Turn), t ∈ oTurns p n l → p ≤ t.At ∧ t.At < p + (l.length : Int) ∧ ∃ c ∈ l, ∃ m, t.Data = full (secT 111 m (chB c).1)
  | [], _, _, t, h => by cases h
  | c :: l, p, n, t, h => by
    rcases List.mem_cons.1 h with rfl | h
    · exact ⟨Int.le_refl _, by simp; omega, c, List.mem_cons_self .., n, rfl⟩
    · obtain ⟨h1, h2, c', h3, m, h4⟩ := oTurns_at l (p + 1) (n + 1) t h
      exact ⟨by omega, by rw [List.length_cons]; omega, c', List.mem_cons_of_mem _ h3, m, h4⟩
theorem layL_live (lg : Lg) : ∀ (c : List Change) (d : Dsk) (i q : Nat), d.Down = false → d.Fuse = -1 → lg.From + lg.Next + (i : Int) = (q : Int) → q + c.length ≤ d.Now.length → (∀ x ∈ c, chF x = 0) →
    layL lg d c i = (⟨d.Kept, d.Now.take q ++ oSecs (lg.First + lg.Next + (i : Int)) c ++ d.Now.drop (q + c.length), d.Wait ++ oTurns (q : Int) (lg.First + lg.Next + (i : Int)) c, -1, false⟩, 0)
  | [], d, i, q, hd, hf, hq, hl, hc => by
    unfold layL; obtain ⟨a, b, e, f, g⟩ := d; simp_all [oSecs, oTurns]
  | x :: r, d, i, q, hd, hf, hq, hl, hc => by
    have hx := chB_fit (hc x (List.mem_cons_self ..))
    rw [List.length_cons] at hl
    have hw := dWrite_live2 (d := d) (i := lg.From + lg.Next + (i : Int)) (x := secT 111 (lg.First + lg.Next + (i : Int)) (chB x).1) hd hf (by omega) (by omega) (by rw [secT_size]; omega)
    have hqt : (lg.From + lg.Next + (i : Int)).toNat = q := by omega
    rw [hqt, hq] at hw
    unfold layL
    rw [hq, hw, if_pos rfl, layL_live lg r _ (i + 1) (q + 1) rfl rfl (by omega) (by dsimp only; rw [List.length_set]; omega) (fun y hy => hc y (List.mem_cons_of_mem _ hy))]
    have e1 : (d.Now.set q (full (secT 111 (lg.First + lg.Next + (i : Int)) (chB x).1))).take (q + 1) = d.Now.take q ++ [full (secT 111 (lg.First + lg.Next + (i : Int)) (chB x).1)] := by
      rw [List.take_add_one, List.take_set_of_le (Nat.le_refl _), List.getElem?_set_self (by omega)]; rfl
    have e2 : (d.Now.set q (full (secT 111 (lg.First + lg.Next + (i : Int)) (chB x).1))).drop (q + 1 + r.length) = d.Now.drop (q + (r.length + 1)) := by
      rw [List.drop_set_of_lt (by omega), show q + 1 + r.length = q + (r.length + 1) by omega]
    have e3 : lg.First + lg.Next + ((i + 1 : Nat) : Int) = lg.First + lg.Next + (i : Int) + 1 := by omega
    have e4 : ((q + 1 : Nat) : Int) = (q : Int) + 1 := by omega
    dsimp only
    rw [e1, e2, e3, e4, List.length_cons]
    simp only [oSecs, oTurns, List.append_assoc, List.singleton_append]
/-- the deed's sectors as they lie at last -/
def dSecs (n : Int) (c : List Change) : List ByteArray := oSecs n c ++ [full (secT 99 (n + (c.length : Int)) (fourB (c.length : Int)))]
theorem dSecs_len (n : Int) (c : List Change) : (dSecs n c).length = c.length + 1 := by simp [dSecs, oSecs_len]
/-- a disk on which the log may lie -/
structure LOk (n m : Nat) (lg : Lg) (d : Dsk) : Prop where
  ok : DOk n m d
  f0 : 0 ≤ lg.From
  m0 : 0 ≤ lg.Many
  fm : lg.From + lg.Many ≤ (n : Int)
  x0 : 0 ≤ lg.Next
section
variable {n m : Nat} {lg : Lg} {d : Dsk} {c : List Change}
theorem addF_zero (h : addF lg c = 0) : c.length ≤ 62 ∧ (c.length : Int) + 1 ≤ lg.Many - lg.Next ∧ ∀ x ∈ c, chF x = 0 := by
  unfold addF at h
  split at h
  · cases h
  · split at h
    · cases h
    · exact ⟨by omega, by omega, chFs_zero h⟩
/-- all that was laid before the first flush, on a disk that doesn't fall -/
theorem layA_live (h : LOk n m lg d) (hd : d.Down = false) (hf : d.Fuse = -1) (ha : addF lg c = 0) :
    ∃ (A B : List ByteArray) (b0 : ByteArray) (T : List Turn), A = d.Now.take (lg.From + lg.Next).toNat ∧ d.Now.drop ((lg.From + lg.Next).toNat + c.length) = b0 :: B ∧
      T = oTurns (lg.From + lg.Next) (lg.First + lg.Next) c ++ (if lg.Next + (c.length : Int) + 1 < lg.Many then [⟨lg.From + (lg.Next + (c.length : Int) + 1), full ⟨#[]⟩⟩] else []) ∧
      layA lg d c = (⟨d.Kept, A ++ oSecs (lg.First + lg.Next) c ++ b0 :: (if lg.Next + (c.length : Int) + 1 < lg.Many then B.set 0 (full ⟨#[]⟩) else B), d.Wait ++ T, -1, false⟩, 0) := by
  obtain ⟨a1, a2, a3⟩ := addF_zero ha
  have h1 := h.f0; have h2 := h.m0; have h3 := h.fm; have h4 := h.x0; have h5 := h.ok.nl
  obtain ⟨q, hq⟩ : ∃ q : Nat, lg.From + lg.Next = (q : Int) := ⟨(lg.From + lg.Next).toNat, by omega⟩
  have hqt : (lg.From + lg.Next).toNat = q := by omega
  have hl := layL_live lg c d 0 q hd hf (by omega) (by omega) a3
  rw [show lg.First + lg.Next + ((0 : Nat) : Int) = lg.First + lg.Next by omega] at hl
  have hdl : (d.Now.drop (q + c.length)).length = d.Now.length - (q + c.length) := List.length_drop
  obtain ⟨b0, B, hB⟩ : ∃ b0 B, d.Now.drop (q + c.length) = b0 :: B := by
    cases hh : d.Now.drop (q + c.length) with
    | nil => rw [hh] at hdl; simp at hdl; omega
    | cons b0 B => exact ⟨b0, B, rfl⟩
  refine ⟨_, B, b0, _, rfl, by rw [hqt]; exact hB, rfl, ?_⟩
  rw [hqt]
  have hA : (d.Now.take q ++ oSecs (lg.First + lg.Next) c).length = q + c.length := by rw [List.length_append, List.length_take, oSecs_len]; omega
  rw [hB] at hl
  unfold layA
  rw [hl, if_pos rfl, hq]
  by_cases hr : lg.Next + (c.length : Int) + 1 < lg.Many
  · rw [if_pos hr, if_pos hr, if_pos hr]
    have hn : (d.Now.take q ++ oSecs (lg.First + lg.Next) c ++ b0 :: B).length = d.Now.length := by
      rw [List.length_append, hA, ← hB, hdl]; omega
    rw [dWrite_live2 rfl rfl (by omega) (by dsimp only; omega) (by decide)]
    dsimp only
    have e : (lg.From + (lg.Next + (c.length : Int) + 1)).toNat = q + c.length + 1 := by omega
    rw [e, List.set_append_right _ _ (by omega), hA, show q + c.length + 1 - (q + c.length) = 0 + 1 by omega, List.set_cons_succ]
    simp only [List.append_assoc]
  · rw [if_neg hr, if_neg hr, if_neg hr, List.append_nil]
/-- a deed that was added, on a disk that doesn't fall -/
theorem addL_live (h : LOk n m lg d) (hd : d.Down = false) (hf : d.Fuse = -1) (ha : addF lg c = 0) :
    ∃ (r : List ByteArray) (e : Dsk), addL lg d c = (⟨lg.From, lg.Many, lg.First, lg.Next + (c.length : Int) + 1⟩, e, 0) ∧ e.Down = false ∧ e.Fuse = -1 ∧ e.Kept = e.Now ∧ e.Wait = [] ∧
      e.Now = d.Now.take (lg.From + lg.Next).toNat ++ dSecs (lg.First + lg.Next) c ++ r ∧ (lg.Next + (c.length : Int) + 1 < lg.Many → ∃ r', r = full ⟨#[]⟩ :: r') ∧ (∀ s ∈ r, s = full ⟨#[]⟩ ∨ s ∈ d.Now.drop (lg.From + lg.Next).toNat) := by
  obtain ⟨a1, a2, a3⟩ := addF_zero ha
  have h1 := h.f0; have h2 := h.m0; have h3 := h.fm; have h4 := h.x0; have h5 := h.ok.nl
  obtain ⟨A, B, b0, T, hA, hB, hT, hL⟩ := layA_live h hd hf ha
  have hAl : A.length = (lg.From + lg.Next).toNat := by rw [hA, List.length_take]; omega
  have hdl : (b0 :: B).length = d.Now.length - ((lg.From + lg.Next).toNat + c.length) := by rw [← hB, List.length_drop]
  rw [List.length_cons] at hdl
  generalize hC : (if lg.Next + (c.length : Int) + 1 < lg.Many then B.set 0 (full ⟨#[]⟩) else B) = C at hL
  have hCl : C.length = B.length := by rw [← hC]; split <;> simp
  have hAO : (A ++ oSecs (lg.First + lg.Next) c).length = (lg.From + lg.Next).toNat + c.length := by rw [List.length_append, hAl, oSecs_len]
  have hb : addB lg d c = (⟨A ++ oSecs (lg.First + lg.Next) c ++ b0 :: C, A ++ oSecs (lg.First + lg.Next) c ++ b0 :: C, [], -1, false⟩, 0) := by
    unfold addB; rw [hL]; exact dFlush_live rfl rfl
  have hc : addC lg d c = (⟨A ++ oSecs (lg.First + lg.Next) c ++ b0 :: C, A ++ dSecs (lg.First + lg.Next) c ++ C, [⟨lg.From + (lg.Next + (c.length : Int)), full (secT 99 (lg.First + (lg.Next + (c.length : Int))) (fourB (c.length : Int)))⟩], -1, false⟩, 0) := by
    unfold addC
    rw [hb, dWrite_live2 rfl rfl (by omega) (by dsimp only; rw [List.length_append, hAO, List.length_cons]; omega) (by rw [secT_size, fourB_size]; omega)]
    dsimp only
    have e : (lg.From + (lg.Next + (c.length : Int))).toNat = (lg.From + lg.Next).toNat + c.length := by omega
    rw [e, List.set_append_right _ _ (by omega), hAO, Nat.sub_self, List.set_cons_zero]
    unfold dSecs
    rw [show lg.First + (lg.Next + (c.length : Int)) = lg.First + lg.Next + (c.length : Int) by omega]
    simp only [List.append_assoc, List.singleton_append, List.nil_append]
  have hD : addD lg d c = (⟨A ++ dSecs (lg.First + lg.Next) c ++ C, A ++ dSecs (lg.First + lg.Next) c ++ C, [], -1, false⟩, 0) := by
    unfold addD; rw [hc]; exact dFlush_live rfl rfl
  refine ⟨C, _, add_ok ha (by rw [hL]) (by rw [hb]) (by rw [hc]) (by rw [hD]), by rw [hD], by rw [hD], by rw [hD], by rw [hD], by rw [hD, hA], fun hr => ?_, fun s hs => ?_⟩
  · rw [if_pos hr] at hC
    cases B with
    | nil => simp at hdl; omega
    | cons b1 B => exact ⟨B, hC.symm⟩
  · have hsB : ∀ s ∈ B, s ∈ d.Now.drop (lg.From + lg.Next).toNat := fun s hs => by
      have : s ∈ d.Now.drop ((lg.From + lg.Next).toNat + c.length) := by rw [hB]; exact List.mem_cons_of_mem _ hs
      rw [← List.drop_drop] at this
      exact List.mem_of_mem_drop this
    rw [← hC] at hs
    split at hs
    · rcases List.mem_or_eq_of_mem_set hs with hs | hs
      · exact .inr (hsB s hs)
      · exact .inl hs
    · exact .inr (hsB s hs)
theorem regS_live {d : Dsk} {f k : Nat} (hd : d.Down = false) (hl : f + k ≤ d.Now.length) : regS d (f : Int) k = (d.Now.drop f).take k := by
  refine List.ext_getElem? fun j => ?_
  by_cases hj : j < k
  · rw [regS_at hj, List.getElem?_take_of_lt hj, List.getElem?_drop]
    obtain ⟨x, hx⟩ : ∃ x, d.Now[f + j]? = some x := ⟨_, List.getElem?_eq_getElem (by omega)⟩
    rw [show (f : Int) + (j : Int) = ((f + j : Nat) : Int) by omega, dRead_live hd hx, hx]
  · rw [List.getElem?_eq_none (by rw [regS_len]; omega), List.getElem?_eq_none (by rw [List.length_take]; omega)]
/-- what a log reads behind a deed that was added -/
theorem add_scan {W : List (List Change)} {u : Nat} (h : LOk n m lg d) (hd : d.Down = false) (hf : d.Fuse = -1) (ha : addF lg c = 0) (hx : lg.Next = (u : Int)) (hs : scan (regS d lg.From lg.Many.toNat) lg.First = (W, u)) :
    scan (regS (addL lg d c).2.1 lg.From lg.Many.toNat) lg.First = (W ++ [c], u + c.length + 1) := by
  obtain ⟨a1, a2, a3⟩ := addF_zero ha
  have h1 := h.f0; have h2 := h.m0; have h3 := h.fm; have h5 := h.ok.nl
  obtain ⟨r, e, he, e1, e2, e3, e4, e5, e6, e7⟩ := addL_live h hd hf ha
  obtain ⟨f, hF⟩ : ∃ f : Nat, lg.From = (f : Int) := ⟨lg.From.toNat, by omega⟩
  obtain ⟨k, hK⟩ : ∃ k : Nat, lg.Many = (k : Int) := ⟨lg.Many.toNat, by omega⟩
  have hq : (lg.From + lg.Next).toNat = f + u := by omega
  rw [hq] at e5
  have hkt : lg.Many.toNat = k := by omega
  have htl : (d.Now.take (f + u)).length = f + u := by rw [List.length_take]; omega
  have hok := addL_ok (lg := lg) (c := c) h.ok
  rw [he] at hok
  have hel : e.Now.length = n := hok.nl
  have hrl : f + u + (c.length + 1) + r.length = n := by
    rw [e5, List.length_append, List.length_append, htl, dSecs_len] at hel; exact hel
  rw [he]
  dsimp only
  rw [hkt, hF] at hs ⊢
  rw [regS_live hd (by omega)] at hs
  rw [regS_live e1 (by omega)]
  have hd1 : e.Now.drop f = (d.Now.drop f).take u ++ (dSecs (lg.First + lg.Next) c ++ r) := by
    rw [e5, List.append_assoc, List.drop_append_of_le_length (by omega), List.drop_take, show f + u - f = u by omega]
  have hul : ((d.Now.drop f).take u).length = u := by rw [List.length_take, List.length_drop]; omega
  have hreg : (e.Now.drop f).take k = (d.Now.drop f).take u ++ (dSecs (lg.First + lg.Next) c ++ r.take (k - u - (c.length + 1))) := by
    rw [hd1, List.take_append, hul, List.take_of_length_le (l := (d.Now.drop f).take u) (by omega), List.take_append, dSecs_len, List.take_of_length_le (l := dSecs (lg.First + lg.Next) c) (by rw [dSecs_len]; omega)]
  have hcut := scan_cut (l := (d.Now.drop f).take k) (l' := (e.Now.drop f).take k) (first := lg.First) (by
    rw [hs, hreg, List.take_append_of_le_length (by omega), List.take_take, List.take_take]; congr 1; omega)
  rw [hcut, hs, hreg]
  dsimp only
  rw [List.drop_append_of_le_length (by omega), List.drop_of_length_le (by omega), List.nil_append, hx]
  unfold dSecs
  rw [List.append_assoc, List.singleton_append]
  refine sc_deed a3 ?_
  by_cases hb : lg.Next + (c.length : Int) + 1 < lg.Many
  · obtain ⟨r', hr'⟩ := e6 hb
    right
    obtain ⟨j, hj⟩ : ∃ j, k - u - (c.length + 1) = j + 1 := ⟨k - u - (c.length + 1) - 1, by omega⟩
    exact ⟨full ⟨#[]⟩, r'.take j, by rw [hr', hj, List.take_succ_cons], blank_kind⟩
  · left
    rw [show k - u - (c.length + 1) = 0 by omega, List.take_zero]
theorem add_keeps (ha : ¬ addF lg c = 0) : addL lg d c = (lg, d, addF lg c) := by unfold addL; rw [if_pos ha]
theorem scan_room {l : List ByteArray} {first : Int} {W : List (List Change)} {u : Nat} (h : scan l first = (W, u)) : u ≤ l.length := by
  have := scan_le l first; rw [h] at this; exact this
theorem log_add {frm many first : Int} {u : Nat} {W : List (List Change)} (hO : DOk n m d) (hd : d.Down = false) (hf : d.Fuse = -1) (hg : lg = ⟨frm, many, first, (u : Int)⟩) (b1 : 0 ≤ frm) (b2 : 1 ≤ many) (b3 : frm + many ≤ (n : Int)) (hs : scan (regS d frm many.toNat) first = (W, u)) :
    (addL lg d c).2.2 = addF lg c ∧ (addL lg d c).2.1.Down = false ∧ (addL lg d c).2.1.Fuse = -1 ∧
    (addF lg c = 0 → (addL lg d c).1 = ⟨frm, many, first, ((u + c.length + 1 : Nat) : Int)⟩ ∧ scan (regS (addL lg d c).2.1 frm many.toNat) first = (W ++ [c], u + c.length + 1) ∧ u + c.length + 1 ≤ many.toNat) ∧
    (¬ addF lg c = 0 → (addL lg d c).1 = lg ∧ (addL lg d c).2.1 = d) := by
  have hL : LOk n m lg d := by rw [hg]; exact ⟨hO, b1, by dsimp only; omega, b3, by dsimp only; omega⟩
  have e1 : lg.From = frm := by rw [hg]
  have e2 : lg.Many = many := by rw [hg]
  have e3 : lg.First = first := by rw [hg]
  have e4 : lg.Next = (u : Int) := by rw [hg]
  by_cases ha : addF lg c = 0
  · obtain ⟨a1, a2, a3⟩ := addF_zero ha
    have hsc := add_scan (c := c) (W := W) (u := u) hL hd hf ha e4 (by rw [e1, e2, e3]; exact hs)
    obtain ⟨r, e, he, q1, q2, _⟩ := addL_live hL hd hf ha
    rw [e1, e2, e3] at hsc
    rw [he] at hsc ⊢
    refine ⟨ha.symm, q1, q2, fun _ => ⟨?_, hsc, by omega⟩, fun h => absurd ha h⟩
    show (⟨lg.From, lg.Many, lg.First, lg.Next + (c.length : Int) + 1⟩ : Lg) = _
    rw [e1, e2, e3, e4]; congr 1
  · rw [add_keeps ha]
    exact ⟨rfl, hd, hf, fun h => absurd h ha, fun _ => ⟨rfl, rfl⟩⟩
/-- how far the document has looked for a fault -/
def fInv (lg : Lg) (c : List Change) (k : Nat) (f : Int) : Prop :=
  k ≤ c.length ∧ ((f = addF lg c ∧ ¬ f = 0) ∨ (f = 0 ∧ ¬ 62 < c.length ∧ ¬ lg.Many - lg.Next < (c.length : Int) + 1 ∧ chFs (c.drop k) = chFs c))
theorem fInv_many (h : 62 < c.length) : fInv lg c 0 2 := ⟨Nat.zero_le _, .inl ⟨by unfold addF; rw [if_pos h], by decide⟩⟩
theorem fInv_full (h : ¬ 62 < c.length) (h' : lg.Many - lg.Next < (c.length : Int) + 1) : fInv lg c 0 9 := ⟨Nat.zero_le _, .inl ⟨by unfold addF; rw [if_neg h, if_pos h'], by decide⟩⟩
theorem fInv_none (h : ¬ 62 < c.length) (h' : ¬ lg.Many - lg.Next < (c.length : Int) + 1) : fInv lg c 0 0 := ⟨Nat.zero_le _, .inr ⟨rfl, h, h', rfl⟩⟩
theorem fInv.next {k : Nat} {f : Int} {x : Change} (h : fInv lg c k f) (hf : f = 0) (hx : c[k]? = some x) : fInv lg c (k + 1) (chF x) := by
  have hk := (List.getElem?_eq_some_iff.1 hx).1
  obtain ⟨_, h1 | ⟨_, h2, h3, h4⟩⟩ := h
  · exact absurd hf h1.2
  · refine ⟨hk, ?_⟩
    by_cases h0 : chF x = 0
    · exact .inr ⟨h0, h2, h3, fs_go h4 hx h0⟩
    · refine .inl ⟨?_, h0⟩
      unfold addF; rw [if_neg h2, if_neg h3, ← h4]
      exact (fs_stop rfl hx h0).symm
theorem fInv.is {k : Nat} {f : Int} (h : fInv lg c k f) (hk : ¬ k < c.length ∨ ¬ f = 0) : f = addF lg c := by
  obtain ⟨h0, h1 | ⟨h2, h3, h4, h5⟩⟩ := h
  · exact h1.1
  · have hk : ¬ k < c.length := hk.resolve_right fun q => q h2
    rw [List.drop_of_length_le (by omega)] at h5
    rw [h2, addF_ok h3 h4 h5.symm]
theorem sc_count : ∀ (l : List ByteArray) (n : Int) (out : List (List Change)) (deed : List Change) (used pos : Nat), (scD l n out deed used pos).1.length ≤ out.length + l.length
  | [], n, out, deed, used, pos => by unfold scD; simp
  | s :: r, n, out, deed, used, pos => by
    unfold scD
    split
    · have := sc_count r (n + 1) (out ++ [deed]) [] (pos + 1) (pos + 1)
      simp only [List.length_append, List.length_cons, List.length_nil] at this ⊢; omega
    · split
      · have := sc_count r (n + 1) out (deed ++ [(chP (txtB s)).1]) used (pos + 1)
        rw [List.length_cons]; omega
      · dsimp only; omega
theorem scan_count {l : List ByteArray} {first : Int} {W : List (List Change)} {u : Nat} (h : scan l first = (W, u)) : W.length ≤ l.length := by
  have := sc_count l first [] [] 0 0
  rw [show scD l first [] [] 0 0 = (W, u) from h] at this; simpa using this
theorem regS_sz (hO : DOk n m d) (hd : d.Down = false) {f : Int} {k : Nat} (h0 : 0 ≤ f) (h1 : f + (k : Int) ≤ (n : Int)) : ∀ s ∈ regS d f k, s.size = 48 := fun s hs => by
  unfold regS at hs
  obtain ⟨i, hi, rfl⟩ := List.mem_map.1 hs
  have := List.mem_range.1 hi
  exact (dRead_in hO hd (by omega) (by omega)).2
theorem take_bound {α : Type} {l : List α} {k : Nat} {x : α} {p : α → Prop} (hx : l[k]? = some x) (h : ∀ s ∈ l.take k, p s) (hp : p x) : ∀ s ∈ l.take (k + 1), p s := fun s hs => by
  rw [List.take_add_one, hx] at hs
  rcases List.mem_append.1 hs with hs | hs
  · exact h s hs
  · simp at hs; rw [hs]; exact hp
end
end Go.Proofs.Ytpipachmngdegaa
end
