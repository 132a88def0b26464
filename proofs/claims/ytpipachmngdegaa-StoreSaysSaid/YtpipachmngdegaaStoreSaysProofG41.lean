import Derived.Test.YtpipachmngdegaaStoreSaysProofG28
import Derived.Test.YtpipachmngdegaaStoreSaysProofG40
section
/-
  A store's bytes and heads, read back: what is written is what is read. No program.
-/
namespace Go.Proofs.Ytpipachmngdegaa
open Go Go.RowKit
set_option linter.unusedVariables false

/-! ### heads -/
theorem take_app4 {a b : List UInt8} (h : a.length = 4) : (a ++ b).take 4 = a := by rw [← h, List.take_left]
theorem unN_bl (s : ByteArray) : unN s = (((bl s)[0]?).getD 0).toNat + (((bl s)[1]?).getD 0).toNat * 256 + (((bl s)[2]?).getD 0).toNat * 65536 + (((bl s)[3]?).getD 0).toNat * 16777216 := by
  unfold unN; simp only [byteAt_bl]
theorem unN_four {n : Int} (h0 : 0 ≤ n) (h1 : n < 4294967296) : ((unN (fourB n) : Nat) : Int) = n := by
  rw [unN_bl, fourB_bl]
  have e0 := u8_toNat (n := n % 256) (by omega)
  have e1 := u8_toNat (n := n / 256 % 256) (by omega)
  have e2 := u8_toNat (n := n / 65536 % 256) (by omega)
  have e3 := u8_toNat (n := n / 16777216 % 256) (by omega)
  simp only [List.getElem?_cons_zero, List.getElem?_cons_succ, Option.getD_some]
  omega
theorem headT_size (h : Hed) : (headT h).size = 17 := by
  unfold headT; simp only [ByteArray.size_append, fourB_size]; rfl
theorem headT_bl (h : Hed) : bl (headT h) = [72] ++ bl (fourB h.Epoch) ++ bl (fourB h.Side) ++ bl (fourB h.Size) ++ bl (fourB h.First) := by
  unfold headT; simp only [bl_app]; first | done | rfl
theorem head_piece (h : Hed) : (full (headT h)).extract 1 5 = fourB h.Epoch ∧ (full (headT h)).extract 5 9 = fourB h.Side ∧ (full (headT h)).extract 9 13 = fourB h.Size ∧ (full (headT h)).extract 13 17 = fourB h.First ∧ byteAt (full (headT h)) 0 = 72 := by
  have e : bl (full (headT h)) = [72] ++ bl (fourB h.Epoch) ++ bl (fourB h.Side) ++ bl (fourB h.Size) ++ bl (fourB h.First) ++ List.replicate 31 0 := by rw [full_bl, headT_bl, headT_size]
  simp only [fourB_bl] at e
  refine ⟨?_, ?_, ?_, ?_, ?_⟩
  · exact ba_ext ((bl_ext _ 1 5).trans (by rw [e]; rfl))
  · exact ba_ext ((bl_ext _ 5 9).trans (by rw [e]; rfl))
  · exact ba_ext ((bl_ext _ 9 13).trans (by rw [e]; rfl))
  · exact ba_ext ((bl_ext _ 13 17).trans (by rw [e]; rfl))
  · rw [byteAt_bl, e]; rfl
def HedOk (h : Hed) : Prop := 0 ≤ h.Epoch ∧ h.Epoch < 4294967296 ∧ 0 ≤ h.Side ∧ h.Side ≤ 1 ∧ 0 ≤ h.Size ∧ h.Size ≤ 2400 ∧ 1 ≤ h.First ∧ h.First < 4294967296
theorem headO_full {h : Hed} (k : HedOk h) : headO (full (headT h)) = h := by
  obtain ⟨k1, k2, k3, k4, k5, k6, k7, k8⟩ := k
  obtain ⟨p1, p2, p3, p4, p5⟩ := head_piece h
  have e1 := unN_four k1 k2; have e2 := unN_four k3 (by omega : h.Side < 4294967296); have e3 := unN_four k5 (by omega : h.Size < 4294967296); have e4 := unN_four (by omega : 0 ≤ h.First) k8
  rw [headO_ok (by unfold headB; rw [p5, p2, p3, p4]; omega)]
  unfold headR
  rw [p1, p2, p3, p4, e1, e2, e3, e4]
theorem headO_nou : headO (nou 48) = ⟨0, 0, 0, 0⟩ := headO_bad (.inl (by rw [nou_kind]; decide))
/-! ### rows as bytes -/
structure GoodR (l : List Change) : Prop where
  rise : RiseC l
  ok : ∀ c ∈ l, chF c = 0
  live : ∀ c ∈ l, c.Gone = false
  len : l.length ≤ 60
theorem allB_cons' (c : Change) (l : List Change) (b : ByteArray) : (c :: l).foldl (fun b c => b ++ rowB c) b = l.foldl (fun b c => b ++ rowB c) (b ++ rowB c) := rfl
theorem allB_fold : ∀ (l : List Change) (b : ByteArray), l.foldl (fun b c => b ++ rowB c) b = b ++ allB l
  | [], b => ba_ext (by unfold allB; simp)
  | c :: l, b => by
    have h1 := allB_fold l (b ++ rowB c)
    have h2 := allB_fold l (⟨#[]⟩ ++ rowB c)
    rw [allB_cons', h1]
    unfold allB at h2 ⊢
    rw [allB_cons', h2]
    exact ba_ext (by simp)
theorem allB_cons (c : Change) (l : List Change) : allB (c :: l) = rowB c ++ allB l := by
  have := allB_fold l (⟨#[]⟩ ++ rowB c)
  unfold allB at this ⊢
  rw [allB_cons', this]
  exact ba_ext (by simp)
theorem rowB_bl {c : Change} (h : chF c = 0) : bl (rowB c) = UInt8.ofNat c.Key.size :: UInt8.ofNat c.Val.size :: 0 :: (bl c.Key ++ bl c.Val) := by
  obtain ⟨_, _, h3, h4⟩ := chF_zero h
  unfold rowB; rw [bl_app, bl_app, show c.Val.size / 256 = 0 by omega]; rfl
theorem par_row {c : Change} (h : chF c = 0) (hg : c.Gone = false) (t : ByteArray) : parN (rowB c ++ t) = (rowB c).size ∧ parC (rowB c ++ t) = c ∧ (rowB c ++ t).extract (rowB c).size (rowB c ++ t).size = t := by
  obtain ⟨_, _, h3, h4⟩ := chF_zero h
  have eb : bl (rowB c ++ t) = UInt8.ofNat c.Key.size :: UInt8.ofNat c.Val.size :: 0 :: (bl c.Key ++ bl c.Val ++ bl t) := by rw [bl_app, rowB_bl h]; simp
  have b0 : byteAt (rowB c ++ t) 0 = c.Key.size := by rw [byteAt_bl, eb]; exact u8_small (by omega)
  have b1 : byteAt (rowB c ++ t) 1 = c.Val.size := by rw [byteAt_bl, eb]; exact u8_small (by omega)
  have b2 : byteAt (rowB c ++ t) 2 = 0 := by rw [byteAt_bl, eb]; rfl
  have hn : parN (rowB c ++ t) = (rowB c).size := by unfold parN; rw [b0, b1, b2, rowB_size]; rfl
  have kl := bl_len c.Key; have vl := bl_len c.Val
  refine ⟨hn, ?_, ?_⟩
  · unfold parC
    rw [hn, b0, rowB_size]
    have e1 : (rowB c ++ t).extract 3 (3 + c.Key.size) = c.Key := ba_ext ((bl_ext _ _ _).trans (by
      rw [eb]
      simp only [List.take_succ_cons, Nat.add_comm 3 c.Key.size, List.drop_succ_cons, List.drop_zero]
      rw [List.append_assoc, ← kl, List.take_left]))
    have e2 : (rowB c ++ t).extract (3 + c.Key.size) (3 + c.Key.size + c.Val.size) = c.Val := ba_ext ((bl_ext _ _ _).trans (by
      rw [eb, show 3 + c.Key.size + c.Val.size = (c.Key.size + c.Val.size) + 3 by omega, show 3 + c.Key.size = c.Key.size + 3 by omega]
      simp only [List.take_succ_cons, List.drop_succ_cons, List.drop_zero]
      rw [List.take_append_of_le_length (by rw [List.length_append]; omega), List.take_of_length_le (by rw [List.length_append]; omega), ← kl, List.drop_left]))
    rw [e1, e2]
    obtain ⟨a, b, g⟩ := c
    simp only at hg; rw [hg]
  · refine ba_ext ((bl_ext _ _ _).trans ?_)
    rw [← bl_len (rowB c ++ t), List.take_length, bl_app, ← bl_len (rowB c), List.drop_left]
theorem apply_last {l : List Change} {c : Change} (h : RiseC (l ++ [c])) (hg : c.Gone = false) : applyR l [c] = l ++ [c] := by
  have h1 := (List.pairwise_append.1 h).2.2
  have e := ap1_miss (A := l) (B := []) (c := c) (fun y hy => h1 y hy c (List.mem_singleton.2 rfl)) (fun y hy => by cases hy)
  show ap1 l c = _
  rw [List.append_nil] at e
  rw [e]; unfold mid; rw [if_neg (by rw [hg]; decide)]; simp
theorem parS_all : ∀ (l : List Change) (k : Nat) (acc : List Change), RiseC (acc ++ l) → (∀ c ∈ l, chF c = 0 ∧ c.Gone = false) → (allB l).size < k → parS k (allB l) acc = (acc ++ l, true)
  | [], k, acc, _, _, hk => by
    cases k with
    | zero => omega
    | succ k => rw [parS, if_pos (show allB [] = ⟨#[]⟩ from rfl), List.append_nil]
  | c :: l, k, acc, hr, hc, hk => by
    obtain ⟨h1, h2⟩ := hc c (List.mem_cons_self ..)
    have hz := rowB_size c
    rw [allB_cons] at hk ⊢
    obtain ⟨p1, p2, p3⟩ := par_row h1 h2 (allB l)
    have hsz : (rowB c ++ allB l).size = (rowB c).size + (allB l).size := ByteArray.size_append
    cases k with
    | zero => omega
    | succ k =>
      have hne : ¬ rowB c ++ allB l = ⟨#[]⟩ := fun h => by
        have := congrArg ByteArray.size h
        rw [hsz, hz] at this
        have h0 : (⟨#[]⟩ : ByteArray).size = 0 := rfl
        omega
      rw [parS, if_neg hne, if_neg (by rw [p1]; omega), p2, if_pos h1, p1, p3]
      rw [show acc ++ c :: l = (acc ++ [c]) ++ l by simp] at hr ⊢
      rw [apply_last (List.pairwise_append.1 hr).1 h2]
      exact parS_all l k (acc ++ [c]) hr (fun x hx => hc x (List.mem_cons_of_mem _ hx)) (by omega)
theorem parse_all {l : List Change} (h : GoodR l) : parseB (allB l) = (l, true) := by
  have := parS_all l ((allB l).size + 1) [] h.rise (fun c hc => ⟨h.ok c hc, h.live c hc⟩) (by omega)
  simpa [parseB] using this
theorem GoodR.size {l : List Change} (h : GoodR l) : (allB l).size ≤ 2100 := by
  have := allB_le h.ok; have := h.len; omega
/-- the rows behind a deed -/
theorem apply_ok : ∀ (c : List Change) {rows : List Change}, RiseC rows → (∀ x ∈ rows, chF x = 0 ∧ x.Gone = false) → (∀ x ∈ c, chF x = 0) → ∀ x ∈ applyR rows c, chF x = 0 ∧ x.Gone = false
  | [], rows, _, h, _ => h
  | x :: c, rows, hr, h, hc => by
    show ∀ y ∈ applyR (ap1 rows x) c, _
    refine apply_ok c (ap1_rise hr x) (fun y hy => ?_) (fun y hy => hc y (List.mem_cons_of_mem _ hy))
    rcases (mem_ap1 hr).1 hy with ⟨h1, _⟩ | ⟨h1, rfl⟩
    · exact h y h1
    · exact ⟨hc y (List.mem_cons_self ..), h1⟩
theorem GoodR.apply {rows c : List Change} (h : GoodR rows) (hc : chFs c = 0) (hl : (applyR rows c).length ≤ 60) : GoodR (applyR rows c) := by
  have ha := apply_ok c h.rise (fun x hx => ⟨h.ok x hx, h.live x hx⟩) (chFs_zero hc)
  exact ⟨apply_rise c h.rise, fun x hx => (ha x hx).1, fun x hx => (ha x hx).2, hl⟩
theorem GoodR.nil : GoodR [] := ⟨List.Pairwise.nil, fun c hc => by (cases hc), fun c hc => by (cases hc), by simp⟩
/-! ### a half -/
/-- text t lies in the sectors from p on -/
def HalfIs (l : List ByteArray) (p : Nat) (t : ByteArray) : Prop := ∀ k : Nat, k * 48 < t.size → l[p + k]? = some (full (t.extract (k * 48) (k * 48 + min 48 (t.size - k * 48))))
theorem catS_bl {d : Dsk} {p : Nat} {t : ByteArray} (hd : d.Down = false) (hn : ∀ s ∈ d.Now, s.size = 48) (hl : p + 50 ≤ d.Now.length) (h : HalfIs d.Now p t) : ∀ k : Nat, k ≤ 50 → (bl (catS d (p : Int) k)).length = 48 * k ∧ (bl (catS d (p : Int) k)).take t.size = (bl t).take (48 * k)
  | 0, _ => by
    unfold catS
    refine ⟨rfl, ?_⟩
    rw [show bl ⟨#[]⟩ = [] from rfl]; simp
  | k + 1, hk => by
    obtain ⟨h1, h2⟩ := catS_bl hd hn hl h k (by omega)
    obtain ⟨x, hx⟩ : ∃ x, d.Now[p + k]? = some x := ⟨_, List.getElem?_eq_getElem (by omega)⟩
    have hr : dRead d ((p : Int) + (k : Int)) = (x, 0) := dRead_ok hd (by omega) (by rw [show ((p : Int) + (k : Int)).toNat = p + k by omega]; exact hx)
    have hxs := hn x (List.mem_of_getElem? hx)
    have hxl : (bl x).length = 48 := by rw [bl_len]; exact hxs
    have htl := bl_len t
    unfold catS
    rw [hr, bl_app]
    refine ⟨by rw [List.length_append, h1, hxl]; omega, ?_⟩
    by_cases hkt : k * 48 < t.size
    · have hxe := h k hkt
      rw [hx] at hxe
      injection hxe with hxe
      have hbx : bl x = ((bl t).take (k * 48 + min 48 (t.size - k * 48))).drop (k * 48) ++ List.replicate (48 - (t.extract (k * 48) (k * 48 + min 48 (t.size - k * 48))).size) 0 := by
        rw [hxe, full_bl, bl_ext]
      have hA : bl (catS d (p : Int) k) = (bl t).take (48 * k) := by
        have : (bl (catS d (p : Int) k)).take t.size = bl (catS d (p : Int) k) := List.take_of_length_le (by rw [h1]; omega)
        rw [← this]; exact h2
      rw [hA, hbx]
      by_cases hm : 48 ≤ t.size - k * 48
      · rw [show min 48 (t.size - k * 48) = 48 by omega]
        have hes : (t.extract (k * 48) (k * 48 + 48)).size = 48 := by rw [ByteArray.size_extract]; omega
        rw [hes, Nat.sub_self, List.replicate_zero, List.append_nil]
        have e1 : (bl t).take (48 * k) ++ ((bl t).take (k * 48 + 48)).drop (k * 48) = (bl t).take (48 * (k + 1)) := by
          rw [show 48 * (k + 1) = 48 * k + 48 by omega, show k * 48 = 48 * k by omega, ← List.take_drop, ← List.take_add]
        rw [e1, List.take_of_length_le (by rw [List.length_take]; omega)]
      · rw [show k * 48 + min 48 (t.size - k * 48) = t.size by omega, show (bl t).take t.size = bl t from List.take_of_length_le (by omega)]
        have e1 : (bl t).take (48 * k) ++ ((bl t).drop (k * 48) ++ List.replicate (48 - (t.extract (k * 48) t.size).size) 0) = bl t ++ List.replicate (48 - (t.extract (k * 48) t.size).size) 0 := by
          rw [← List.append_assoc, show k * 48 = 48 * k by omega, List.take_append_drop]
        rw [e1, List.take_append_of_le_length (by omega), List.take_of_length_le (by omega), List.take_of_length_le (by omega)]
    · rw [List.take_append_of_le_length (by rw [h1]; omega), h2, List.take_of_length_le (by omega), List.take_of_length_le (by omega)]
theorem half_read {d : Dsk} {p : Nat} {t : ByteArray} (hd : d.Down = false) (hn : ∀ s ∈ d.Now, s.size = 48) (hl : p + 50 ≤ d.Now.length) (ht : t.size ≤ 2400) (h : HalfIs d.Now p t) : (catS d (p : Int) 50).extract 0 t.size = t := by
  obtain ⟨h1, h2⟩ := catS_bl hd hn hl h 50 (Nat.le_refl _)
  refine ba_ext ((bl_ext _ _ _).trans ?_)
  rw [List.drop_zero, h2, List.take_of_length_le (by rw [bl_len]; omega)]
end Go.Proofs.Ytpipachmngdegaa
end
