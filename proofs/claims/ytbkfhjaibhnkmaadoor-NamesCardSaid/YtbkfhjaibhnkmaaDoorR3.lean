/-
  The calculus of walks, on: regions that draw their order. Plain lemmas over any program.
-/
import Derived.Test.YtbkfhjaibhnkmaaDoorR2
import Derived.Deep.Quiet
import Derived.OrdersHeld
import Derived.Deep.RegionHeld3
namespace Go.Proofs.YtbkfhjaibhnkmaaDoor
open Go Go.RowKit
set_option linter.unusedVariables false

theorem Upd.draw (w : World) : Upd [] w { w with drawn := w.drawn + 1 } := ⟨rfl, rfl, rfl, Nat.le_refl _, fun _ _ _ => rfl⟩
/-! ### some of what is known -/
def pickR (B : List Res) : List Nat → Option (List Res)
  | [] => some []
  | i :: is => match B[i]?, pickR B is with
    | some r, some rs => some (r :: rs)
    | _, _ => none
def rising : Nat → List Nat → Bool
  | _, [] => true
  | m, i :: is => Nat.ble m i && rising (i + 1) is
theorem pickR_mem : ∀ {B : List Res} {is : List Nat} {rs : List Res}, pickR B is = some rs → ∀ r ∈ rs, r ∈ B
  | B, [], rs, h, r, hr => by simp [pickR] at h; subst h; cases hr
  | B, i :: is, rs, h, r, hr => by
    simp only [pickR] at h
    split at h
    · rename_i q qs h1 h2
      injection h with h; subst h
      rcases List.mem_cons.1 hr with rfl | hr
      · exact List.mem_of_getElem? h1
      · exact pickR_mem h2 r hr
    · cases h
theorem pickR_sub : ∀ {B : List Res} {is : List Nat} {rs : List Res} {m : Nat}, pickR B is = some rs → rising m is = true → rs.Sublist (B.drop m)
  | B, [], rs, m, h, hr => by simp [pickR] at h; subst h; exact List.nil_sublist _
  | B, i :: is, rs, m, h, hr => by
    simp only [pickR] at h
    split at h
    · rename_i q qs h1 h2
      injection h with h; subst h
      simp only [rising, Bool.and_eq_true] at hr
      have hm : m ≤ i := Nat.le_of_ble_eq_true hr.1
      have ih := pickR_sub h2 hr.2
      have hi : i < B.length := (List.getElem?_eq_some_iff.1 h1).1
      have e : B.drop i = q :: B.drop (i + 1) := by
        rw [List.drop_eq_getElem_cons hi]; congr 1
        exact (List.getElem?_eq_some_iff.1 h1).2
      have h3 : (q :: qs).Sublist (B.drop i) := e ▸ ih.cons_cons q
      exact h3.trans (by rw [show i = m + (i - m) by omega, ← List.drop_drop]; exact List.drop_sublist _ _)
    · cases h
theorem blks_sub : ∀ {A B : List Res}, A.Sublist B → (blks A).Sublist (blks B)
  | _, _, .slnil => List.Sublist.refl _
  | _, _, .cons r h => (blks_sub h).trans (List.sublist_append_right _ _)
  | _, _, .cons_cons r h => (List.Sublist.refl _).append (blks_sub h)
theorem Wd.pick {we w : World} {X : List Nat} {B F B' F' : List Res} (is js : List Nat) (hi : pickR B is = some B') (hj : pickR F js = some F') (hr : rising 0 is = true) (hw : Wd we X B F w) : Wd we X B' F' w := by
  have hs : B'.Sublist B := by simpa using pickR_sub hi hr
  have hb := blks_sub hs
  have hF := pickR_mem hj
  exact ⟨hw.upd, fun r h => hw.okB r (hs.subset h), fun r h => hw.okF r (hF r h), hw.sep.sublist hb, fun k hk => hw.own k (hb.subset hk), fun k hk => by
    obtain ⟨r, hr, hk⟩ := mem_blks.1 hk
    have := hw.dis k (mem_blks.2 ⟨r, hF r hr, hk⟩)
    exact ⟨this.1, fun h => this.2 (hb.subset h)⟩⟩
/-- a slice of the call's own of which no more is asked than to read it -/
theorem Wd.lend {we w : World} {X : List Nat} {B F : List Res} {α : Type} [Enc α] {e : TypeId} {v : Value} {l : List α} (hw : Wd we X (Res.row e v l :: B) F w) : Wd we X B (Res.sl v l :: F) w := by
  refine ⟨hw.upd, fun r h => hw.okB r (List.mem_cons_of_mem _ h), fun r h => ?_, (List.nodup_append.1 hw.sep).2.1, fun k hk => hw.own k (List.mem_append.2 (.inr hk)), fun k hk => ?_⟩
  · rcases List.mem_cons.1 h with rfl | h
    · exact Own.sl (hw.okB _ (List.mem_cons_self ..))
    · exact hw.okF r h
  · rcases List.mem_append.1 hk with hk | hk
    · exact ⟨(hw.own k (List.mem_append.2 (.inl hk))).1, fun h => (List.nodup_append.1 hw.sep).2.2 k hk k h rfl⟩
    · exact ⟨(hw.dis k hk).1, fun h => (hw.dis k hk).2 (List.mem_append.2 (.inr h))⟩

section
variable {P : Program} {n : Nat} {we : World} {X : List Nat} {Q : Exit → Act → World → Prop} {k k' : List It} {L : Fm} {B F : List Res} {ops rest : List Oper}
variable {dst : Option Nat} {d : Nat} {op : Op} {ty : TypeId} {pos : String} {aft : Array Edge} {g : Option (Nat × Bool)} {g' : Nat × Bool} {v : Value}
variable {x y : Operand} {xT yT e : TypeId} {kd : IntKind}

/-! ### a region of which every operation is quiet: in the order of the text -/
def Rq (P : Program) (n : Nat) (we : World) (X : List Nat) (Q : Exit → Act → World → Prop) (ops rest : List Oper) (k : List It) (L : Fm) (B F : List Res) : Prop :=
  ∀ a, Fr n L a → wpQuiet P ops.toArray (Wd we X B F) (fun a' => ∀ w', Wd we X B F w' → kOf P Q k .normal a' w') rest a
theorem R.regQ {id : Nat} (h : norm 200 k = .c (.region id ops.toArray true) :: k') (hm : P.follows .mixedOrders = true) (hB : Region.lexB .any ops.toArray = true) (hr : Rq P n we X Q ops ops k' L B F) : Run P n we X Q k L B F :=
  fun a w ha hw => kOf_norm 200 (h ▸ wp_region_quiet (C := Wd we X B F) hm hB (hw.grow (Upd.draw w)) (by simpa using hr a ha))
theorem Q.nil (h : Run P n we X Q k L B F) : Rq P n we X Q ops [] k L B F := fun a ha => wpQuiet_nil (h a · ha)
theorem Q.q (hq : Qt P n we X L B F op ty v) (hd : Nat.blt d n = true) (h : Rq P n we X Q ops rest k ((d, v) :: L) B F) : Rq P n we X Q ops (⟨some d, op, ty, pos, aft, none⟩ :: rest) k L B F := by
  intro a ha
  refine wpQuiet_step fun K hK => ?_
  rw [if_pos (by simp [Region.wanted])]
  exact ⟨v, fun w hw => by unfold Oper.quietAt; rw [hq _ _ _ _ a w ha hw]; exact ⟨rfl, rfl⟩, hK _ (h _ (ha.put d v hd))⟩
theorem Q.qg (hg : gd ops L (some g') = some true) (hq : Qt P n we X L B F op ty v) (hd : Nat.blt d n = true) (h : Rq P n we X Q ops rest k ((d, v) :: L) B F) : Rq P n we X Q ops (⟨some d, op, ty, pos, aft, some g'⟩ :: rest) k L B F := by
  intro a ha
  refine wpQuiet_step fun K hK => ?_
  rw [if_pos (gd_wanted (o := ⟨some d, op, ty, pos, aft, some g'⟩) ha hg)]
  exact ⟨v, fun w hw => by unfold Oper.quietAt; rw [hq _ _ _ _ a w ha hw]; exact ⟨rfl, rfl⟩, hK _ (h _ (ha.put d v hd))⟩
theorem Q.skip (hg : gd ops L (some g') = some false) (hd : Nat.blt d n = true) (h : Rq P n we X Q ops rest k ((d, undef) :: L) B F) : Rq P n we X Q ops (⟨some d, op, ty, pos, aft, some g'⟩ :: rest) k L B F := by
  intro a ha
  refine wpQuiet_step fun K hK => ?_
  rw [if_neg (by rw [gd_wanted (o := ⟨some d, op, ty, pos, aft, some g'⟩) ha hg]; simp)]
  exact hK _ (h _ (ha.put d undef hd))
theorem Qa.at {a : Act} {w : World} (h : Qa P n we X L B F op ty v) (ha : Fr n L a) (hw : Wd we X B F w) : Oper.quietAt P ⟨dst, op, ty, pos, aft, g⟩ a (Wd we X B F) w v := by
  unfold Oper.quietAt
  rcases h dst pos aft g a w ha hw with h1 | ⟨f, args, h1, h2⟩
  · rw [h1]; exact ⟨rfl, rfl⟩
  · rw [h1]; exact ⟨rfl, h2.mono fun e w' he => ⟨he.1, hw.grow he.2.upd⟩⟩
theorem Q.c (hq : Qa P n we X L B F op ty v) (hd : Nat.blt d n = true) (h : Rq P n we X Q ops rest k ((d, v) :: L) B F) : Rq P n we X Q ops (⟨some d, op, ty, pos, aft, none⟩ :: rest) k L B F := by
  intro a ha
  refine wpQuiet_step fun K hK => ?_
  rw [if_pos (by simp [Region.wanted])]
  exact ⟨v, fun w hw => hq.at ha hw, hK _ (h _ (ha.put d v hd))⟩
theorem Q.cg (hg : gd ops L (some g') = some true) (hq : Qa P n we X L B F op ty v) (hd : Nat.blt d n = true) (h : Rq P n we X Q ops rest k ((d, v) :: L) B F) : Rq P n we X Q ops (⟨some d, op, ty, pos, aft, some g'⟩ :: rest) k L B F := by
  intro a ha
  refine wpQuiet_step fun K hK => ?_
  rw [if_pos (gd_wanted (o := ⟨some d, op, ty, pos, aft, some g'⟩) ha hg)]
  exact ⟨v, fun w hw => hq.at ha hw, hK _ (h _ (ha.put d v hd))⟩

/-! ### a region with operations that are not: whichever may come up -/
def Dg (S : World → Prop) (P : Program) (n : Nat) (we : World) (X : List Nat) (Q : Exit → Act → World → Prop) (ops : List Oper) (fuel : Nat) (ls : Array Bool) (k : List It) (L : Fm) (B F : List Res) : Prop :=
  ∀ a w, Fr n L a → Wd we X B F w → wpAnyH P .any ops.toArray (NoPanic (kOf P Q k)) S fuel ls a w
/-- number i comes up -/
def Do (S : World → Prop) (P : Program) (n : Nat) (we : World) (X : List Nat) (Q : Exit → Act → World → Prop) (ops : List Oper) (i : Nat) (o : Oper) (fuel : Nat) (ls : Array Bool) (k : List It) (L : Fm) (B F : List Res) : Prop :=
  ops[i]? = some o → ∀ a w, Fr n L a → Wd we X B F w → wpOp P ops.toArray (NoPanic (kOf P Q k)) i (fun a' w' => S w' ∧ wpAnyH P .any ops.toArray (NoPanic (kOf P Q k)) S fuel (ls.setIfInBounds i true) a' w') a w
variable {S : World → Prop} {i j fuel : Nat} {ls ls' : Array Bool} {o : Oper}
theorem R.regD {id : Nat} (S : World → Prop) (h : norm 200 k = .c (.region id ops.toArray true) :: k') (hm : P.follows .mixedOrders = true) (hl : ops.length = fuel) (hr : Dg S P n we X Q ops fuel (Array.replicate fuel false) k' L B F) : Run P n we X Q k L B F := by
  intro a w ha hw
  refine kOf_norm 200 (h ▸ ?_)
  refine wp_region_noPanic (wp_region_held (S := S) hm ?_)
  have := hr a _ ha (hw.grow (Upd.draw w))
  simpa [hl] using this
theorem D.done (h0 : Region.ready .any ops.toArray ls = []) (h : Run P n we X Q k L B F) : Dg S P n we X Q ops fuel ls k L B F :=
  fun a w ha hw => wpAnyH_done h0 (NoPanic.normal (h a w ha hw)) _
/-- a quiet one is taken first -/
theorem D.q (hi : ops[i]? = some ⟨some d, op, ty, pos, aft, g⟩) (hfr : (Region.noSelect ops.toArray && Region.free .any ops.toArray ls i && (Region.ready .any ops.toArray ls).contains i) = true) (hS : ∀ w, Wd we X B F w → S w) (hg : gd ops L g = some true)
    (hq : ∀ dst pos aft g a w, Fr n L a → S w → (execOp a.eval ⟨dst, op, ty, pos, aft, g⟩).run P w = .ok (.value v) w) (hd : Nat.blt d n = true) (h : Dg S P n we X Q ops fuel (ls.setIfInBounds i true) k ((d, v) :: L) B F) : Dg S P n we X Q ops (fuel + 1) ls k L B F := by
  intro a w ha hw
  simp only [Bool.and_eq_true] at hfr
  exact wpAnyH_take (by simpa using hi) hfr.1.1 hfr.1.2 hfr.2 (fun _ _ _ h => h) (.inl ⟨gd_wanted (o := ⟨some d, op, ty, pos, aft, g⟩) ha hg, fun w hw => hq _ _ _ _ a w ha hw⟩) (hS w hw) (h _ w (ha.put d v hd) hw)
theorem D.skip (hi : ops[i]? = some ⟨some d, op, ty, pos, aft, g⟩) (hfr : (Region.noSelect ops.toArray && Region.free .any ops.toArray ls i && (Region.ready .any ops.toArray ls).contains i) = true) (hS : ∀ w, Wd we X B F w → S w) (hg : gd ops L g = some false)
    (hd : Nat.blt d n = true) (h : Dg S P n we X Q ops fuel (ls.setIfInBounds i true) k ((d, undef) :: L) B F) : Dg S P n we X Q ops (fuel + 1) ls k L B F := by
  intro a w ha hw
  simp only [Bool.and_eq_true] at hfr
  exact wpAnyH_take (by simpa using hi) hfr.1.1 hfr.1.2 hfr.2 (fun _ _ _ h => h) (.inr ⟨gd_wanted (o := ⟨some d, op, ty, pos, aft, g⟩) ha hg, rfl⟩) (hS w hw) (h _ w (ha.put d undef hd) hw)
theorem D.one (h0 : Region.ready .any ops.toArray ls = [i]) (hi : ops[i]? = some o) (h : Do S P n we X Q ops i o fuel ls k L B F) : Dg S P n we X Q ops (fuel + 1) ls k L B F :=
  fun a w ha hw => wpAnyH_all h0 (by simp) (by simpa using h hi a w ha hw)
theorem D.two {o' : Oper} (h0 : Region.ready .any ops.toArray ls = [i, j]) (hi : ops[i]? = some o) (hj : ops[j]? = some o') (h : Do S P n we X Q ops i o fuel ls k L B F) (h' : Do S P n we X Q ops j o' fuel ls k L B F) : Dg S P n we X Q ops (fuel + 1) ls k L B F :=
  fun a w ha hw => wpAnyH_all h0 (by simp) (by simpa using ⟨h hi a w ha hw, h' hj a w ha hw⟩)
theorem D.three {m : Nat} {o' o'' : Oper} (h0 : Region.ready .any ops.toArray ls = [i, j, m]) (hi : ops[i]? = some o) (hj : ops[j]? = some o') (hm : ops[m]? = some o'') (h : Do S P n we X Q ops i o fuel ls k L B F) (h' : Do S P n we X Q ops j o' fuel ls k L B F) (h'' : Do S P n we X Q ops m o'' fuel ls k L B F) : Dg S P n we X Q ops (fuel + 1) ls k L B F :=
  fun a w ha hw => wpAnyH_all h0 (by simp) (by simpa using ⟨h hi a w ha hw, h' hj a w ha hw, h'' hm a w ha hw⟩)
/-- what a step of a region in order does, a step of one that draws does -/
theorem Do.s {β : Type} {L' : β → Fm} {B' F' : β → List Res} (hs : Stp P n we X L B F o L' B' F') (hS : ∀ z w, Wd we X (B' z) (F' z) w → S w) (hg : gd ops L o.guard = some true)
    (h : ∀ z, Dg S P n we X Q ops fuel (ls.setIfInBounds i true) k (L' z) (B' z) (F' z)) : Do S P n we X Q ops i o fuel ls k L B F := by
  intro hi a w ha hw
  unfold wpOp
  have : ops.toArray[i]? = some o := by simpa using hi
  rw [this]
  simp only []
  rw [if_pos (gd_wanted (o := o) ha hg)]
  exact .inl (hs _ _ a w ha hw fun z a w ha hw => ⟨hS z w hw, h z a w ha hw⟩)
theorem Do.of {L' : Fm} {B' F' : List Res} (hS : ∀ w, Wd we X B' F' w → S w) (h : Dg S P n we X Q ops fuel (ls.setIfInBounds i true) k L' B' F')
    (hstep : ∀ (K : Act → World → Prop) (Q' : Exit → Act → World → Prop) a w, Fr n L a → Wd we X B F w → (∀ a w, Fr n L' a → Wd we X B' F' w → K a w) → o.wp P a w K Q') (hg : gd ops L o.guard = some true) : Do S P n we X Q ops i o fuel ls k L B F := by
  intro hi a w ha hw
  unfold wpOp
  have : ops.toArray[i]? = some o := by simpa using hi
  rw [this]
  simp only []
  rw [if_pos (gd_wanted (o := o) ha hg)]
  exact .inl (hstep _ _ a w ha hw fun a w ha hw => ⟨hS w hw, h a w ha hw⟩)
end
end Go.Proofs.YtbkfhjaibhnkmaaDoor
