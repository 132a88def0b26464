import Derived.Test.YtpipachmngdegaaStoreSaysProofG13
import Derived.Test.YtpipachmngdegaaStoreSaysProofG16
section
/-
  Few, and not too much: as plain tests. No program.
-/
namespace Go.Proofs.Ytpipachmngdegaa
set_option linter.unusedVariables false

def lightC1 (c : Change) : Bool := decide (c.Key.size ≤ 20) && decide (c.Val.size ≤ 40)
def lightC (l : List Change) (most : Int) : Bool := decide ((l.length : Int) ≤ most) && l.all lightC1
def lightA1 (a : Deed) : Bool := decide (a.S.size ≤ 100) && lightC a.Changes 70
def lightA (l : List Deed) (most : Int) : Bool := decide ((l.length : Int) ≤ most) && l.all lightA1
theorem all_hit {α : Type} {p : α → Bool} {l : List α} {k : Nat} {x : α} (hx : l[k]? = some x) (h : p x = false) : l.all p = false := by
  rw [Bool.eq_false_iff]; intro h'
  have := List.all_eq_true.1 h' x (List.mem_of_getElem? hx)
  rw [h] at this; simp at this
theorem all_up {α : Type} {p : α → Bool} {l : List α} {k : Nat} (hk : ¬ k < l.length) (h : (l.take k).all p = true) : l.all p = true := by
  rwa [List.take_of_length_le (by omega)] at h
theorem all_snoc {α : Type} {p : α → Bool} {l : List α} {k : Nat} {x : α} (hx : l[k]? = some x) (h : (l.take k).all p = true) (hp : p x = true) : (l.take (k + 1)).all p = true := by
  rw [List.take_add_one, hx]; simp [List.all_append, h, hp]
theorem lightA_len {l : List Deed} {most : Int} (h : lightA l most = true) : (l.length : Int) ≤ most := by
  unfold lightA at h; simp only [Bool.and_eq_true, decide_eq_true_eq] at h; exact h.1
theorem lightC_len {l : List Change} {m : Int} (h : lightC l m = true) : (l.length : Int) ≤ m := by
  unfold lightC at h; simp only [Bool.and_eq_true, decide_eq_true_eq] at h; exact h.1
theorem lightC_all {l : List Change} {m : Int} (h : lightC l m = true) : ∀ x ∈ l, x.Key.size ≤ 20 ∧ x.Val.size ≤ 40 := fun x hx => by
  unfold lightC at h; simp only [Bool.and_eq_true, decide_eq_true_eq] at h
  have := List.all_eq_true.1 h.2 x hx
  unfold lightC1 at this; simp only [Bool.and_eq_true, decide_eq_true_eq] at this; exact this
theorem lightA_all {l : List Deed} {m : Int} (h : lightA l m = true) : ∀ a ∈ l, a.S.size ≤ 100 ∧ lightC a.Changes 70 = true := fun a ha => by
  unfold lightA at h; simp only [Bool.and_eq_true, decide_eq_true_eq] at h
  have := List.all_eq_true.1 h.2 a ha
  unfold lightA1 at this; simp only [Bool.and_eq_true, decide_eq_true_eq] at this; exact this
end Go.Proofs.Ytpipachmngdegaa
end

section
/-
  Slices of lists of changes (each lies in a slice of its own), slices of functions, functions that an argument is bound to.
-/
namespace Go.Proofs.Ytpipachmngdegaa
open Go Go.RowKit
set_option linter.unusedVariables false
set_option linter.unusedSimpArgs false

/-- a slice's value, of whatever value -/
def slOf (v : Value) : Value := match v with | .slice a n c => .slice a n c | _ => .slice none 0 0
theorem slOf_one (v : Value) : (slOf v).oneCell' = true := by unfold slOf; split <;> rfl
theorem Sl.slOf {α : Type} [Enc α] {w : World} {v : Value} {l : List α} (h : Sl w v l) : Ytpipachmngdegaa.slOf v = v := by
  obtain ⟨A, c, rfl, _⟩ := h; rfl
structure Bat where
  v0 : Value
  L : List Change
abbrev Bat.cv (x : Bat) : Value := slOf x.v0
instance : Enc Bat := ⟨1, fun x => [x.cv], fun _ => rfl, fun x u hu => by rw [List.mem_singleton.1 hu]; exact slOf_one _, by decide⟩
abbrev Bat.val (x : Bat) : Value := x.cv
/-- the changes of all lists read as what they are -/
def Res.bats (l : List Bat) : Res := ⟨l.flatMap (fun x => (Res.ls x.cv x.L).blk), fun w => ∀ x ∈ l, Sl w x.cv x.L, fun w w' h hs x hx => (Res.ls x.cv x.L).loc w w' (fun k hk => h k (List.mem_flatMap.2 ⟨x, hx, hk⟩)) (hs x hx)⟩
/-- .. and are just these -/
def Res.batsE (l : List Bat) (E : List (List Change)) : Res := ⟨(Res.bats l).blk, fun w => (Res.bats l).ok w ∧ l.map Bat.L = E, fun w w' h hs => ⟨(Res.bats l).loc w w' h hs.1, hs.2⟩⟩
theorem bat_blk {l : List Bat} {x : Bat} (hx : x ∈ l) : ∀ k ∈ (Res.ls x.cv x.L).blk, k ∈ (Res.bats l).blk := fun k hk => List.mem_flatMap.2 ⟨x, hx, hk⟩
theorem bats_lt {w : World} {l : List Bat} (h : ∀ x ∈ l, Sl w x.cv x.L) : ∀ k ∈ (Res.bats l).blk, k < w.heap.size := fun k hk => by
  obtain ⟨x, hx, hk⟩ := List.mem_flatMap.1 hk
  exact ls_lt (h x hx) k hk
section
variable {P : Program} {n : Nat} {we w : World} {X : List Nat} {B F : List Res} {l : List Bat} {x : Bat} {v : Value} {L : List Change} {Q : Exit → Act → World → Prop} {k : List It} {ops : List Oper} {rest : List (List Oper)}
theorem Wd.bats (i : Nat) (h : F[i]? = some (Res.bats l)) (hw : Wd we X B F w) : ∀ x ∈ l, Sl w x.cv x.L := hw.f i h
theorem Wd.batX (i : Nat) (h : F[i]? = some (Res.bats l)) (hx : x ∈ l) (hw : Wd we X B F w) : Sl w x.cv x.L := hw.f i h x hx
theorem Wd.bats0 (hw : Wd we X B F w) : Wd we X B (Res.bats [] :: F) w := hw.fact (r := Res.bats []) (fun x hx => by cases hx) (fun k hk => by cases hk)
theorem Wd.batsAdd (i j : Nat) (hi : F[i]? = some (Res.bats l)) (hj : F[j]? = some (Res.ls v L)) (hw : Wd we X B F w) : Wd we X B (Res.bats (l ++ [⟨v, L⟩]) :: F) w := by
  have h1 : ∀ x ∈ l, Sl w x.cv x.L := hw.f i hi
  have h2 : Sl w v L := hw.fls j hj
  refine hw.fact (r := Res.bats (l ++ [⟨v, L⟩])) (fun x hx => ?_) (fun k hk => ?_)
  · rcases List.mem_append.1 hx with hx | hx
    · exact h1 x hx
    · rw [List.mem_singleton.1 hx]; show Sl w (slOf v) L; rw [h2.slOf]; exact h2
  · obtain ⟨x, hx, hk⟩ := List.mem_flatMap.1 hk
    rcases List.mem_append.1 hx with hx | hx
    · exact hw.dis k (mem_blks.2 ⟨_, List.mem_of_getElem? hi, List.mem_flatMap.2 ⟨x, hx, hk⟩⟩)
    · rw [List.mem_singleton.1 hx] at hk
      have hk' : k ∈ (Res.ls v L).blk := by
        have : (Bat.mk v L).cv = v := h2.slOf
        rw [this] at hk; exact hk
      exact hw.dis k (mem_blks.2 ⟨_, List.mem_of_getElem? hj, hk'⟩)
theorem Wd.batsIs (i : Nat) (hi : F[i]? = some (Res.bats l)) (hw : Wd we X B F w) : Wd we X B (Res.batsE l (l.map Bat.L) :: F) w :=
  hw.fact (r := Res.batsE l (l.map Bat.L)) ⟨hw.f i hi, rfl⟩ (fun k hk => hw.dis k (mem_blks.2 ⟨_, List.mem_of_getElem? hi, hk⟩))
theorem Wd.act_ls {a : List Deed} {x : Deed} (i : Nat) (hi : F[i]? = some (Res.acts a)) (hx : x ∈ a) (hw : Wd we X B F w) : Wd we X B (Res.ls x.cv x.Changes :: F) w :=
  hw.factL i _ _ hi (act_blk hx) (hw.actX i hi hx)
theorem Wd.bat_ls (i : Nat) (hi : F[i]? = some (Res.bats l)) (hx : x ∈ l) (hw : Wd we X B F w) : Wd we X B (Res.ls x.cv x.L :: F) w :=
  hw.factL i _ _ hi (bat_blk hx) (hw.batX i hi hx)
theorem Wd.batsOf {E : List (List Change)} (i : Nat) (F' : List Res) (hi : F[i]? = some (Res.batsE l E)) (hF : Res.bats l :: F.eraseIdx i = F') (hw : Wd we X B F w) : Wd we X B F' w ∧ l.map Bat.L = E := by
  subst hF
  have h := hw.f i hi
  refine ⟨?_, h.2⟩
  have h1 := hw.fact (r := Res.bats l) h.1 (fun k hk => hw.dis k (mem_blks.2 ⟨_, List.mem_of_getElem? hi, hk⟩))
  refine ⟨h1.upd, h1.okB, fun r hr => ?_, h1.sep, h1.own, fun k hk => ?_⟩
  · rcases List.mem_cons.1 hr with rfl | hr
    · exact h.1
    · exact hw.okF r ((List.eraseIdx_sublist F i).subset hr)
  · obtain ⟨r, hr, hk⟩ := mem_blks.1 hk
    rcases List.mem_cons.1 hr with rfl | hr
    · exact hw.dis k (mem_blks.2 ⟨_, List.mem_of_getElem? hi, hk⟩)
    · exact hw.dis k (mem_blks.2 ⟨r, (List.eraseIdx_sublist F i).subset hr, hk⟩)
theorem R.getE {L' : Fm} {E : List (List Change)} (i : Nat) (F' : List Res) (hi : F[i]? = some (Res.batsE l E)) (hF : Res.bats l :: F.eraseIdx i = F') (h : l.map Bat.L = E → Run P n we X Q k L' B F') : Run P n we X Q k L' B F :=
  fun a w ha hw => h (hw.batsOf i F' hi hF).2 a w ha (hw.batsOf i F' hi hF).1
theorem Rg.getE {L' : Fm} {E : List (List Change)} {rs : List Oper} (i : Nat) (F' : List Res) (hi : F[i]? = some (Res.batsE l E)) (hF : Res.bats l :: F.eraseIdx i = F') (h : l.map Bat.L = E → Rg P n we X Q ops rs k L' B F') : Rg P n we X Q ops rs k L' B F :=
  fun a w ha hw => h (hw.batsOf i F' hi hF).2 a w ha (hw.batsOf i F' hi hF).1
end
/-! ### a slice that is built of parts whose cells are known in the world -/
section
variable {P : Program} {n : Nat} {we : World} {X : List Nat} {L : Fm} {B F : List Res} {d : Nat} {ty : TypeId} {pos : String} {aft : Array Edge} {g : Option (Nat × Bool)}
theorem s.bsV {α : Type} [Enc α] {m : Nat} {parts : Array (Nat × Operand)} {t e : TypeId} {l : List α} {vs : List Value} {z : Value} (ht : tSl P t = some (e, Enc.k α)) (hz : tZero P e = some z) (hzs : z.cells.size = Enc.k α) (hm : l.length = m) (hsmall : Nat.blt (m * Enc.k α) 16777216 = true)
    (hp : evs L (parts.toList.map (·.2)) = some vs) (hi : parts.toList.map (·.1) = List.range' 0 m) (hv : ∀ w, Wd we X B F w → vs.map (fun v => v.cells.toList) = l.map Enc.cells) (hd : Nat.blt d n = true) :
    Stp P n we X L B F ⟨some d, .buildSlice t m parts, ty, pos, aft, g⟩ (fun b : Nat => (d, .slice (some ⟨b, 0, none⟩) m m) :: L) (fun b => Res.row e (.slice (some ⟨b, 0, none⟩) m m) l :: B) (fun _ => F) :=
  fun K Q' a w ha hw hK => s.bs ht hz hzs hm hsmall hp hi (hv w hw) hd K Q' a w ha hw hK
theorem bat_cells {w : World} {v : Value} {L : List Change} (h : Sl w v L) : [v].map (fun v => v.cells.toList) = [(⟨v, L⟩ : Bat)].map Enc.cells := by
  show [v.cells.toList] = [[slOf v]]
  rw [h.slOf, h.cellsL]
theorem q.mkfb {fn : FuncId} {fs cs : Array Operand} {bnd cap : List Value} (hb : evs L fs.toList = some bnd) (hc : evs L cs.toList = some cap) : Qt P n we X L B F (.makeFunc (.func fn) fs cs) ty (.func (.func fn) bnd.toArray cap.toArray) := fun _ _ _ _ a w ha hw => by
  have hm : cs.map a.eval = cap.toArray := by rw [← ha.evs hc, ← Array.toList_map]
  have hn : fs.map a.eval = bnd.toArray := by rw [← ha.evs hb, ← Array.toList_map]
  simp [execOp, Instr.makeFunc, hm, hn]
theorem q.min {kd : IntKind} {x y : Operand} {a b r : Int} {ts : Array TypeId} (hx : ev L x = some (.int kd a)) (hy : ev L y = some (.int kd b)) (hr : min a b = r) : Qt P n we X L B F (.call { callee := .builtin .min, args := #[x, y], argTypes := ts }) ty (.int kd r) := fun _ _ _ _ q w ha hw => by
  have e : (if b < a then b else a) = r := by rw [← hr]; split <;> omega
  simp [execOp, resolve, invoke, builtin, ha.ev hx, ha.ev hy, Builtin.min_, Builtin.min2, e]
theorem rIk {k : IntKind} {a b : Int} (h : a = b) : Value.int k a = .int k b := by rw [h]
/-! ### functions as elements -/
structure FnV where
  f : Fn
  b : Array Value
  c : Array Value
abbrev FnV.cv (x : FnV) : Value := .func x.f x.b x.c
instance : Enc FnV := ⟨1, fun x => [x.cv], fun _ => rfl, fun x u hu => by rw [List.mem_singleton.1 hu]; rfl, by decide⟩
theorem q.ldFn {u : Value} {x : FnV} {xT : TypeId} {a : Operand} (hu : x.cv = u) (h : Qt P n we X L B F (.load xT a) ty x.cv) : Qt P n we X L B F (.load xT a) ty u := hu ▸ h
theorem run_callB {f : FuncId} {c : Operand} {xs : Array Operand} {ts : Array TypeId} {vs : List Value} {bnd cap : Array Value} {a : Act} {w : World} {dst : Option Nat} (ha : Fr n L a) (hargs : evs L xs.toList = some vs) (hc : ev L c = some (.func (.func f) bnd cap))
    (eg : ∀ args w, (callFunc f args).run P w = .ok (.enter f args) w) : (execOp a.eval ⟨dst, .call { callee := .value c, args := xs, argTypes := ts }, ty, pos, aft, g⟩).run P w = .ok (.enter f (bnd.toList ++ vs ++ cap.toList).toArray) w := by
  have hm : xs.map a.eval = vs.toArray := by
    rw [← ha.evs hargs, ← Array.toList_map]
  simp [execOp, resolve, ha.ev hc, Deferred.ofValue, invoke, hm, eg]
theorem s.callVb {β : Type} {f : FuncId} {c : Operand} {xs : Array Operand} {ts : Array TypeId} {vs : List Value} {bnd cap : Array Value} {B0 Br F0 : List Res} (is js : List Nat) (G : β → Value) (B1 F1 : β → List Res) (hp : pickR B is = some (B0 ++ Br)) (ha' : apartB is = true) (hj : pickR F js = some F0)
    (eg : ∀ args w, (callFunc f args).run P w = .ok (.enter f args) w) (hargs : evs L xs.toList = some vs) (hc : ev L c = some (.func (.func f) bnd cap))
    (hcall : ∀ w own, Wd we X B F w → Wd w (blks B0 ++ own) (B0 ++ [Res.held w own]) F0 w → Calls P f (bnd.toList ++ vs ++ cap.toList).toArray w fun e w' => ∃ z, e = .returned (G z) ∧ Wd w (blks B0 ++ own) (B1 z ++ [Res.held w own]) (F1 z) w') (hd : Nat.blt d n = true) :
    Stp P n we X L B F ⟨some d, .call { callee := .value c, args := xs, argTypes := ts }, ty, pos, aft, g⟩ (fun z => (d, G z) :: L) (fun z => B1 z ++ Br) (fun z => F1 z ++ F) := by
  intro K Q' a w ha hw hK
  have hw2 := hw.pikB is hp ha'
  unfold Oper.wp
  rw [run_callB ha hargs hc eg, Oper.upon_enter]
  refine (hcall w (blks Br) hw (hw2.lendAll hj)).mono fun e w' he => ?_
  obtain ⟨z, rfl, ht⟩ := he
  exact hK z _ _ (ha.put d _ hd) (hw2.after ht)
end
end Go.Proofs.Ytpipachmngdegaa
end
