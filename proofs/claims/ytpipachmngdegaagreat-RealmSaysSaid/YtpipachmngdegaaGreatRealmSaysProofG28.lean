import Derived.Test.YtpipachmngdegaaGreatRealmSaysProofG15
import Derived.Test.YtpipachmngdegaaGreatRealmSaysProofG27
section
/-
  Chapter 5 as plain functions: what is done with writs, as the program does it and as the document does it. No program.
-/
namespace Go.Proofs.YtpipachmngdegaaGreat
set_option linter.unusedVariables false

def r0 : Realm := ⟨[], [], [], [], 0, 0⟩
def n0 : Note := ⟨0, ⟨#[]⟩, 0, 0⟩
/-- what a walk asks of a realm: it isn't too great, rights are rights -/
structure Ok (r : Realm) : Prop where
  wl : r.Writs.length ≤ 2000
  tl : r.Things.length ≤ 2000
  hl : r.Held.length ≤ 2000
  nl : r.Notes.length ≤ 2000
  ri : ∀ w ∈ r.Writs, 0 ≤ w.Rights ∧ w.Rights ≤ 7
  w0 : 0 ≤ r.NextWrit
  w1 : r.NextWrit ≤ 2000
  t0 : 0 ≤ r.NextThing
  t1 : r.NextThing ≤ 2000
def wat (l : List Writ) (id : Int) : Option Writ := l.find? (fun w => w.ID == id)
theorem wat_of {l : List Writ} {id : Int} {j : Nat} {x : Writ} (hf : findW l id = (j : Int)) (hx : l[j]? = some x) : wat l id = some x := by
  rcases find_findW (l := l) (id := id) with ⟨h1, h2⟩ | ⟨k, hk, h1, h2⟩
  · omega
  · have : k = j := by omega
    subst this
    rw [List.getElem?_eq_getElem hk] at hx; injection hx with hx
    unfold wat; rw [h2, hx]
theorem wat_no {l : List Writ} {id : Int} (hf : findW l id = -1) : wat l id = none := by
  rcases find_findW (l := l) (id := id) with ⟨h1, h2⟩ | ⟨k, hk, h1, h2⟩
  · exact h2
  · omega
theorem wat_some {l : List Writ} {id : Int} {x : Writ} (h : wat l id = some x) : x ∈ l ∧ x.ID = id := by
  unfold wat at h
  exact ⟨List.mem_of_find?_eq_some h, by simpa using List.find?_some h⟩
def getR (r : Realm) (p : Place) : Writ × Int :=
  if placeFault p = 0 then (match wat r.Writs (atH r.Held p) with | some w => (w, 0) | none => (zeroW, 5)) else (zeroW, placeFault p)
theorem getR_bad {r : Realm} {p : Place} (h : ¬ placeFault p = 0) : getR r p = (zeroW, placeFault p) := by unfold getR; rw [if_neg h]
theorem getR_none {r : Realm} {p : Place} (h : placeFault p = 0) (hf : findW r.Writs (atH r.Held p) = -1) : getR r p = (zeroW, 5) := by unfold getR; rw [if_pos h, wat_no hf]
theorem getR_hit {r : Realm} {p : Place} {j : Nat} {x : Writ} (h : placeFault p = 0) (hf : findW r.Writs (atH r.Held p) = (j : Int)) (hx : r.Writs[j]? = some x) : getR r p = (x, 0) := by unfold getR; rw [if_pos h, wat_of hf hx]
theorem getR_zero {r : Realm} {p : Place} (h : (getR r p).2 = 0) : placeFault p = 0 ∧ (getR r p).1 ∈ r.Writs ∧ (getR r p).1.ID = atH r.Held p := by
  by_cases h1 : placeFault p = 0
  · cases h2 : wat r.Writs (atH r.Held p) with
    | none => unfold getR at h; rw [if_pos h1, h2] at h; simp at h
    | some w =>
      have e : getR r p = (w, 0) := by unfold getR; rw [if_pos h1, h2]
      have := wat_some h2
      rw [e]; exact ⟨h1, this.1, this.2⟩
  · rw [getR_bad h1] at h; exact absurd h h1
theorem getR_nonneg (r : Realm) (p : Place) : 0 ≤ (getR r p).2 := by
  unfold getR; split
  · split <;> simp
  · have := placeFault_01 p; dsimp only; omega
theorem Ok.get {r : Realm} (h : Ok r) {p : Place} (hg : (getR r p).2 = 0) : 0 ≤ (getR r p).1.Rights ∧ (getR r p).1.Rights ≤ 7 := h.ri _ (getR_zero hg).2.1
def freeR (r : Realm) (p : Place) : Int := if placeFault p = 0 then (if atH r.Held p = 0 then 0 else 6) else placeFault p
theorem freeR_nonneg (r : Realm) (p : Place) : 0 ≤ freeR r p := by
  unfold freeR; have := placeFault_01 p; split
  · split <;> simp
  · omega
def addR (r : Realm) (w : Writ) (p : Place) : Realm := ⟨r.Writs ++ [w], r.Things, if 0 < p.Holder then putH r.Held p w.ID else r.Held, r.Notes, r.NextWrit + 1, r.NextThing⟩
def makeR (r : Realm) (p : Place) (kind : Int) : Realm × Int :=
  if kind = 1 ∨ kind = 2 then
    if freeR r p = 0 then
      if r.Things.length = 10 ∨ 999 < r.NextThing ∨ 999 < r.NextWrit then (r0, 9)
      else (addR ⟨r.Writs, r.Things ++ [⟨r.NextThing, kind, ⟨#[]⟩⟩], r.Held, r.Notes, r.NextWrit, r.NextThing + 1⟩ ⟨r.NextWrit, r.NextThing, 7, 0, 0⟩ p, 0)
    else (r0, freeR r p)
  else (r0, 8)
def giveR (r : Realm) (p t : Place) (rights badge : Int) : Realm × Int :=
  if (getR r p).2 = 0 then
    if freeR r t = 0 then
      if p.Holder = t.Holder ∨ hasR (getR r p).1.Rights 4 = true then
        if 999 < r.NextWrit then (r0, 9)
        else if (derived (getR r p).1 r.NextWrit rights badge).2 = 0 then (addR r (derived (getR r p).1 r.NextWrit rights badge).1 t, 0)
        else (r0, (derived (getR r p).1 r.NextWrit rights badge).2)
      else (r0, 7)
    else (r0, freeR r t)
  else (r0, (getR r p).2)
def moveR (r : Realm) (p : Place) (slot : Int) : Realm × Int :=
  if (getR r p).2 = 0 then
    if freeR r ⟨p.Holder, slot⟩ = 0 then (⟨r.Writs, r.Things, putH (putH r.Held p 0) ⟨p.Holder, slot⟩ (getR r p).1.ID, r.Notes, r.NextWrit, r.NextThing⟩, 0)
    else (r0, freeR r ⟨p.Holder, slot⟩)
  else (r0, (getR r p).2)
/-! ### sweeping -/
def thingsL (l : List Writ) : List Int := Lib.compact (sortI (l.map Writ.Thing))
def fixN (ws : List Writ) (n : Note) : Note := if findW ws n.Writ < 0 then ⟨n.Port, n.Data, n.Badge, 0⟩ else n
def keepN (ws : List Writ) (ts : List Int) (ns : List Note) : List Note := (ns.map (fixN ws)).filter (fun n => decide (n.Port ∈ ts))
def lostN (ws : List Writ) (ts : List Int) (ns : List Note) : List Int := ((ns.map (fixN ws)).filter (fun n => !decide (n.Port ∈ ts) && decide (0 < n.Writ))).map Note.Writ
def sweepS (r : Realm) : Realm := ⟨r.Writs, r.Things.filter (fun t => !!decide (t.ID ∈ thingsL r.Writs)), r.Held.filter (fun h => !decide (findW r.Writs h.Writ < 0)), keepN r.Writs (thingsL r.Writs) r.Notes, r.NextWrit, r.NextThing⟩
def lostS (r : Realm) : List Int := lostN r.Writs (thingsL r.Writs) r.Notes
def sweepN (r : Realm) : Realm := ⟨(lostS r).foldl without r.Writs, (sweepS r).Things, (sweepS r).Held, (sweepS r).Notes, r.NextWrit, r.NextThing⟩
def sweepGo : Nat → Realm → Realm
  | 0, r => sweepS r
  | n + 1, r => if (lostS r).length = 0 then sweepS r else sweepGo n (sweepN r)
def sweepR (r : Realm) : Realm := sweepGo (r.Notes.length + 1) r
theorem keep_lost (ws : List Writ) (ts : List Int) (ns : List Note) : (keepN ws ts ns).length + (lostN ws ts ns).length ≤ ns.length := by
  have h : ∀ l : List Note, (l.filter (fun n => decide (n.Port ∈ ts))).length + (l.filter (fun n => !decide (n.Port ∈ ts) && decide (0 < n.Writ))).length ≤ l.length := by
    intro l
    induction l with
    | nil => simp
    | cons n l ih =>
      rw [List.filter_cons, List.filter_cons, List.length_cons]
      by_cases h : n.Port ∈ ts
      · rw [if_pos (by simpa using h), if_neg (by simp [h]), List.length_cons]; omega
      · rw [if_neg (by simpa using h)]
        split
        · rw [List.length_cons]; omega
        · omega
  have := h (ns.map (fixN ws))
  simpa [keepN, lostN] using this
theorem sweepN_notes {r : Realm} (h : ¬ (lostS r).length = 0) : (sweepN r).Notes.length < r.Notes.length := by
  have := keep_lost r.Writs (thingsL r.Writs) r.Notes
  show (keepN r.Writs (thingsL r.Writs) r.Notes).length < _
  unfold lostS at h; omega
theorem sweepGo_more : ∀ (n m : Nat) (r : Realm), r.Notes.length < n → r.Notes.length < m → sweepGo n r = sweepGo m r
  | 0, m, r, h, _ => by omega
  | n + 1, 0, r, _, h => by omega
  | n + 1, m + 1, r, h1, h2 => by
    simp only [sweepGo]
    split
    · rfl
    · have := sweepN_notes (r := r) (by assumption)
      exact sweepGo_more n m _ (by omega) (by omega)
theorem sweepR_done {r : Realm} (h : (lostS r).length = 0) : sweepR r = sweepS r := by
  unfold sweepR sweepGo; rw [if_pos h]
theorem sweepR_next {r : Realm} (h : ¬ (lostS r).length = 0) : sweepR r = sweepR (sweepN r) := by
  have := sweepN_notes h
  conv => lhs; unfold sweepR sweepGo
  rw [if_neg h]
  exact sweepGo_more _ _ _ (by omega) (by omega)
theorem without_len (l : List Writ) (id : Int) : (without l id).length ≤ l.length := woG_len _ _ _
theorem without_ri {l : List Writ} {id : Int} (h : ∀ w ∈ l, 0 ≤ w.Rights ∧ w.Rights ≤ 7) : ∀ w ∈ without l id, 0 ≤ w.Rights ∧ w.Rights ≤ 7 := fun w hw => by
  obtain ⟨y, hy, _, rfl⟩ := mem_without.1 hw
  have := woRe_id (id := id) (f := fromOf l id) y
  rw [this.2.2.1]; exact h y hy
theorem fold_len : ∀ (ids : List Int) (l : List Writ), (ids.foldl without l).length ≤ l.length
  | [], l => Nat.le_refl _
  | i :: ids, l => Nat.le_trans (fold_len ids _) (without_len l i)
theorem fold_ri : ∀ (ids : List Int) (l : List Writ), (∀ w ∈ l, 0 ≤ w.Rights ∧ w.Rights ≤ 7) → ∀ w ∈ ids.foldl without l, 0 ≤ w.Rights ∧ w.Rights ≤ 7
  | [], l, h => h
  | i :: ids, l, h => fold_ri ids _ (without_ri h)
theorem Ok.writs {r : Realm} (h : Ok r) {l : List Writ} (hl : l.length ≤ 2000) (hr : ∀ w ∈ l, 0 ≤ w.Rights ∧ w.Rights ≤ 7) : Ok ⟨l, r.Things, r.Held, r.Notes, r.NextWrit, r.NextThing⟩ :=
  ⟨hl, h.tl, h.hl, h.nl, hr, h.w0, h.w1, h.t0, h.t1⟩
theorem Ok.wo {r : Realm} (h : Ok r) (id : Int) : Ok ⟨without r.Writs id, r.Things, r.Held, r.Notes, r.NextWrit, r.NextThing⟩ :=
  h.writs (Nat.le_trans (without_len _ _) h.wl) (without_ri h.ri)
theorem Ok.sweepN {r : Realm} (h : Ok r) : Ok (YtpipachmngdegaaGreat.sweepN r) :=
  ⟨Nat.le_trans (fold_len _ _) h.wl, Nat.le_trans (List.length_filter_le _ _) h.tl, Nat.le_trans (List.length_filter_le _ _) h.hl, by
    have := keep_lost r.Writs (thingsL r.Writs) r.Notes
    have := h.nl
    show (keepN r.Writs (thingsL r.Writs) r.Notes).length ≤ 2000
    omega, fold_ri _ _ h.ri, h.w0, h.w1, h.t0, h.t1⟩
/-! ### the rest -/
def dropR (r : Realm) (p : Place) : Realm × Int :=
  if (getR r p).2 = 0 then (sweepR ⟨without r.Writs (getR r p).1.ID, r.Things, r.Held, r.Notes, r.NextWrit, r.NextThing⟩, 0) else (r0, (getR r p).2)
def cutW (l : List Writ) (id : Int) : List Writ := l.filter (fun x => !decide (x.ID ∈ benG id l))
theorem Ok.cut {r : Realm} (h : Ok r) (id : Int) : Ok ⟨cutW r.Writs id, r.Things, r.Held, r.Notes, r.NextWrit, r.NextThing⟩ :=
  h.writs (Nat.le_trans (List.length_filter_le _ _) h.wl) (fun w hw => h.ri w (List.mem_filter.1 hw).1)
def revokeR (r : Realm) (p : Place) : Realm × Int :=
  if (getR r p).2 = 0 then (sweepR ⟨cutW r.Writs (getR r p).1.ID, r.Things, r.Held, r.Notes, r.NextWrit, r.NextThing⟩, 0) else (r0, (getR r p).2)
def thIdx (l : List Thing) (id : Int) : Int := idxOf (fun t => t.ID == id) l
def mayR (r : Realm) (p : Place) (kind rights : Int) : Writ × Int × Int :=
  if (getR r p).2 = 0 then
    match r.Things.find? (fun t => t.ID == (getR r p).1.Thing) with
    | none => (zeroW, 0, 8)
    | some t => if t.Kind = kind then (if hasR (getR r p).1.Rights rights = true then ((getR r p).1, thIdx r.Things (getR r p).1.Thing, 0) else (zeroW, 0, 7)) else (zeroW, 0, 8)
  else (zeroW, 0, (getR r p).2)
theorem find_of_idx {α : Type} {q : α → Bool} {l : List α} {k : Nat} {x : α} (hx : l[k]? = some x) (he : q x = true) (hb : ∀ (j : Nat) y, j < k → l[j]? = some y → q y = false) : l.find? q = some x := by
  have hk := (List.getElem?_eq_some_iff.1 hx).1
  rw [List.find?_eq_some_iff_getElem]
  refine ⟨he, k, hk, (List.getElem?_eq_some_iff.1 hx).2, fun j hj => ?_⟩
  have := hb j l[j] hj (List.getElem?_eq_getElem (by omega))
  simp [this]
theorem mayR_bad {r : Realm} {p : Place} {kind rights : Int} (h : ¬ (getR r p).2 = 0) : mayR r p kind rights = (zeroW, 0, (getR r p).2) := by unfold mayR; rw [if_neg h]
theorem mayR_none {r : Realm} {p : Place} {kind rights : Int} (h : (getR r p).2 = 0) (hn : ∀ x ∈ r.Things, (x.ID == (getR r p).1.Thing) = false) : mayR r p kind rights = (zeroW, 0, 8) := by
  unfold mayR; rw [if_pos h, show r.Things.find? (fun t => t.ID == (getR r p).1.Thing) = none from List.find?_eq_none.2 (fun x hx => by simp [hn x hx])]
section
variable {r : Realm} {p : Place} {kind rights : Int} {k : Nat} {x : Thing}
theorem mayR_kind (h : (getR r p).2 = 0) (hx : r.Things[k]? = some x) (he : (x.ID == (getR r p).1.Thing) = true) (hb : ∀ (j : Nat) y, j < k → r.Things[j]? = some y → (y.ID == (getR r p).1.Thing) = false) (hk : ¬ x.Kind = kind) : mayR r p kind rights = (zeroW, 0, 8) := by
  unfold mayR; rw [if_pos h, find_of_idx (q := fun t => t.ID == (getR r p).1.Thing) hx he hb]; simp only; rw [if_neg hk]
theorem mayR_right (h : (getR r p).2 = 0) (hx : r.Things[k]? = some x) (he : (x.ID == (getR r p).1.Thing) = true) (hb : ∀ (j : Nat) y, j < k → r.Things[j]? = some y → (y.ID == (getR r p).1.Thing) = false) (hk : x.Kind = kind) (hr : hasR (getR r p).1.Rights rights = false) : mayR r p kind rights = (zeroW, 0, 7) := by
  unfold mayR; rw [if_pos h, find_of_idx (q := fun t => t.ID == (getR r p).1.Thing) hx he hb]; simp only; rw [if_pos hk, if_neg (by rw [hr]; simp)]
theorem mayR_ok (h : (getR r p).2 = 0) (hx : r.Things[k]? = some x) (he : (x.ID == (getR r p).1.Thing) = true) (hb : ∀ (j : Nat) y, j < k → r.Things[j]? = some y → (y.ID == (getR r p).1.Thing) = false) (hk : x.Kind = kind) (hr : hasR (getR r p).1.Rights rights = true) : mayR r p kind rights = ((getR r p).1, (k : Int), 0) := by
  unfold mayR; rw [if_pos h, find_of_idx (q := fun t => t.ID == (getR r p).1.Thing) hx he hb]; simp only; rw [if_pos hk, if_pos hr]
  have : thIdx r.Things (getR r p).1.Thing = (k : Int) := idxOf_hit hx he hb
  rw [this]
end
theorem mayR_zero {r : Realm} {p : Place} {kind rights : Int} (h : (mayR r p kind rights).2.2 = 0) : (getR r p).2 = 0 ∧ (mayR r p kind rights).1 = (getR r p).1 ∧ hasR (getR r p).1.Rights rights = true ∧
    ∃ (k : Nat) (x : Thing), (mayR r p kind rights).2.1 = (k : Int) ∧ r.Things[k]? = some x ∧ x.ID = (getR r p).1.Thing ∧ x.Kind = kind ∧ ∀ (j : Nat) y, j < k → r.Things[j]? = some y → ¬ y.ID = (getR r p).1.Thing := by
  by_cases h1 : (getR r p).2 = 0
  · rcases idx_cases (fun t : Thing => t.ID == (getR r p).1.Thing) r.Things with ⟨_, hn⟩ | ⟨k, x, hk, hx, he, hb, _⟩
    · rw [mayR_none h1 hn] at h; simp at h
    · by_cases h2 : x.Kind = kind
      · cases h3 : hasR (getR r p).1.Rights rights with
        | false => rw [mayR_right h1 hx he hb h2 h3] at h; simp at h
        | true =>
          rw [mayR_ok h1 hx he hb h2 h3]
          exact ⟨h1, rfl, rfl, k, x, rfl, hx, by simpa using he, h2, fun j y hj hy => by simpa using hb j y hj hy⟩
      · rw [mayR_kind h1 hx he hb h2] at h; simp at h
  · rw [mayR_bad h1] at h; exact absurd h h1
theorem mayR_nonneg (r : Realm) (p : Place) (kind rights : Int) : 0 ≤ (mayR r p kind rights).2.2 := by
  have := getR_nonneg r p
  unfold mayR; split
  · split
    · simp
    · split
      · split <;> simp
      · simp
  · exact this
def readR (r : Realm) (p : Place) : ByteArray × Int :=
  if (mayR r p 1 1).2.2 = 0 then (match r.Things[(mayR r p 1 1).2.1.toNat]? with | some t => (t.Data, 0) | none => (⟨#[]⟩, 0)) else (⟨#[]⟩, (mayR r p 1 1).2.2)
def setData (l : List Thing) (i : Nat) (d : ByteArray) : List Thing := match l[i]? with | some t => l.set i ⟨t.ID, t.Kind, d⟩ | none => l
def writeR (r : Realm) (p : Place) (d : ByteArray) : Realm × Int :=
  if (mayR r p 1 2).2.2 = 0 then
    if 8 < d.size then (r0, 2) else (⟨r.Writs, setData r.Things (mayR r p 1 2).2.1.toNat d, r.Held, r.Notes, r.NextWrit, r.NextThing⟩, 0)
  else (r0, (mayR r p 1 2).2.2)
def waitN (l : List Note) (t : Int) : Nat := (l.filter (fun n => n.Port == t)).length
def sendR (r : Realm) (p : Place) (d : ByteArray) (slot rights : Int) : Realm × Int :=
  if (mayR r p 2 2).2.2 = 0 then
    if 8 < d.size then (r0, 2)
    else if waitN r.Notes (mayR r p 2 2).1.Thing = 3 then (r0, 9)
    else if slot < 0 then (⟨r.Writs, r.Things, r.Held, r.Notes ++ [⟨(mayR r p 2 2).1.Thing, d, (mayR r p 2 2).1.Badge, 0⟩], r.NextWrit, r.NextThing⟩, 0)
    else if hasR (mayR r p 2 2).1.Rights 4 = true then
      if (getR r ⟨p.Holder, slot⟩).2 = 0 then
        if 999 < r.NextWrit then (r0, 9)
        else if (derived (getR r ⟨p.Holder, slot⟩).1 r.NextWrit rights 0).2 = 0 then
          (⟨r.Writs ++ [(derived (getR r ⟨p.Holder, slot⟩).1 r.NextWrit rights 0).1], r.Things, r.Held, r.Notes ++ [⟨(mayR r p 2 2).1.Thing, d, (mayR r p 2 2).1.Badge, (derived (getR r ⟨p.Holder, slot⟩).1 r.NextWrit rights 0).1.ID⟩], r.NextWrit + 1, r.NextThing⟩, 0)
        else (r0, (derived (getR r ⟨p.Holder, slot⟩).1 r.NextWrit rights 0).2)
      else (r0, (getR r ⟨p.Holder, slot⟩).2)
    else (r0, 7)
  else (r0, (mayR r p 2 2).2.2)
def cutN (ns : List Note) (i : Nat) : List Note := ns.take i ++ ns.drop (i + 1)
def takeR (r : Realm) (p : Place) : Realm × Note × Int × Int :=
  if (mayR r p 2 1).2.2 = 0 then
    match r.Notes[(idxOf (fun n => n.Port == (mayR r p 2 1).1.Thing) r.Notes).toNat]?, decide (0 ≤ idxOf (fun n => n.Port == (mayR r p 2 1).1.Thing) r.Notes) with
    | some n, true =>
      if 0 < n.Writ then
        if freeH r.Held p.Holder < 0 then (r0, n0, 0, 9)
        else (⟨r.Writs, r.Things, putH r.Held ⟨p.Holder, freeH r.Held p.Holder⟩ n.Writ, cutN r.Notes (idxOf (fun n => n.Port == (mayR r p 2 1).1.Thing) r.Notes).toNat, r.NextWrit, r.NextThing⟩, n, freeH r.Held p.Holder, 0)
      else (⟨r.Writs, r.Things, r.Held, cutN r.Notes (idxOf (fun n => n.Port == (mayR r p 2 1).1.Thing) r.Notes).toNat, r.NextWrit, r.NextThing⟩, n, -1, 0)
    | _, _ => (r0, n0, 0, 5)
  else (r0, n0, 0, (mayR r p 2 1).2.2)
theorem keep_snoc {ws : List Writ} {ts : List Int} {ns : List Note} {k : Nat} {n : Note} (h : ns[k]? = some n) (hp : (fixN ws n).Port ∈ ts) : keepN ws ts (ns.take (k + 1)) = keepN ws ts (ns.take k) ++ [fixN ws n] ∧ lostN ws ts (ns.take (k + 1)) = lostN ws ts (ns.take k) := by
  unfold keepN lostN
  rw [List.take_add_one, h]
  simp [hp]
theorem lost_snoc {ws : List Writ} {ts : List Int} {ns : List Note} {k : Nat} {n : Note} (h : ns[k]? = some n) (hp : ¬ (fixN ws n).Port ∈ ts) (h0 : 0 < (fixN ws n).Writ) : keepN ws ts (ns.take (k + 1)) = keepN ws ts (ns.take k) ∧ lostN ws ts (ns.take (k + 1)) = lostN ws ts (ns.take k) ++ [(fixN ws n).Writ] := by
  unfold keepN lostN
  rw [List.take_add_one, h]
  simp [hp, h0]
theorem none_snoc {ws : List Writ} {ts : List Int} {ns : List Note} {k : Nat} {n : Note} (h : ns[k]? = some n) (hp : ¬ (fixN ws n).Port ∈ ts) (h0 : ¬ 0 < (fixN ws n).Writ) : keepN ws ts (ns.take (k + 1)) = keepN ws ts (ns.take k) ∧ lostN ws ts (ns.take (k + 1)) = lostN ws ts (ns.take k) := by
  unfold keepN lostN
  rw [List.take_add_one, h]
  simp [hp, h0]
theorem fixN_no {ws : List Writ} {n : Note} (h : findW ws n.Writ = -1) : fixN ws n = ⟨n.Port, n.Data, n.Badge, 0⟩ := by unfold fixN; rw [if_pos (by omega)]
theorem fixN_yes {ws : List Writ} {n : Note} {j : Nat} (h : findW ws n.Writ = (j : Int)) : fixN ws n = n := by unfold fixN; rw [if_neg (by omega)]
theorem wait_hit {ns : List Note} {t : Int} {k : Nat} {n : Note} (h : ns[k]? = some n) (e : n.Port = t) : waitN (ns.take (k + 1)) t = waitN (ns.take k) t + 1 := by
  unfold waitN; rw [List.take_add_one, h]; simp [e]
theorem wait_miss {ns : List Note} {t : Int} {k : Nat} {n : Note} (h : ns[k]? = some n) (e : ¬ n.Port = t) : waitN (ns.take (k + 1)) t = waitN (ns.take k) t := by
  unfold waitN; rw [List.take_add_one, h]; simp [e]
theorem wait_le {ns : List Note} {t : Int} {k : Nat} : waitN (ns.take k) t ≤ k := by
  unfold waitN; exact Nat.le_trans (List.length_filter_le _ _) (by rw [List.length_take]; omega)
def quietW (ns : List Note) (l : List Writ) : List Writ := ns.foldl (fun l n => if 0 < n.Writ then without l n.Writ else l) l
theorem quiet_snoc {ns : List Note} {l : List Writ} {k : Nat} {n : Note} (h : ns[k]? = some n) : quietW (ns.take (k + 1)) l = (if 0 < n.Writ then without (quietW (ns.take k) l) n.Writ else quietW (ns.take k) l) := by
  unfold quietW; rw [List.take_add_one, h]; simp
theorem quietW_len (ns : List Note) : ∀ (l : List Writ), (quietW ns l).length ≤ l.length := by
  induction ns with
  | nil => intro l; exact Nat.le_refl _
  | cons n ns ih =>
    intro l
    show (quietW ns _).length ≤ _
    refine Nat.le_trans (ih _) ?_
    dsimp only
    split
    · exact without_len _ _
    · exact Nat.le_refl _
theorem quietW_ri (ns : List Note) : ∀ (l : List Writ), (∀ w ∈ l, 0 ≤ w.Rights ∧ w.Rights ≤ 7) → ∀ w ∈ quietW ns l, 0 ≤ w.Rights ∧ w.Rights ≤ 7 := by
  induction ns with
  | nil => intro l h; exact h
  | cons n ns ih =>
    intro l h
    show ∀ w ∈ quietW ns _, _
    refine ih _ ?_
    dsimp only
    split
    · exact without_ri h
    · exact h
def quietR (r : Realm) : Realm := sweepR ⟨quietW r.Notes r.Writs, r.Things, r.Held, [], r.NextWrit, r.NextThing⟩
end Go.Proofs.YtpipachmngdegaaGreat
end
