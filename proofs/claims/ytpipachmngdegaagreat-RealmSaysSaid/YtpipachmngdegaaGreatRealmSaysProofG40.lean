import Derived.Test.YtpipachmngdegaaGreatRealmSaysProofG32
import Derived.Test.YtpipachmngdegaaGreatRealmSaysProofG34
import Derived.Test.YtpipachmngdegaaGreatRealmSaysProofG24
section
/-
  What holds of every realm that grows: each writ is held once or waits in one note, each thing has a writ, notes wait at ports. No program.
-/
namespace Go.Proofs.YtpipachmngdegaaGreat
set_option linter.unusedVariables false

/-! ### places -/
theorem put_new {l : List Held} {p : Place} {id : Int} (hg : Good l) (h : atH l p = 0) (hi : id ≠ 0) : ∃ A B, l = A ++ B ∧ putH l p id = A ++ ⟨p, id⟩ :: B := by
  cases shape l p (rise_of hg) with
  | hit A B w e hh k ha hb =>
    have hw : w ≠ 0 := (fine_of hg ⟨p, w⟩ (by rw [e]; simp)).2
    rw [at_eq (rise_of hg), e, atRef_mid (fun x hx => ltPl_ne (ha x hx))] at h
    exact absurd h hw
  | miss A B e hh k ha hb => exact ⟨A, B, e, by rw [putH_miss e hh k, if_neg hi]⟩
theorem put_del {l : List Held} {p : Place} {w : Int} (hg : Good l) (h : atH l p = w) (hw : w ≠ 0) : ∃ A B, l = A ++ ⟨p, w⟩ :: B ∧ putH l p 0 = A ++ B := by
  cases shape l p (rise_of hg) with
  | hit A B w' e hh k ha hb =>
    rw [at_eq (rise_of hg), e, atRef_mid (fun x hx => ltPl_ne (ha x hx))] at h
    subst h
    exact ⟨A, B, e, by rw [putH_hit e hh k, if_pos rfl]⟩
  | miss A B e hh k ha hb =>
    rw [at_eq (rise_of hg), e, atRef_no (fun x hx => by
      rcases List.mem_append.1 hx with hx | hx
      · exact ltPl_ne (ha x hx)
      · exact fun e => ltPl_ne (hb x hx) e.symm)] at h
    exact absurd h.symm hw
theorem at_mem {l : List Held} {p : Place} {w : Int} (hg : Good l) (h : atH l p = w) (hw : w ≠ 0) : (⟨p, w⟩ : Held) ∈ l := by
  obtain ⟨A, B, e, _⟩ := put_del hg h hw
  rw [e]; simp
theorem mem_at {l : List Held} {x : Held} (hg : Good l) (h : x ∈ l) : atH l x.Place = x.Writ := by
  obtain ⟨A, B, e⟩ := List.append_of_mem h
  have hr := rise_of hg
  have hr' := hr
  rw [at_eq hr]
  rw [e] at hr' ⊢
  obtain ⟨h1, h2, h3⟩ := rise_app hr'
  exact atRef_mid (fun y hy => ltPl_ne (h3 y hy x (List.mem_cons_self ..)))
theorem good_inj {l : List Held} {x y : Held} (hg : Good l) (hx : x ∈ l) (hy : y ∈ l) (h : x.Place = y.Place) : x = y := by
  have h1 := mem_at hg hx; have h2 := mem_at hg hy
  cases x; cases y; simp only [] at h h1 h2; subst h; rw [h1] at h2; rw [h2]
theorem good_filter {l : List Held} (f : Held → Bool) (hg : Good l) : Good (l.filter f) :=
  good_of ((rise_of hg).filter _) (fun x hx => fine_of hg x (List.mem_filter.1 hx).1)
theorem rise_ext : ∀ (a b : List Held), Rise a → Rise b → (∀ x, x ∈ a ↔ x ∈ b) → a = b
  | [], [], _, _, _ => rfl
  | [], y :: b, _, _, h => by have := (h y).2 (List.mem_cons_self ..); cases this
  | x :: a, [], _, _, h => by have := (h x).1 (List.mem_cons_self ..); cases this
  | x :: a, y :: b, ha, hb, h => by
    obtain ⟨ha1, ha2⟩ := List.pairwise_cons.1 ha
    obtain ⟨hb1, hb2⟩ := List.pairwise_cons.1 hb
    have hxy : x = y := by
      rcases List.mem_cons.1 ((h x).1 (List.mem_cons_self ..)) with e | hx
      · exact e
      · rcases List.mem_cons.1 ((h y).2 (List.mem_cons_self ..)) with e | hy
        · exact e.symm
        · exact absurd (ltPl_trans (ha1 y hy) (hb1 x hx)) ltPl_irr
    subst hxy
    refine congrArg _ (rise_ext a b ha2 hb2 fun z => ?_)
    constructor
    · intro hz
      rcases List.mem_cons.1 ((h z).1 (List.mem_cons_of_mem _ hz)) with e | hz'
      · exact absurd (ha1 z hz) (by rw [e]; exact ltPl_irr)
      · exact hz'
    · intro hz
      rcases List.mem_cons.1 ((h z).2 (List.mem_cons_of_mem _ hz)) with e | hz'
      · exact absurd (hb1 z hz) (by rw [e]; exact ltPl_irr)
      · exact hz'
theorem good_ext {a b : List Held} (ha : Good a) (hb : Good b) (h : ∀ p, atH a p = atH b p) : a = b := by
  refine rise_ext a b (rise_of ha) (rise_of hb) fun x => ?_
  constructor
  · intro hx
    have h1 := mem_at ha hx
    exact at_mem hb (by rw [← h]; exact h1) (fine_of ha x hx).2
  · intro hx
    have h1 := mem_at hb hx
    exact at_mem ha (by rw [h]; exact h1) (fine_of hb x hx).2

/-! ### how often a writ is held, or in notes -/
def cH (l : List Held) (j : Int) : Nat := l.countP (fun h => h.Writ == j)
def cN (l : List Note) (j : Int) : Nat := l.countP (fun n => n.Writ == j)
theorem cH_new {l : List Held} {p : Place} {id : Int} (hg : Good l) (h : atH l p = 0) (hi : id ≠ 0) (j : Int) : cH (putH l p id) j = cH l j + (if id = j then 1 else 0) := by
  obtain ⟨A, B, e, e2⟩ := put_new hg h hi
  rw [e2, e]; unfold cH
  rw [List.countP_append, List.countP_append, List.countP_cons]
  by_cases hj : id = j
  · rw [if_pos (by simpa using hj), if_pos hj]; omega
  · rw [if_neg (by simpa using hj), if_neg hj]; omega
theorem cH_del {l : List Held} {p : Place} {w : Int} (hg : Good l) (h : atH l p = w) (hw : w ≠ 0) (j : Int) : cH l j = cH (putH l p 0) j + (if w = j then 1 else 0) := by
  obtain ⟨A, B, e, e2⟩ := put_del hg h hw
  rw [e2, e]; unfold cH
  rw [List.countP_append, List.countP_append, List.countP_cons]
  by_cases hj : w = j
  · rw [if_pos (by simpa using hj), if_pos hj]; omega
  · rw [if_neg (by simpa using hj), if_neg hj]; omega
theorem cH_pos {l : List Held} {x : Held} (h : x ∈ l) : 0 < cH l x.Writ := List.countP_pos_iff.2 ⟨x, h, by simp⟩
theorem cN_pos {l : List Note} {x : Note} (h : x ∈ l) : 0 < cN l x.Writ := List.countP_pos_iff.2 ⟨x, h, by simp⟩
theorem cN_cut {l : List Note} {i : Nat} {n : Note} (h : l[i]? = some n) (j : Int) : cN l j = cN (cutN l i) j + (if n.Writ = j then 1 else 0) := by
  obtain ⟨hi, rfl⟩ := List.getElem?_eq_some_iff.1 h
  have e : l = l.take i ++ l[i] :: l.drop (i + 1) := by rw [← List.drop_eq_getElem_cons hi, List.take_append_drop]
  unfold cutN cN
  conv => lhs; rw [e]
  rw [List.countP_append, List.countP_append, List.countP_cons]
  by_cases hj : (l[i]).Writ = j
  · rw [if_pos (by simpa using hj), if_pos hj]; omega
  · rw [if_neg (by simpa using hj), if_neg hj]; omega
theorem mem_cut {l : List Note} {i : Nat} {x : Note} (h : x ∈ cutN l i) : x ∈ l := by
  unfold cutN at h
  rcases List.mem_append.1 h with h | h
  · exact List.mem_of_mem_take h
  · exact List.mem_of_mem_drop h
theorem waitN_cut {l : List Note} {i : Nat} (q : Int) : waitN (cutN l i) q ≤ waitN l q := by
  unfold cutN waitN
  have h : (l.take i ++ l.drop (i + 1)).Sublist l := by
    have := List.Sublist.append (List.Sublist.refl (l.take i)) (List.drop_sublist_drop_left l (Nat.le_succ i))
    rwa [List.take_append_drop] at this
  exact (h.filter _).length_le
theorem findW_some {l : List Writ} {id : Int} : 0 ≤ findW l id ↔ ∃ x ∈ l, x.ID = id := by
  constructor
  · intro h; obtain ⟨x, _, h2, h3⟩ := findW_at l id h; exact ⟨x, h3, h2⟩
  · rintro ⟨x, hx, rfl⟩; exact findW_mem hx
theorem mem_things {l : List Writ} (h : TreeOk l) {t : Int} : t ∈ thingsL l ↔ ∃ w ∈ l, w.Thing = t := by
  unfold thingsL
  rw [things_eq h]
  show t ∈ thingsTo l 999 ↔ _
  rw [(thingsTo_is l 999).2]
  simp only [hasT?, List.any_eq_true, beq_iff_eq]
  constructor
  · rintro ⟨_, _, w, hw, e⟩; exact ⟨w, hw, e⟩
  · rintro ⟨w, hw, e⟩
    have := h.mem hw
    have h1 := this.th1; have h2 := this.th9
    exact ⟨by omega, by omega, w, hw, e⟩

/-! ### the invariant -/
/-- what holds also while it is swept -/
structure Pre (r : Realm) : Prop where
  tree : TreeOk r.Writs
  good : Good r.Held
  wlt : ∀ w ∈ r.Writs, w.ID < r.NextWrit
  nw1 : 1 ≤ r.NextWrit
  nw2 : r.NextWrit ≤ 1000
  nt1 : 1 ≤ r.NextThing
  nt2 : r.NextThing ≤ 1000
  trise : r.Things.Pairwise (fun a b => a.ID < b.ID)
  tlt : ∀ t ∈ r.Things, 1 ≤ t.ID ∧ t.ID < r.NextThing
  tkind : ∀ t ∈ r.Things, t.Kind = 1 ∨ t.Kind = 2
  tdata : ∀ t ∈ r.Things, t.Data.size ≤ 8 ∧ (t.Kind = 2 → t.Data = ⟨#[]⟩)
  tmax : r.Things.length ≤ 10
  thing : ∀ w ∈ r.Writs, ∃ t ∈ r.Things, t.ID = w.Thing
  port : ∀ n ∈ r.Notes, ∃ t ∈ r.Things, t.ID = n.Port ∧ t.Kind = 2
  ndata : ∀ n ∈ r.Notes, n.Data.size ≤ 8 ∧ 0 ≤ n.Badge ∧ n.Badge ≤ 99
  wait : ∀ q, waitN r.Notes q ≤ 3
  nwrit : ∀ n ∈ r.Notes, 0 ≤ n.Writ
  once : ∀ w ∈ r.Writs, cH r.Held w.ID + cN r.Notes w.ID = 1
structure Inv (r : Realm) : Prop extends Pre r where
  nthere : ∀ n ∈ r.Notes, 0 < n.Writ → ∃ w ∈ r.Writs, w.ID = n.Writ
  hthere : ∀ h ∈ r.Held, ∃ w ∈ r.Writs, w.ID = h.Writ
  used : ∀ t ∈ r.Things, ∃ w ∈ r.Writs, w.Thing = t.ID
theorem Inv.new : Inv newR := by
  refine { tree := rfl, good := good_of List.Pairwise.nil (fun x hx => by cases hx), wlt := ?_, nw1 := by decide, nw2 := by decide, nt1 := by decide, nt2 := by decide, trise := List.Pairwise.nil, tlt := ?_, tkind := ?_, tdata := ?_, tmax := by decide, thing := ?_, port := ?_, ndata := ?_, wait := fun q => by simp [waitN, newR], nwrit := ?_, once := ?_, nthere := ?_, hthere := ?_, used := ?_ } <;> intro x hx <;> cases hx
theorem Pre.ri {r : Realm} (h : Pre r) : ∀ w ∈ r.Writs, 0 ≤ w.Rights ∧ w.Rights ≤ 7 := fun w hw => ⟨(h.tree.mem hw).ri0, (h.tree.mem hw).ri7⟩
theorem Inv.r_ok {r : Realm} (h : Inv r) : r.Things.length ≤ 10 := h.tmax

/-! ### sweeping keeps it -/
theorem fold_tree : ∀ (ids : List Int) (l : List Writ), TreeOk l → TreeOk (ids.foldl without l)
  | [], l, h => h
  | i :: ids, l, h => fold_tree ids _ (h.wo i)
/-- the same writ, but for what it was made of -/
structure Like (y x : Writ) : Prop where
  id : y.ID = x.ID
  th : y.Thing = x.Thing
  ri : y.Rights = x.Rights
  ba : y.Badge = x.Badge
theorem Like.refl (x : Writ) : Like x x := ⟨rfl, rfl, rfl, rfl⟩
theorem Like.trans {x y z : Writ} (h : Like x y) (k : Like y z) : Like x z := ⟨h.id.trans k.id, h.th.trans k.th, h.ri.trans k.ri, h.ba.trans k.ba⟩
theorem Like.symm {x y : Writ} (h : Like x y) : Like y x := ⟨h.id.symm, h.th.symm, h.ri.symm, h.ba.symm⟩
theorem like_re (id f : Int) (x : Writ) : Like (woRe id f x) x := by have := woRe_id (id := id) (f := f) x; exact ⟨this.1, this.2.1, this.2.2.1, this.2.2.2⟩
theorem mem_fold : ∀ (ids : List Int) (l : List Writ) (w : Writ), w ∈ ids.foldl without l → (∃ y ∈ l, Like w y) ∧ ¬ w.ID ∈ ids
  | [], l, w, h => ⟨⟨w, h, Like.refl w⟩, fun h => by cases h⟩
  | i :: ids, l, w, h => by
    obtain ⟨⟨y, hy, hl⟩, hn⟩ := mem_fold ids (without l i) w h
    obtain ⟨z, hz, hne, rfl⟩ := mem_without.1 hy
    refine ⟨⟨z, hz, hl.trans (like_re _ _ z)⟩, fun hm => ?_⟩
    rcases List.mem_cons.1 hm with e | hm
    · exact hne (by rw [← e, hl.id, (woRe_id z).1])
    · exact hn hm
theorem fold_mem : ∀ (ids : List Int) (l : List Writ) (y : Writ), y ∈ l → ¬ y.ID ∈ ids → ∃ w ∈ ids.foldl without l, Like w y
  | [], l, y, h, _ => ⟨y, h, Like.refl y⟩
  | i :: ids, l, y, h, hn => by
    have h1 : woRe i (fromOf l i) y ∈ without l i := mem_without.2 ⟨y, h, fun e => hn (by rw [e]; exact List.mem_cons_self ..), rfl⟩
    obtain ⟨w, hw, hl⟩ := fold_mem ids (without l i) _ h1 (by rw [(woRe_id y).1]; exact fun hm => hn (List.mem_cons_of_mem _ hm))
    exact ⟨w, hw, hl.trans (like_re _ _ y)⟩
theorem fixN_is (ws : List Writ) (n : Note) : (fixN ws n).Port = n.Port ∧ (fixN ws n).Data = n.Data ∧ (fixN ws n).Badge = n.Badge ∧ ((fixN ws n).Writ = n.Writ ∧ 0 ≤ findW ws n.Writ ∨ (fixN ws n).Writ = 0) := by
  unfold fixN; split
  · exact ⟨rfl, rfl, rfl, .inr rfl⟩
  · exact ⟨rfl, rfl, rfl, .inl ⟨rfl, by omega⟩⟩
theorem mem_keep {ws : List Writ} {ts : List Int} {ns : List Note} {n : Note} : n ∈ keepN ws ts ns ↔ ∃ m ∈ ns, n = fixN ws m ∧ m.Port ∈ ts := by
  unfold keepN
  rw [List.mem_filter, List.mem_map]
  constructor
  · rintro ⟨⟨m, hm, rfl⟩, hp⟩
    exact ⟨m, hm, rfl, by have := of_decide_eq_true hp; rwa [(fixN_is ws m).1] at this⟩
  · rintro ⟨m, hm, rfl, hp⟩
    exact ⟨⟨m, hm, rfl⟩, decide_eq_true (by rw [(fixN_is ws m).1]; exact hp)⟩
theorem mem_lost {ws : List Writ} {ts : List Int} {ns : List Note} {j : Int} : j ∈ lostN ws ts ns ↔ ∃ m ∈ ns, j = (fixN ws m).Writ ∧ ¬ m.Port ∈ ts ∧ 0 < j := by
  unfold lostN
  rw [List.mem_map]
  constructor
  · rintro ⟨n, hn, rfl⟩
    obtain ⟨h1, h2⟩ := List.mem_filter.1 hn
    obtain ⟨m, hm, rfl⟩ := List.mem_map.1 h1
    simp only [Bool.and_eq_true, Bool.not_eq_true', decide_eq_false_iff_not, decide_eq_true_eq] at h2
    exact ⟨m, hm, rfl, by rw [← (fixN_is ws m).1]; exact h2.1, h2.2⟩
  · rintro ⟨m, hm, rfl, hp, h0⟩
    refine ⟨fixN ws m, List.mem_filter.2 ⟨List.mem_map.2 ⟨m, hm, rfl⟩, ?_⟩, rfl⟩
    simp only [Bool.and_eq_true, Bool.not_eq_true', decide_eq_false_iff_not, decide_eq_true_eq]
    exact ⟨by rw [(fixN_is ws m).1]; exact hp, h0⟩
theorem keep_cons (ws : List Writ) (ts : List Int) (m : Note) (ns : List Note) : keepN ws ts (m :: ns) = if m.Port ∈ ts then fixN ws m :: keepN ws ts ns else keepN ws ts ns := by
  unfold keepN
  rw [List.map_cons, List.filter_cons, (fixN_is ws m).1]
  by_cases h : m.Port ∈ ts
  · rw [if_pos (decide_eq_true h), if_pos h]
  · rw [if_neg (by simpa using h), if_neg h]
theorem keep_count {ws : List Writ} {ts : List Int} {j : Int} (hj : 0 ≤ findW ws j) (h0 : 0 < j) : ∀ (ns : List Note), (∀ n ∈ ns, n.Writ = j → n.Port ∈ ts) → cN (keepN ws ts ns) j = cN ns j
  | [], _ => rfl
  | m :: ns, hl => by
    have ih := keep_count hj h0 ns (fun n hn => hl n (List.mem_cons_of_mem _ hn))
    have hf := fixN_is ws m
    rw [keep_cons]
    unfold cN at ih ⊢
    by_cases e : m.Writ = j
    · have hfm : (fixN ws m).Writ = j := by
        rcases hf.2.2.2 with ⟨h1, _⟩ | h1
        · omega
        · unfold fixN at h1 ⊢; rw [if_neg (by rw [e]; omega)]; exact e
      rw [if_pos (hl m (List.mem_cons_self ..) e), List.countP_cons, List.countP_cons, if_pos (by simpa using hfm), if_pos (by simpa using e), ih]
    · have hfm : ¬ (fixN ws m).Writ = j := by rcases hf.2.2.2 with ⟨h1, _⟩ | h1 <;> omega
      split
      · rw [List.countP_cons, List.countP_cons, if_neg (by simpa using hfm), if_neg (by simpa using e), ih]
      · rw [List.countP_cons, if_neg (by simpa using e), ih]; rfl
theorem keep_wait (ws : List Writ) (ts : List Int) (q : Int) : ∀ (ns : List Note), waitN (keepN ws ts ns) q ≤ waitN ns q
  | [] => Nat.le_refl _
  | m :: ns => by
    have ih := keep_wait ws ts q ns
    have hf := fixN_is ws m
    rw [keep_cons]
    unfold waitN at ih ⊢
    have e : (fixN ws m).Port = m.Port := hf.1
    split
    · rw [List.filter_cons, List.filter_cons, e]; split <;> simp <;> omega
    · rw [List.filter_cons]; split <;> simp <;> omega
def sw (r : Realm) (ids : List Int) : Realm := ⟨ids.foldl without r.Writs, (sweepS r).Things, (sweepS r).Held, (sweepS r).Notes, r.NextWrit, r.NextThing⟩
theorem mem_sth {r : Realm} {t : Thing} : t ∈ (sweepS r).Things ↔ t ∈ r.Things ∧ t.ID ∈ thingsL r.Writs := by
  show t ∈ r.Things.filter _ ↔ _
  rw [List.mem_filter]; simp
theorem mem_shd {r : Realm} {h : Held} : h ∈ (sweepS r).Held ↔ h ∈ r.Held ∧ ∃ w ∈ r.Writs, w.ID = h.Writ := by
  show h ∈ r.Held.filter _ ↔ _
  rw [List.mem_filter, ← findW_some]; simp
theorem Pre.sw {r : Realm} (h : Pre r) {ids : List Int} (hl : ∀ j ∈ lostS r, j ∈ ids) : Pre (YtpipachmngdegaaGreat.sw r ids) := by
  have hsub : ∀ w ∈ ids.foldl without r.Writs, (∃ y ∈ r.Writs, Like w y) ∧ ¬ w.ID ∈ ids := fun w hw => mem_fold ids r.Writs w hw
  have hport : ∀ n ∈ (sweepS r).Notes, ∃ m ∈ r.Notes, n = fixN r.Writs m ∧ m.Port ∈ thingsL r.Writs := fun n hn => mem_keep.1 hn
  refine { tree := fold_tree ids _ h.tree, good := good_filter _ h.good, wlt := ?_, nw1 := h.nw1, nw2 := h.nw2, nt1 := h.nt1, nt2 := h.nt2, trise := h.trise.filter _, tlt := fun t ht => h.tlt t (mem_sth.1 ht).1, tkind := fun t ht => h.tkind t (mem_sth.1 ht).1, tdata := fun t ht => h.tdata t (mem_sth.1 ht).1, tmax := Nat.le_trans (List.length_filter_le _ _) h.tmax, thing := ?_, port := ?_, ndata := ?_, wait := fun q => Nat.le_trans (keep_wait _ _ q _) (h.wait q), nwrit := ?_, once := ?_ }
  · intro w hw
    obtain ⟨⟨y, hy, hk⟩, _⟩ := hsub w hw
    rw [hk.id]; exact h.wlt y hy
  · intro w hw
    obtain ⟨⟨y, hy, hk⟩, _⟩ := hsub w hw
    obtain ⟨t, ht, e⟩ := h.thing y hy
    exact ⟨t, mem_sth.2 ⟨ht, (mem_things h.tree).2 ⟨y, hy, e.symm⟩⟩, by rw [e, hk.th]⟩
  · intro n hn
    obtain ⟨m, hm, rfl, hp⟩ := hport n hn
    obtain ⟨t, ht, e, hk⟩ := h.port m hm
    exact ⟨t, mem_sth.2 ⟨ht, by rw [e]; exact hp⟩, by rw [(fixN_is _ m).1]; exact e, hk⟩
  · intro n hn
    obtain ⟨m, hm, rfl, hp⟩ := hport n hn
    rw [(fixN_is _ m).2.1, (fixN_is _ m).2.2.1]; exact h.ndata m hm
  · intro n hn
    obtain ⟨m, hm, rfl, hp⟩ := hport n hn
    have := h.nwrit m hm
    rcases (fixN_is r.Writs m).2.2.2 with ⟨e, _⟩ | e <;> omega
  · intro w hw
    obtain ⟨⟨y, hy, hk⟩, hn⟩ := hsub w hw
    have hfd : 0 ≤ findW r.Writs w.ID := findW_some.2 ⟨y, hy, hk.id.symm⟩
    have h0 : 0 < w.ID := by have := (h.tree.mem hy).id1; rw [hk.id]; omega
    have h1 : cH (sweepS r).Held w.ID = cH r.Held w.ID := by
      show List.countP _ (r.Held.filter _) = List.countP _ r.Held
      rw [List.countP_filter]
      refine List.countP_congr fun x _ => ?_
      simp only [Bool.and_eq_true, beq_iff_eq, Bool.not_eq_true', decide_eq_false_iff_not]
      exact ⟨fun h => h.1, fun e => ⟨e, by rw [e]; omega⟩⟩
    have h2 : cN (sweepS r).Notes w.ID = cN r.Notes w.ID := keep_count hfd h0 r.Notes (fun n hnn e => by
      by_cases hp : n.Port ∈ thingsL r.Writs
      · exact hp
      · refine absurd (hl w.ID (mem_lost.2 ⟨n, hnn, ?_, hp, h0⟩)) hn
        rw [fixN, if_neg (by rw [e]; omega)]; exact e.symm)
    show cH (sweepS r).Held w.ID + cN (sweepS r).Notes w.ID = 1
    rw [h1, h2, hk.id]; exact h.once y hy
theorem sweepS_inv {r : Realm} (h : Pre r) (hl : (lostS r).length = 0) : Inv (sweepS r) := by
  have h1 : Pre (sweepS r) := h.sw (ids := []) (fun j hj => by rw [List.length_eq_zero_iff.1 hl] at hj; exact hj)
  refine { toPre := h1, nthere := ?_, hthere := fun x hx => (mem_shd.1 hx).2, used := fun t ht => (mem_things h.tree).1 (mem_sth.1 ht).2 }
  intro n hn h0
  obtain ⟨m, hm, rfl, hp⟩ := mem_keep.1 hn
  rcases (fixN_is r.Writs m).2.2.2 with ⟨e, hf⟩ | e
  · rw [e]; exact findW_some.1 hf
  · omega
theorem sweepGo_inv : ∀ (n : Nat) (r : Realm), r.Notes.length < n → Pre r → Inv (sweepGo n r)
  | 0, r, h, _ => by omega
  | n + 1, r, h, hp => by
    unfold sweepGo; split
    · exact sweepS_inv hp (by assumption)
    · have := sweepN_notes (r := r) (by assumption)
      exact sweepGo_inv n _ (by omega) (hp.sw (ids := lostS r) (fun j hj => hj))
theorem sweep_inv {r : Realm} (h : Pre r) : Inv (sweepR r) := sweepGo_inv _ r (Nat.lt_succ_self _) h
theorem lost_note {r : Realm} {j : Int} (h : j ∈ lostS r) : 0 < cN r.Notes j ∧ ∃ w ∈ r.Writs, w.ID = j := by
  obtain ⟨m, hm, e, hp, h0⟩ := mem_lost.1 h
  rcases (fixN_is r.Writs m).2.2.2 with ⟨e2, hf⟩ | e2
  · rw [e, e2]; exact ⟨cN_pos hm, findW_some.1 hf⟩
  · omega
/-- what is held stays held, and is the same -/
theorem sweepGo_keep : ∀ (n : Nat) (r : Realm), r.Notes.length < n → Pre r → ∀ (x : Held) (w : Writ), x ∈ r.Held → w ∈ r.Writs → w.ID = x.Writ → x ∈ (sweepGo n r).Held ∧ ∃ v ∈ (sweepGo n r).Writs, Like v w
  | 0, r, h, _, _, _, _, _, _ => by omega
  | n + 1, r, h, hp, x, w, hx, hw, e => by
    unfold sweepGo; split
    · exact ⟨mem_shd.2 ⟨hx, w, hw, e⟩, w, hw, Like.refl w⟩
    · have := sweepN_notes (r := r) (by assumption)
      have hn : ¬ w.ID ∈ lostS r := fun hm => by
        have h1 := (lost_note hm).1; have h2 := hp.once w hw; have h3 := cH_pos hx; rw [← e] at h3; omega
      obtain ⟨v, hv, hl⟩ := fold_mem (lostS r) r.Writs w hw hn
      obtain ⟨h1, u, hu, hul⟩ := sweepGo_keep n (sweepN r) (by omega) (hp.sw (ids := lostS r) (fun j hj => hj)) x v (mem_shd.2 ⟨hx, w, hw, e⟩) hv (by rw [hl.id]; exact e)
      exact ⟨h1, u, hu, hul.trans hl⟩
theorem sweep_keep {r : Realm} (h : Pre r) {x : Held} {w : Writ} (hx : x ∈ r.Held) (hw : w ∈ r.Writs) (e : w.ID = x.Writ) : x ∈ (sweepR r).Held ∧ ∃ v ∈ (sweepR r).Writs, Like v w := sweepGo_keep _ r (Nat.lt_succ_self _) h x w hx hw e
theorem sweepGo_sub : ∀ (n : Nat) (r : Realm), (∀ x ∈ (sweepGo n r).Held, x ∈ r.Held) ∧ (∀ v ∈ (sweepGo n r).Writs, ∃ w ∈ r.Writs, Like v w) ∧ (∀ t ∈ (sweepGo n r).Things, t ∈ r.Things) ∧ (∀ m ∈ (sweepGo n r).Notes, ∃ k ∈ r.Notes, m.Port = k.Port ∧ m.Data = k.Data ∧ m.Badge = k.Badge ∧ (m.Writ = k.Writ ∨ m.Writ = 0))
  | 0, r => ⟨fun x hx => (mem_shd.1 hx).1, fun v hv => ⟨v, hv, Like.refl v⟩, fun t ht => (mem_sth.1 ht).1, fun m hm => by
    obtain ⟨k, hk, rfl, _⟩ := mem_keep.1 hm
    have := fixN_is r.Writs k
    exact ⟨k, hk, this.1, this.2.1, this.2.2.1, this.2.2.2.imp (fun h => h.1) id⟩⟩
  | n + 1, r => by
    have hs : ∀ m ∈ (sweepS r).Notes, ∃ k ∈ r.Notes, m.Port = k.Port ∧ m.Data = k.Data ∧ m.Badge = k.Badge ∧ (m.Writ = k.Writ ∨ m.Writ = 0) := fun m hm => by
      obtain ⟨k, hk, rfl, _⟩ := mem_keep.1 hm
      have := fixN_is r.Writs k
      exact ⟨k, hk, this.1, this.2.1, this.2.2.1, this.2.2.2.imp (fun h => h.1) id⟩
    unfold sweepGo; split
    · exact ⟨fun x hx => (mem_shd.1 hx).1, fun v hv => ⟨v, hv, Like.refl v⟩, fun t ht => (mem_sth.1 ht).1, hs⟩
    · obtain ⟨h1, h2, h3, h4⟩ := sweepGo_sub n (sweepN r)
      refine ⟨fun x hx => (mem_shd.1 (h1 x hx)).1, fun v hv => ?_, fun t ht => (mem_sth.1 (h3 t ht)).1, fun m hm => ?_⟩
      · obtain ⟨w, hw, hl⟩ := h2 v hv
        obtain ⟨⟨y, hy, hl2⟩, _⟩ := mem_fold _ _ w hw
        exact ⟨y, hy, hl.trans hl2⟩
      · obtain ⟨k, hk, a, b, c, d⟩ := h4 m hm
        obtain ⟨k', hk', a', b', c', d'⟩ := hs k hk
        exact ⟨k', hk', a.trans a', b.trans b', c.trans c', by rcases d with d | d <;> rcases d' with d' | d' <;> first | (left; omega) | (right; omega)⟩
theorem sweep_sub (r : Realm) : (∀ x ∈ (sweepR r).Held, x ∈ r.Held) ∧ (∀ v ∈ (sweepR r).Writs, ∃ w ∈ r.Writs, Like v w) ∧ (∀ t ∈ (sweepR r).Things, t ∈ r.Things) ∧ (∀ m ∈ (sweepR r).Notes, ∃ k ∈ r.Notes, m.Port = k.Port ∧ m.Data = k.Data ∧ m.Badge = k.Badge ∧ (m.Writ = k.Writ ∨ m.Writ = 0)) := sweepGo_sub _ r
end Go.Proofs.YtpipachmngdegaaGreat
end
