import Derived.Shelf.Strings.Builder1
import Derived.Shelf.Small.Strs
import Derived.Shelf.Bits.Mul64
import Derived.Ground.Names2Prog
import Derived.Shelf.Slices.Clone
import Derived.Ground.SlgnProg
import Derived.Shelf.SlicesE.Clone
import Derived.Test.YtpipachmngdegaaProg
import Derived.Test.YtpipachmngdegaaStoreSaysProofG28
section
/-
  DERIVED: THE SHELF's CONTRACTS AT THIS DUMP, IN PLAIN WORDS (tools/lay-plain.mjs out of 'TryShelf.lean', which tools/lay-shelf.mjs wrote): THE SAME DECLARATIONS UNDER THE SAME NAMES: 'import', 'namespace', 'open', 'def', 'theorem' AND NOTHING ELSE: no command of the shelf's: FOR A HAND-IN. Each laying: the table of numbers ('.._ren') and one theorem, a field a fact of the dump's own or the kernel's comparison; each contract: ONE APPLICATION.
-/
namespace Go.Proofs
open Go.Shelf
def Try.lays169_ren : Go.Shelf.Ren := ⟨fun | 169 => 71 | n => n, fun | 70 => 122 | 9 => 9 | 0 => 0 | 72 => 124 | 37 => 109 | 127 => 134 | 3 => 3 | 5 => 5 | n => n, fun | n => n⟩
theorem Try.lays169 : Go.Proofs.Lays.n169 Try.prog Try.lays169_ren := {
  mixed := by kernel_rfl
  f169 := Try.func71.trans (congrArg some (by kernel_rfl))
  t0 := Try.underlying0
  a0 := Try.isAgg0
  z0 := Try.sizeOf0
  v0 := Try.zeroValue0
  t3 := Try.underlying3
  a3 := Try.isAgg3
  z3 := Try.sizeOf3
  v3 := Try.zeroValue3
  t9 := Try.underlying9
  a9 := Try.isAgg9
  z9 := Try.sizeOf9
  v9 := Try.zeroValue9
  t37 := Try.underlying109
  a37 := Try.isAgg109
  z37 := Try.sizeOf109
  v37 := Try.zeroValue109
  t70 := Try.underlying122
  a70 := Try.isAgg122
  z70 := Try.sizeOf122
  v70 := Try.zeroValue122
  t72 := Try.underlying124
  a72 := Try.isAgg124
  z72 := Try.sizeOf124
  v72 := Try.zeroValue124
  t127 := Try.underlying134
  a127 := Try.isAgg134
  z127 := Try.sizeOf134
  v127 := Try.zeroValue134 }
theorem Try.Builder_Extra_169 : Builder.Extra Try.prog Try.lays169_ren := {
  sizeBuilder := by kernel_rfl
  liesBuilder := by kernel_rfl
  t5 := Try.underlying5
  a5 := Try.isAgg5
  z5 := Try.sizeOf5
  v5 := Try.zeroValue5
  infoByte := by kernel_rfl
  cellsByte := by kernel_rfl
  sizeByte := by kernel_rfl
  neB5 := by decide }
open Go.RowKit in
/-- (*strings.Builder).String: "String returns the accumulated string.": WHATEVER THE BUILDER HOLDS. (LAID: no walk: one application.) -/
theorem Try.Builder_String_any (B b : Nat) (l : List UInt8) (w : World) (h : Lib.IsBuilder 124 5 B b (Lib.byteCells l) w) (hBw : B ≤ w.heap.size) :
    Calls Try.prog 71 #[.pointer (some ⟨b, 0, none⟩)] w fun e w' => e = .returned (.string ⟨l.toArray⟩) ∧ Below B w w' := Any.Builder_String_any Try.lays169 Try.Builder_Extra_169 B b l w h hBw
end Go.Proofs
end

section
/-
  All of a store that is laid as a whole: which step fails, which disk is left. No program.
-/
namespace Go.Proofs.Ytpipachmngdegaa
open Go Go.RowKit
set_option linter.unusedVariables false

section
variable {s : Sto} {d m : Dsk} {e : Int}
theorem ck_a (h : ck1 s d = (m, e)) (he : ¬ e = 0) : ckS s d = (s, m, e) := by
  have h4 : ck4 s d = (m, e) := by
    unfold ck4 ck3 ck2; rw [h, dThen_no (s := (m, e)) (f := dFlush) he, dThen_no (s := (m, e)) he, dThen_no (s := (m, e)) he]
  unfold ckS; rw [h4, if_neg he]
theorem ck_b (h : ck1 s d = (m, e)) (he : e = 0) (h2 : ¬ (dFlush m).2 = 0) : ckS s d = (s, dFlush m) := by
  have h4 : ck4 s d = dFlush m := by
    unfold ck4 ck3 ck2; rw [h, dThen_go (s := (m, e)) (f := dFlush) he, dThen_no h2, dThen_no h2]
  unfold ckS; rw [h4, if_neg h2]
theorem ck_c (h : ck1 s d = (m, e)) (he : e = 0) (h2 : (dFlush m).2 = 0) (h3 : ¬ (dWrite (dFlush m).1 ((s.Epoch + 1) % 2) (headT (ckH s))).2 = 0) : ckS s d = (s, dWrite (dFlush m).1 ((s.Epoch + 1) % 2) (headT (ckH s))) := by
  have h4 : ck4 s d = dWrite (dFlush m).1 ((s.Epoch + 1) % 2) (headT (ckH s)) := by
    unfold ck4 ck3 ck2; rw [h, dThen_go (s := (m, e)) (f := dFlush) he, dThen_go h2, dThen_no h3]
  unfold ckS; rw [h4, if_neg h3]
theorem ck_d (h : ck1 s d = (m, e)) (he : e = 0) (h2 : (dFlush m).2 = 0) (h3 : (dWrite (dFlush m).1 ((s.Epoch + 1) % 2) (headT (ckH s))).2 = 0) (h5 : ¬ (dFlush (dWrite (dFlush m).1 ((s.Epoch + 1) % 2) (headT (ckH s))).1).2 = 0) :
    ckS s d = (s, dFlush (dWrite (dFlush m).1 ((s.Epoch + 1) % 2) (headT (ckH s))).1) := by
  have h4 : ck4 s d = dFlush (dWrite (dFlush m).1 ((s.Epoch + 1) % 2) (headT (ckH s))).1 := by
    unfold ck4 ck3 ck2; rw [h, dThen_go (s := (m, e)) (f := dFlush) he, dThen_go h2, dThen_go h3]
  unfold ckS; rw [h4, if_neg h5]
theorem ck_e (h : ck1 s d = (m, e)) (he : e = 0) (h2 : (dFlush m).2 = 0) (h3 : (dWrite (dFlush m).1 ((s.Epoch + 1) % 2) (headT (ckH s))).2 = 0) (h5 : (dFlush (dWrite (dFlush m).1 ((s.Epoch + 1) % 2) (headT (ckH s))).1).2 = 0) :
    ckS s d = (ckO s (dFlush (dWrite (dFlush m).1 ((s.Epoch + 1) % 2) (headT (ckH s))).1).1, (dFlush (dWrite (dFlush m).1 ((s.Epoch + 1) % 2) (headT (ckH s))).1).1, 0) := by
  have h4 : ck4 s d = dFlush (dWrite (dFlush m).1 ((s.Epoch + 1) % 2) (headT (ckH s))).1 := by
    unfold ck4 ck3 ck2; rw [h, dThen_go (s := (m, e)) (f := dFlush) he, dThen_go h2, dThen_go h3]
  unfold ckS; rw [h4, if_pos h5]
theorem flush_up (h : (dFlush d).2 = 0) : (dFlush d).1.Down = false := by
  unfold dFlush at h ⊢
  split
  · rename_i h0
    by_cases hd : d.Down = true
    · rw [dStep_down hd] at h0; cases h0
    · have hd' : d.Down = false := by simpa using hd
      by_cases hf : d.Fuse = 0
      · rw [dStep_blow hd' hf] at h0; cases h0
      · rw [dStep_go hd' hf]
  · rename_i h0
    rw [if_neg h0] at h; exact absurd h h0
end
section
variable {s : Sto} {d : Dsk} {l : List Change} {e : Int} {n m : Nat}
theorem chunkL_ok {f : Int} {t : ByteArray} : ∀ (k i : Nat) (d : Dsk) (m : Nat), DOk n m d → DOk n (m + k) (chunkL f t k i d).1
  | 0, i, d, m, h => h
  | k + 1, i, d, m, h => by
    rw [chunkL]
    split
    · split
      · have := chunkL_ok (f := f) (t := t) k (i + 1) _ (m + 1) (h.write (f + (i : Int)) (t.extract (i * 48) (i * 48 + min 48 (t.size - i * 48))))
        exact this.up (by omega)
      · exact (h.write _ _).up (by omega)
    · exact h.up (by omega)
theorem dThen_ok {x : Dsk × Int} {f : Dsk → Dsk × Int} {a b : Nat} (h : DOk n a x.1) (hab : a ≤ b) (hf : ∀ e, DOk n a e → DOk n b (f e).1) : DOk n b (dThen x f).1 := by
  unfold dThen; split
  · exact hf _ h
  · exact h.up hab
theorem ckS_ok (h : DOk n m d) (ht : (allB s.Rows).size ≤ 2400) : DOk n (m + 2500) (ckS s d).2.1 := by
  have h1 : DOk n (m + 2401) (ck1 s d).1 := (chunkL_ok _ 0 d m h).up (by omega)
  have h2 : DOk n (m + 2401) (ck2 s d).1 := dThen_ok h1 (Nat.le_refl _) fun e he => he.flush
  have h3 : DOk n (m + 2402) (ck3 s d).1 := dThen_ok h2 (by omega) fun e he => he.write _ _
  have h4 : DOk n (m + 2402) (ck4 s d).1 := dThen_ok h3 (Nat.le_refl _) fun e he => he.flush
  unfold ckS; split <;> exact h4.up (by omega)
theorem ckS_in (h : (ckS s d).2.2 = 0) : (ckS s d).1 = ckO s (ckS s d).2.1 := by
  unfold ckS at h ⊢
  split
  · rfl
  · rename_i h1; rw [if_neg h1] at h; exact absurd h h1
theorem ckS_rows : (ckS s d).1.Rows = s.Rows := by
  unfold ckS; split <;> rfl
end
section
variable {s : Sto} {d : Dsk} {l : List Change} {e : Int} {n m : Nat}
theorem com_a (h : 62 < l.length) : comS s d l = (s, d, 2) := by
  have hf : comF s d.Now.length l = 2 := by unfold comF; rw [if_pos h]
  unfold comS; rw [hf, if_pos (by decide)]
theorem com_b (h0 : ¬ 62 < l.length) (he : chFs l = e) (h : ¬ e = 0) : comS s d l = (s, d, e) := by
  have hf : comF s d.Now.length l = e := by unfold comF; rw [if_neg h0, if_pos (by rw [he]; exact h), he]
  unfold comS; rw [hf, if_pos h]
theorem com_c (h0 : ¬ 62 < l.length) (h1 : chFs l = 0) (h : 60 < (applyR s.Rows l).length ∨ (d.Now.length : Int) - 102 < (l.length : Int) + 1) : comS s d l = (s, d, 9) := by
  have hf : comF s d.Now.length l = 9 := by unfold comF; rw [if_neg h0, if_neg (by rw [h1]; decide), if_pos h]
  unfold comS; rw [hf, if_pos (by decide)]
theorem comF_0 (h0 : ¬ 62 < l.length) (h1 : chFs l = 0) (h : ¬ (60 < (applyR s.Rows l).length ∨ (d.Now.length : Int) - 102 < (l.length : Int) + 1)) : comF s d.Now.length l = 0 := by
  unfold comF; rw [if_neg h0, if_neg (by rw [h1]; decide), if_neg h]
theorem com_d (hf : comF s d.Now.length l = 0) (hr : s.L.Many - s.L.Next < (l.length : Int) + 1) (he : ¬ (ckS s d).2.2 = 0) : comS s d l = ckS s d := by
  have hp : comP s d l = ckS s d := if_pos hr
  unfold comS; rw [hf, if_neg (by decide), hp, if_pos he]
theorem com_e (hf : comF s d.Now.length l = 0) (hr : s.L.Many - s.L.Next < (l.length : Int) + 1) (he : (ckS s d).2.2 = 0) (ha : (addL (ckS s d).1.L (ckS s d).2.1 l).2.2 = 0) :
    comS s d l = (withL (ckS s d).1 (addL (ckS s d).1.L (ckS s d).2.1 l).1 (applyR s.Rows l), (addL (ckS s d).1.L (ckS s d).2.1 l).2.1, (addL (ckS s d).1.L (ckS s d).2.1 l).2.2) := by
  have hp : comP s d l = ckS s d := if_pos hr
  unfold comS; rw [hf, if_neg (by decide), hp, if_neg (by rw [he]; decide)]; unfold comA; rw [if_pos ha, ha]
theorem com_f (hf : comF s d.Now.length l = 0) (hr : s.L.Many - s.L.Next < (l.length : Int) + 1) (he : (ckS s d).2.2 = 0) (ha : ¬ (addL (ckS s d).1.L (ckS s d).2.1 l).2.2 = 0) :
    comS s d l = (withL (ckS s d).1 (addL (ckS s d).1.L (ckS s d).2.1 l).1 (ckS s d).1.Rows, (addL (ckS s d).1.L (ckS s d).2.1 l).2.1, (addL (ckS s d).1.L (ckS s d).2.1 l).2.2) := by
  have hp : comP s d l = ckS s d := if_pos hr
  unfold comS; rw [hf, if_neg (by decide), hp, if_neg (by rw [he]; decide)]; unfold comA; rw [if_neg ha]
theorem com_g (hf : comF s d.Now.length l = 0) (hr : ¬ s.L.Many - s.L.Next < (l.length : Int) + 1) (ha : (addL s.L d l).2.2 = 0) :
    comS s d l = (withL s (addL s.L d l).1 (applyR s.Rows l), (addL s.L d l).2.1, (addL s.L d l).2.2) := by
  have hp : comP s d l = (s, d, 0) := if_neg hr
  unfold comS; rw [hf, if_neg (by decide), hp, if_neg (fun hh => hh rfl)]; unfold comA; rw [if_pos ha, ha]
theorem com_h (hf : comF s d.Now.length l = 0) (hr : ¬ s.L.Many - s.L.Next < (l.length : Int) + 1) (ha : ¬ (addL s.L d l).2.2 = 0) :
    comS s d l = (withL s (addL s.L d l).1 s.Rows, (addL s.L d l).2.1, (addL s.L d l).2.2) := by
  have hp : comP s d l = (s, d, 0) := if_neg hr
  unfold comS; rw [hf, if_neg (by decide), hp, if_neg (fun hh => hh rfl)]; unfold comA; rw [if_neg ha]
end
section
variable {d m : Dsk} {e : Int}
theorem fmt_small (h : d.Now.length < 166) : fmtD d = (d, 9) := if_pos h
theorem fmt_a (h0 : ¬ d.Now.length < 166) (h : fmt1 d = (m, e)) (he : ¬ e = 0) : fmtD d = (m, e) := by
  unfold fmtD; rw [if_neg h0]; unfold fmt4 fmt3 fmt2; rw [h]
  rw [dThen_no (s := (m, e)) (f := dFlush) he, dThen_no (s := (m, e)) he, dThen_no (s := (m, e)) he]
theorem fmt_b (h0 : ¬ d.Now.length < 166) (h : fmt1 d = (m, e)) (he : e = 0) (h2 : ¬ (dFlush m).2 = 0) : fmtD d = dFlush m := by
  unfold fmtD; rw [if_neg h0]; unfold fmt4 fmt3 fmt2; rw [h]
  rw [dThen_go (s := (m, e)) (f := dFlush) he, dThen_no h2, dThen_no h2]
theorem fmt_c (h0 : ¬ d.Now.length < 166) (h : fmt1 d = (m, e)) (he : e = 0) (h2 : (dFlush m).2 = 0) (h3 : ¬ (dWrite (dFlush m).1 1 (headT ⟨1, 0, 0, 1⟩)).2 = 0) : fmtD d = dWrite (dFlush m).1 1 (headT ⟨1, 0, 0, 1⟩) := by
  unfold fmtD; rw [if_neg h0]; unfold fmt4 fmt3 fmt2; rw [h]
  rw [dThen_go (s := (m, e)) (f := dFlush) he, dThen_go h2, dThen_no h3]
theorem fmt_d (h0 : ¬ d.Now.length < 166) (h : fmt1 d = (m, e)) (he : e = 0) (h2 : (dFlush m).2 = 0) (h3 : (dWrite (dFlush m).1 1 (headT ⟨1, 0, 0, 1⟩)).2 = 0) : fmtD d = dFlush (dWrite (dFlush m).1 1 (headT ⟨1, 0, 0, 1⟩)).1 := by
  unfold fmtD; rw [if_neg h0]; unfold fmt4 fmt3 fmt2; rw [h]
  rw [dThen_go (s := (m, e)) (f := dFlush) he, dThen_go h2, dThen_go h3]
end
theorem fmt_go {d m : Dsk} {e : Int} (h0 : ¬ d.Now.length < 166) (h : fmt1 d = (m, e)) (he : e = 0) (h2 : (dFlush m).2 = 0) (h3 : (dWrite (dFlush m).1 1 (headT ⟨1, 0, 0, 1⟩)).2 = 0) : fmtD d = dFlush (dWrite (dFlush m).1 1 (headT ⟨1, 0, 0, 1⟩)).1 := fmt_d h0 h he h2 h3
end Go.Proofs.Ytpipachmngdegaa
end
