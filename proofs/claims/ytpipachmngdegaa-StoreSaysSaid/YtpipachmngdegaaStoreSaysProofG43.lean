import Derived.Test.YtpipachmngdegaaStoreSaysProofG42
import Derived.Test.YtpipachmngdegaaStoreSaysProofG30
section
/-
  All is laid as a whole; a deed is committed; on a disk that may fall. No program.
-/
namespace Go.Proofs.Ytpipachmngdegaa
open Go Go.RowKit
set_option linter.unusedVariables false

section
variable {n u t : Nat} {st : Sto} {d e : Dsk}
theorem rest_of {m : Nat} (h : DOk n m e) (hd : e.Down = false) (hk : e.Kept = e.Now) (hw : e.Wait = []) : Rest n e :=
  ⟨⟨h.kl, h.nl, h.ks, h.ns, by rw [hw]; simp, h.wat, h.f0, h.f1⟩, hd, h.f0, hk, hw⟩
theorem layT_nil (z : Int) (l : List ByteArray) : layT z [] l = l := rfl
theorem layT_one (z : Int) (x : Turn) (l : List ByteArray) : layT z [x] l = l ∨ layT z [x] l = l.set x.At.toNat x.Data := by
  show lay1 z l (x, 0) = l ∨ lay1 z l (x, 0) = _
  unfold lay1; dsimp only; split
  · exact .inr rfl
  · exact .inl rfl
theorem opn_zero {m : Nat} (hO : DOk n m e) (hd : e.Down = false) {first : Int} (h : LogIs (e.Now.drop 102) first [] 0) (hn : 166 ≤ n) : opnU e 102 ((e.Now.length : Int) - 102).toNat first = 0 := by
  have hl := hO.nl
  have hreg : regS e 102 ((e.Now.length : Int) - 102).toNat = e.Now.drop 102 := by
    have := regS_live (d := e) (f := 102) (k := e.Now.length - 102) hd (by omega)
    rw [show ((102 : Nat) : Int) = 102 from rfl] at this
    rw [show ((e.Now.length : Int) - 102).toNat = e.Now.length - 102 by omega, this, List.take_of_length_le (by rw [List.length_drop]; omega)]
  unfold opnU; rw [hreg, h.sc]
theorem ckpt_law (h : SV n d st u t) (ht : t ≤ 9999) :
    (∃ e st', ckS st d = (st', e, 0) ∧ SV n e st' 0 (t + 1) ∧ st'.Rows = st.Rows ∧ (d.Fuse = -1 → e.Fuse = -1)) ∨
    (∃ e, ckS st d = (st, e, 10) ∧ ¬ d.Fuse = -1 ∧ DOk n 3000 e ∧ ∀ z, ∃ st' u', SV n (dRestart e z) st' u' (t + 1) ∧ st'.Rows = st.Rows) := by
  have hR := h.rest; have hS := h.sn
  have h3 := hS.sd; have h4 := hS.rows.size; have h5 := hS.nb; have h6 := hS.len; have h1 := hS.eb; have h2 := hS.fb
  have hck := ckS_ok (s := st) hR.ok (by omega)
  have hkn := hR.kn; have hwt := hR.wait
  have hM : st.L.Many = (n : Int) - 102 := by rw [hS.lg]
  have hFi : st.L.First = st.First := by rw [hS.lg]
  obtain ⟨f, hf⟩ : ∃ f : Nat, f = 2 + ((1 - st.Side) * 50).toNat := ⟨_, rfl⟩
  have hfi : (2 : Int) + (1 - st.Side) * 50 = (f : Int) := by omega
  have hb : ck1 st d = chunkL (f : Int) (allB st.Rows) ((allB st.Rows).size + 1) 0 d := by unfold ck1; rw [hfi]
  have old : ∀ e : Dsk, DOk n 3000 e → e.Kept = d.Now → (∀ x ∈ e.Wait, (f : Int) ≤ x.At ∧ x.At < (f : Int) + 50) → ∀ z, ∃ st' u', SV n (dRestart e z) st' u' (t + 1) ∧ st'.Rows = st.Rows := fun e hO hk hw z =>
    ⟨st, u, ⟨(h.fell hO hk f hf hw z).rest, (h.fell hO hk f hf hw z).sn.up (Nat.le_succ t)⟩, rfl⟩
  rcases chunk_arm (f := f) (x := allB st.Rows) (by omega) ((allB st.Rows).size + 1) 0 d hR.down hR.fuse (by omega) (by omega) with ⟨g, N, T, q1, q0, q2, q3, q4, q5, q6⟩ | ⟨e, q0, q1, q2, T, q3, q4⟩
  rotate_left
  · right
    have hc := ck_a (s := st) (d := d) (m := e) (e := 10) (hb.trans q1) (by decide)
    rw [hc] at hck
    exact ⟨e, hc, q0, hck.up (by omega), old e (hck.up (by omega)) (q2.trans hkn) (by rw [q3, hwt, List.nil_append]; exact q4)⟩
  have hm := hb.trans q2
  rw [hwt, List.nil_append] at hm
  rcases dFlush_arm2 (d := ⟨d.Kept, N, T, g, false⟩) rfl q1 with ⟨g2, q7, q8, q9⟩ | ⟨q8, q9⟩
  rotate_left
  · right
    have hc := ck_b hm rfl (by rw [q9]; exact ten_ne)
    rw [q9] at hc
    rw [hc] at hck
    exact ⟨_, hc, fun hq => q8 (q0 hq), hck.up (by omega), old _ (hck.up (by omega)) hkn q3⟩
  -- the half stands
  have hN : SN n N st u t := hS.same q4 fun j hj => q5 j (by omega)
  have hH : HalfIs N f (allB st.Rows) := fun k hk => q6 k (Nat.zero_le _) hk
  have hm2 : DOk n 2450 (⟨N, N, [], g2, false⟩ : Dsk) := by
    have := (chunkL_ok (f := (f : Int)) (t := allB st.Rows) ((allB st.Rows).size + 1) 0 d 0 hR.ok).flush
    rw [q2, hwt, List.nil_append, q9] at this
    exact this.up (by omega)
  have hSV2 : SV n (⟨N, N, [], g2, false⟩ : Dsk) st u t := ⟨rest_of hm2 rfl rfl rfl, hN⟩
  have hslot : 0 ≤ (st.Epoch + 1) % 2 ∧ (st.Epoch + 1) % 2 < 2 := ⟨by omega, by omega⟩
  have hcs : (headT (ckH st)).size ≤ 48 := by rw [headT_size]; decide
  rcases dWrite_arm2 (d := ⟨N, N, [], g2, false⟩) (i := (st.Epoch + 1) % 2) (x := headT (ckH st)) rfl q7 hslot.1 (by dsimp only; omega) hcs with ⟨g3, q10, q11, q12⟩ | ⟨q11, q12⟩
  rotate_left
  · right
    have hc := ck_c hm rfl (by rw [q9]) (by rw [q9, q12]; exact ten_ne)
    rw [q9] at hc; dsimp only at hc; rw [q12] at hc
    rw [hc] at hck
    refine ⟨_, hc, fun hq => q11 (q8 (q0 hq)), hck.up (by omega), fun z => ⟨st, u, ⟨rest_again hck z, ?_⟩, rfl⟩⟩
    exact hN.up (Nat.le_succ t)
  have hflip : ∀ L, L = (⟨102, (n : Int) - 102, st.First + ((n : Int) - 102), 0⟩ : Lg) → SN n (N.set ((st.Epoch + 1) % 2).toNat (full (headT (ckH st)))) ⟨st.Epoch + 1, 1 - st.Side, ((allB st.Rows).size : Int), st.First + ((n : Int) - 102), L, st.Rows⟩ 0 (t + 1) := fun L hL =>
    hN.flip ht (hf ▸ hH) rfl L hL
  dsimp only at q12
  rw [List.nil_append] at q12
  rcases dFlush_arm2 (d := ⟨N, N.set ((st.Epoch + 1) % 2).toNat (full (headT (ckH st))), [⟨(st.Epoch + 1) % 2, full (headT (ckH st))⟩], g3, false⟩) rfl q10 with ⟨g4, q13, q14, q15⟩ | ⟨q14, q15⟩
  · left
    have hc := ck_e hm rfl (by rw [q9]) (by rw [q9]; dsimp only; rw [q12]) (by rw [q9]; dsimp only; rw [q12, q15])
    rw [q9] at hc; dsimp only at hc; rw [q12] at hc; dsimp only at hc; rw [q15] at hc; dsimp only at hc
    rw [hc] at hck
    have hOk : DOk n 2500 (⟨N.set ((st.Epoch + 1) % 2).toNat (full (headT (ckH st))), N.set ((st.Epoch + 1) % 2).toNat (full (headT (ckH st))), [], g4, false⟩ : Dsk) := hck.up (by omega)
    have hx := hflip _ rfl
    obtain ⟨b, W, hb1, hb2, hb3, hb4, hb5⟩ := hx.base
    have hlog : LogIs ((N.set ((st.Epoch + 1) % 2).toNat (full (headT (ckH st)))).drop 102) (st.First + ((n : Int) - 102)) [] 0 := by
      obtain ⟨b', W', _, _, _, hl', _⟩ := hN.base
      have hdl : (N.drop 102).length = n - 102 := by rw [List.length_drop, q4, h6]
      have hx := hl'.next (by omega) (by rw [hdl]; omega)
      rw [hdl] at hx
      rw [List.drop_set_of_lt (by omega), show st.First + ((n : Int) - 102) = st.First + ((n - 102 : Nat) : Int) by omega]
      exact hx
    have hu := opn_zero hOk rfl hlog h5.1
    have hlen : ((N.set ((st.Epoch + 1) % 2).toNat (full (headT (ckH st)))).length : Int) = (n : Int) := by rw [List.length_set, q4, h6]
    refine ⟨_, _, hc, ⟨rest_of hOk rfl rfl rfl, ?_⟩, rfl, fun hq => q14 (q11 (q8 (q0 hq)))⟩
    unfold ckO
    dsimp only at hu ⊢
    rw [hlen] at hu
    rw [hFi, hM, hlen]
    exact hflip _ (by rw [hu]; rfl)
  · right
    have hc := ck_d hm rfl (by rw [q9]) (by rw [q9]; dsimp only; rw [q12]) (by rw [q9]; dsimp only; rw [q12, q15]; exact ten_ne)
    rw [q9] at hc; dsimp only at hc; rw [q12] at hc; dsimp only at hc; rw [q15] at hc
    rw [hc] at hck
    refine ⟨_, hc, fun hq => q14 (q11 (q8 (q0 hq))), hck.up (by omega), fun z => ?_⟩
    rcases layT_one z (⟨(st.Epoch + 1) % 2, full (headT (ckH st))⟩ : Turn) N with hz | hz
    · refine ⟨st, u, ⟨rest_again hck z, ?_⟩, rfl⟩
      show SN n (layT z _ N) st u (t + 1)
      rw [hz]; exact hN.up (Nat.le_succ t)
    · refine ⟨(⟨st.Epoch + 1, 1 - st.Side, ((allB st.Rows).size : Int), st.First + ((n : Int) - 102), ⟨102, (n : Int) - 102, st.First + ((n : Int) - 102), 0⟩, st.Rows⟩ : Sto), 0, ⟨rest_again hck z, ?_⟩, rfl⟩
      show SN n (layT z _ N) _ 0 (t + 1)
      rw [hz]; exact hflip _ rfl
end
end Go.Proofs.Ytpipachmngdegaa
end
