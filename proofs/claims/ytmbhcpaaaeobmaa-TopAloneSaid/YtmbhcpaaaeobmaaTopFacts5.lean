/-
  The laws of the realm in plain words: who is not given anything gets nothing. No program.
-/
import Derived.Test.YtmbhcpaaaeobmaaTopFacts2
namespace Go.Proofs.Ytmbhcpaaaeobmaa
set_option linter.unusedVariables false
section
variable {r : Realm}
abbrev sMake : ByteArray := ⟨#[109, 97, 107, 101]⟩
abbrev sGive : ByteArray := ⟨#[103, 105, 118, 101]⟩
abbrev sMove : ByteArray := ⟨#[109, 111, 118, 101]⟩
abbrev sDrop : ByteArray := ⟨#[100, 114, 111, 112]⟩
abbrev sRevoke : ByteArray := ⟨#[114, 101, 118, 111, 107, 101]⟩
abbrev sTake : ByteArray := ⟨#[116, 97, 107, 101]⟩
/-- what may be another one at a place, behind an act -/
def Alone (r x : Realm) (a : Deed) (p : Place) : Prop :=
  atH x.Held p = atH r.Held p ∨
  atH x.Held p = 0 ∧ (a.Kind = sDrop ∨ a.Kind = sRevoke ∨ a.Kind = sMove ∧ p = a.P) ∨
  ¬ atH x.Held p = 0 ∧ atH r.Held p = 0 ∧ (a.Kind = sGive ∧ p = a.Q ∨ a.Kind = sMake ∧ p = a.P ∨ a.Kind = sMove ∧ p.Holder = a.P.Holder ∨ a.Kind = sTake ∧ p.Holder = a.P.Holder)
theorem alone_sub (h : Inv r) {x : Realm} (hx : Inv x) {a : Deed} (hk : a.Kind = sDrop ∨ a.Kind = sRevoke) (hs : ∀ y ∈ x.Held, y ∈ r.Held) (p : Place) : Alone r x a p := by
  by_cases h0 : atH x.Held p = 0
  · exact .inr (.inl ⟨h0, hk.imp id .inl⟩)
  · exact .inl (mem_at h.good (hs _ (at_mem hx.good rfl h0))).symm
theorem alone_law (h : Inv r) {a : Deed} (hm : (doR r a).2 = 0) (p : Place) : Alone r (doR r a).1 a p := by
  have hx := h.do hm
  unfold doR at hm hx ⊢
  by_cases h1 : a.Kind = (⟨#[109, 97, 107, 101]⟩ : ByteArray)
  · rw [if_pos h1] at hm ⊢
    obtain ⟨_, hf, _, _, _, he⟩ := make_parts hm
    obtain ⟨hp, ha⟩ := free_zero hf
    rw [he (by have := placeFault_zero hp; omega)]
    by_cases e : p = a.P
    · subst e
      have := put_at (id := r.NextWrit) h.good hp
      have n1 := h.nw1
      exact .inr (.inr ⟨by dsimp only; omega, ha, .inr (.inl ⟨h1, rfl⟩)⟩)
    · exact .inl (put_other h.good hp e)
  · rw [if_neg h1] at hm hx ⊢
    by_cases h2 : a.Kind = (⟨#[103, 105, 118, 101]⟩ : ByteArray)
    · rw [if_pos h2] at hm ⊢
      obtain ⟨hg, hf, _, hw, hd, he⟩ := give_parts hm
      obtain ⟨hp, ha⟩ := free_zero hf
      rw [he (by have := placeFault_zero hp; omega)]
      have hid := (h.derive (h.get hg).2.1 hw hd).2.1
      by_cases e : p = a.Q
      · subst e
        have := put_at (id := (derived (getR r a.P).1 r.NextWrit a.A a.B).1.ID) h.good hp
        have n1 := h.nw1
        exact .inr (.inr ⟨by dsimp only; omega, ha, .inl ⟨h2, rfl⟩⟩)
      · exact .inl (put_other h.good hp e)
    · rw [if_neg h2] at hm hx ⊢
      by_cases h3 : a.Kind = (⟨#[109, 111, 118, 101]⟩ : ByteArray)
      · rw [if_pos h3] at hm ⊢
        obtain ⟨hg, hf, he⟩ := move_parts hm
        obtain ⟨hp, ha⟩ := free_zero hf
        obtain ⟨hpf, hgm, hat, hid, _⟩ := h.get hg
        rw [he]
        have hg1 : Good (putH r.Held a.P 0) := good_put h.good hpf
        have hne : ¬ (⟨a.P.Holder, a.A⟩ : Place) = a.P := fun e => by rw [e] at ha; omega
        by_cases e : p = ⟨a.P.Holder, a.A⟩
        · subst e
          have := put_at (id := (getR r a.P).1.ID) hg1 hp
          exact .inr (.inr ⟨by dsimp only; omega, ha, .inr (.inr (.inl ⟨h3, rfl⟩))⟩)
        · have e1 := put_other (id := (getR r a.P).1.ID) hg1 hp e
          by_cases e2 : p = a.P
          · have e3 := put_at (id := 0) h.good hpf
            refine .inr (.inl ⟨?_, .inr (.inr ⟨h3, e2⟩)⟩)
            show atH (putH (putH r.Held a.P 0) ⟨a.P.Holder, a.A⟩ (getR r a.P).1.ID) p = 0
            rw [e1, e2]; exact e3
          · refine .inl ?_
            show atH (putH (putH r.Held a.P 0) ⟨a.P.Holder, a.A⟩ (getR r a.P).1.ID) p = _
            rw [e1, put_other h.good hpf e2]
      · rw [if_neg h3] at hm hx ⊢
        by_cases h4 : a.Kind = (⟨#[100, 114, 111, 112]⟩ : ByteArray)
        · rw [if_pos h4] at hm hx ⊢
          refine alone_sub h hx (.inl h4) (fun y hy => ?_) p
          rw [(drop_parts hm).2] at hy
          exact (sweep_sub ⟨without r.Writs (getR r a.P).1.ID, r.Things, r.Held, r.Notes, r.NextWrit, r.NextThing⟩).1 y hy
        · rw [if_neg h4] at hm hx ⊢
          by_cases h5 : a.Kind = (⟨#[114, 101, 118, 111, 107, 101]⟩ : ByteArray)
          · rw [if_pos h5] at hm hx ⊢
            refine alone_sub h hx (.inr h5) (fun y hy => ?_) p
            rw [(revoke_parts hm).2] at hy
            exact (sweep_sub ⟨cutW r.Writs (getR r a.P).1.ID, r.Things, r.Held, r.Notes, r.NextWrit, r.NextThing⟩).1 y hy
          · rw [if_neg h5] at hm hx ⊢
            by_cases h6 : a.Kind = (⟨#[119, 114, 105, 116, 101]⟩ : ByteArray)
            · rw [if_pos h6] at hm ⊢; rw [(write_parts hm).2.2]; exact .inl rfl
            · rw [if_neg h6] at hm hx ⊢
              by_cases h7 : a.Kind = (⟨#[115, 101, 110, 100]⟩ : ByteArray)
              · rw [if_pos h7] at hm ⊢
                rcases (send_parts hm).2.2.2 with ⟨_, he⟩ | ⟨_, _, _, _, _, he⟩ <;> (rw [he]; exact .inl rfl)
              · rw [if_neg h7] at hm hx ⊢
                by_cases h8 : a.Kind = (⟨#[116, 97, 107, 101]⟩ : ByteArray)
                · rw [if_pos h8] at hm ⊢
                  obtain ⟨hy, i, n, hn, _, _, _, hc⟩ := take_parts hm
                  obtain ⟨hg, _⟩ := may_parts hy
                  obtain ⟨hpf, _⟩ := h.get hg
                  rcases hc with ⟨h0, hf, _, he⟩ | ⟨_, _, he⟩
                  · dsimp only
                    rw [he]
                    obtain ⟨hk5, ha⟩ := free_at hf
                    have hq := fault_same hpf hf hk5
                    by_cases e : p = ⟨a.P.Holder, freeH r.Held a.P.Holder⟩
                    · subst e
                      have := put_at (id := n.Writ) h.good hq
                      exact .inr (.inr ⟨by dsimp only; omega, ha, .inr (.inr (.inr ⟨h8, rfl⟩))⟩)
                    · exact .inl (put_other h.good hq e)
                  · dsimp only; rw [he]; exact .inl rfl
                · rw [if_neg h8]; exact .inl rfl
end
end Go.Proofs.Ytmbhcpaaaeobmaa
