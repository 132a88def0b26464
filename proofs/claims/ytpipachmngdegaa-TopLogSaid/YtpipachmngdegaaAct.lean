/-
  An act of the laws as plain data (its changes lie in a slice of their own), and what is told of it.
-/
import Derived.Test.YtpipachmngdegaaR9
namespace Go.Proofs.Ytpipachmngdegaa
open Go Go.RowKit
set_option linter.unusedVariables false

structure Deed where
  Kind : ByteArray
  S : ByteArray
  P : Place
  Q : Place
  A : Int
  B : Int
  N : Int
  K : Int
  ca : Option Addr
  cn : Nat
  cc : Nat
  Changes : List Change
abbrev Deed.cv (x : Deed) : Value := .slice x.ca x.cn x.cc
abbrev Deed.cs (x : Deed) : List Value := [.string x.Kind, .string x.S, .int .i64 x.P.Holder, .int .i64 x.P.Slot, .int .i64 x.Q.Holder, .int .i64 x.Q.Slot, .int .i64 x.A, .int .i64 x.B, .int .i64 x.N, .int .u64 x.K, x.cv]
abbrev Deed.val (x : Deed) : Value := .agg #[.string x.Kind, .string x.S, .int .i64 x.P.Holder, .int .i64 x.P.Slot, .int .i64 x.Q.Holder, .int .i64 x.Q.Slot, .int .i64 x.A, .int .i64 x.B, .int .i64 x.N, .int .u64 x.K, x.cv]
instance : Enc Deed := ⟨11, Deed.cs, fun _ => rfl, fun x u hu => by simp [Deed.cs] at hu; rcases hu with rfl | rfl | rfl | rfl | rfl | rfl | rfl | rfl | rfl | rfl | rfl <;> rfl, by decide⟩

/-- the changes of all acts read as what they are -/
def Res.acts (l : List Deed) : Res := ⟨l.flatMap (fun x => (Res.ls x.cv x.Changes).blk), fun w => ∀ x ∈ l, Sl w x.cv x.Changes, fun w w' h hs x hx => (Res.ls x.cv x.Changes).loc w w' (fun k hk => h k (List.mem_flatMap.2 ⟨x, hx, hk⟩)) (hs x hx)⟩
theorem acts_lt {w : World} {l : List Deed} (h : ∀ x ∈ l, Sl w x.cv x.Changes) : ∀ k ∈ (Res.acts l).blk, k < w.heap.size := fun k hk => by
  obtain ⟨x, hx, hk⟩ := List.mem_flatMap.1 hk
  exact ls_lt (h x hx) k hk
theorem acts_one {w : World} {x : Deed} (h : Sl w x.cv x.Changes) : ∀ y ∈ [x], Sl w y.cv y.Changes := fun y hy => by
  rw [List.mem_singleton.1 hy]; exact h
theorem Wd.acts {we w : World} {X : List Nat} {B F : List Res} {l : List Deed} (i : Nat) (h : F[i]? = some (Res.acts l)) (hw : Wd we X B F w) : ∀ x ∈ l, Sl w x.cv x.Changes := hw.f i h
theorem Wd.actX {we w : World} {X : List Nat} {B F : List Res} {l : List Deed} {x : Deed} (i : Nat) (h : F[i]? = some (Res.acts l)) (hx : x ∈ l) (hw : Wd we X B F w) : Sl w x.cv x.Changes := hw.f i h x hx
theorem act_blk {l : List Deed} {x : Deed} (hx : x ∈ l) : ∀ k ∈ (Res.ls x.cv x.Changes).blk, k ∈ (Res.acts l).blk := fun k hk => List.mem_flatMap.2 ⟨x, hx, hk⟩
end Go.Proofs.Ytpipachmngdegaa
