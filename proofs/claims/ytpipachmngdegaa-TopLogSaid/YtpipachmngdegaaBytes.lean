/-
  Numbers as bytes, in a block that is filled with them.
-/
import Derived.Test.YtpipachmngdegaaR9
namespace Go.Proofs.Ytpipachmngdegaa
open Go Go.RowKit
set_option linter.unusedVariables false

def u8 (n : Int) : UInt8 := UInt8.ofNat n.toNat
theorem u8_toNat {n : Int} (h : 0 ≤ n ∧ n ≤ 255) : (((u8 n).toNat : Nat) : Int) = n := by
  unfold u8; rw [UInt8.toNat_ofNat']; omega
theorem u8n_toNat {n : Nat} (h : n ≤ 255) : (UInt8.ofNat n).toNat = n := by
  rw [UInt8.toNat_ofNat']; omega
theorem u8_cell {n : Int} (h : 0 ≤ n ∧ n ≤ 255) : (Value.int .u8 n).cells.toList = Enc.cells (u8 n) := by
  show [Value.int .u8 n] = [Value.int .u8 (((u8 n).toNat : Nat) : Int)]
  rw [u8_toNat h]
theorem u8n_cell {n : Nat} (h : n ≤ 255) : (Value.int .u8 ((n : Nat) : Int)).cells.toList = Enc.cells (UInt8.ofNat n) := by
  show [Value.int .u8 (n : Int)] = [Value.int .u8 (((UInt8.ofNat n).toNat : Nat) : Int)]
  rw [u8n_toNat h]
theorem lit_size (l : List UInt8) : (⟨l.toArray⟩ : ByteArray).size = l.length := by simp [ByteArray.size]
section
variable {α : Type} [Enc α]
theorem cl_nil : ([] : List Value).map (fun v => v.cells.toList) = ([] : List α).map Enc.cells := rfl
theorem cl_cons {v : Value} {x : α} {vs : List Value} {l : List α} (h : v.cells.toList = Enc.cells x) (hs : vs.map (fun v => v.cells.toList) = l.map Enc.cells) :
    (v :: vs).map (fun v => v.cells.toList) = (x :: l).map Enc.cells := by
  rw [List.map_cons, List.map_cons, h, hs]
end
end Go.Proofs.Ytpipachmngdegaa
