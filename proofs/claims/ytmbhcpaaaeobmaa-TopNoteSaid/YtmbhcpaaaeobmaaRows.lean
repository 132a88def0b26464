/-
  No cell of these rows narrows 'for every input' (looked for: loops, veiled, ifaces, maps, wideKeys, modest, calm, conditions, laid).
  DERIVED. THE GIVEN ROWS OF THIS SEAT. 11 by the template 'for every input the law returns true; each argument reads behind the call as it read before'; 0 by the template 'total and deterministic' (their statements: YtmbhcpaaaeobmaaTotals.lean).
  GIVEN WITH THE SEED: the statements are not yours to turn. If you find one false, say at which input.
  Laid BY PROGRAM, IN A SANDBOX (cutbox-rows.mjs): the forced cells as the released guide's own fill.sh prints them over the translation 7bac4088caa641bb… (all of the seat's roots in one cut). By AI agents, Wed Nov 11 2026. No macro, syntax, notation, axiom, sorry.
-/
import Derived.Test.YtmbhcpaaaeobmaaChecked
import GoSem.Claim
import GoSem.ClaimJoined
import GoSem.ClaimMapViews
import Derived.JoinedTies
import Derived.KernelRfl
namespace Go.Proofs.Ytmbhcpaaaeobmaa
/- THE CELL 'sum', in the pinned program and in every row, IS THE sha256 OF THE DUMP (.gsa) THAT YtmbhcpaaaeobmaaProg.lean LOADS. Nothing in Lean hashes anything: it is a label: what it is worth is what the hold of that sum in a sandbox is worth. -/
noncomputable def Try.pinned : Pinned := { name := "ytmbhcpaaaeobmaa", sum := "7bac4088caa641bbab6ee2c9ec6e2085212d1654de4cd5ffd330c2ac5d4dfb25", checked := Try.checked }
namespace Rows
def none {H : Type} : Left H := { results := [], args := [] }

/-- 'writkeeptop.TopOnce': WHATEVER THE INPUT: true; the input reads as it did. -/
def topOnceSpec : ChangeSpec := { name := "topOnce", fn := fun _ => fun
  | [d] => { results := [.lit (.bool true)], args := [d] }
  | _ => none }
def topOnceRow : OpenClaim := { program := "ytmbhcpaaaeobmaa", sum := "7bac4088caa641bbab6ee2c9ec6e2085212d1654de4cd5ffd330c2ac5d4dfb25", func := "writkeep/writkeeptop.TopOnce", spec := "topOnce", inPlace := ["slices.overlaps[writkeep/api.Held]"], unfollowed := true, recurses := true, apart := false }
def TopOnceSaid : Prop := topOnceRow.holds Try.pinned (OpenSpec.ofChange topOnceSpec)

/-- ITS FALSE NEIGHBOUR: 'it returns false'. Refute it at one input. -/
def topOnceWrong : ChangeSpec := { name := "topOnce", fn := fun _ => fun
  | [d] => { results := [.lit (.bool false)], args := [d] }
  | _ => none }
def TopOnceWrongFalsely : Prop := topOnceRow.holds Try.pinned (OpenSpec.ofChange topOnceWrong)

/-- 'writkeeptop.TopAlive': WHATEVER THE INPUT: true; the input reads as it did. -/
def topAliveSpec : ChangeSpec := { name := "topAlive", fn := fun _ => fun
  | [d] => { results := [.lit (.bool true)], args := [d] }
  | _ => none }
def topAliveRow : OpenClaim := { program := "ytmbhcpaaaeobmaa", sum := "7bac4088caa641bbab6ee2c9ec6e2085212d1654de4cd5ffd330c2ac5d4dfb25", func := "writkeep/writkeeptop.TopAlive", spec := "topAlive", inPlace := ["slices.overlaps[writkeep/api.Held]"], unfollowed := true, recurses := true, apart := false }
def TopAliveSaid : Prop := topAliveRow.holds Try.pinned (OpenSpec.ofChange topAliveSpec)

/-- ITS FALSE NEIGHBOUR: 'it returns false'. Refute it at one input. -/
def topAliveWrong : ChangeSpec := { name := "topAlive", fn := fun _ => fun
  | [d] => { results := [.lit (.bool false)], args := [d] }
  | _ => none }
def TopAliveWrongFalsely : Prop := topAliveRow.holds Try.pinned (OpenSpec.ofChange topAliveWrong)

/-- 'writkeeptop.TopDrop': WHATEVER THE INPUT: true; the input reads as it did. -/
def topDropSpec : ChangeSpec := { name := "topDrop", fn := fun _ => fun
  | [d1, d2] => { results := [.lit (.bool true)], args := [d1, d2] }
  | _ => none }
def topDropRow : OpenClaim := { program := "ytmbhcpaaaeobmaa", sum := "7bac4088caa641bbab6ee2c9ec6e2085212d1654de4cd5ffd330c2ac5d4dfb25", func := "writkeep/writkeeptop.TopDrop", spec := "topDrop", inPlace := ["slices.overlaps[writkeep/api.Held]"], unfollowed := true, recurses := true, apart := false }
def TopDropSaid : Prop := topDropRow.holds Try.pinned (OpenSpec.ofChange topDropSpec)

/-- ITS FALSE NEIGHBOUR: 'it returns false'. Refute it at one input. -/
def topDropWrong : ChangeSpec := { name := "topDrop", fn := fun _ => fun
  | [d1, d2] => { results := [.lit (.bool false)], args := [d1, d2] }
  | _ => none }
def TopDropWrongFalsely : Prop := topDropRow.holds Try.pinned (OpenSpec.ofChange topDropWrong)

/-- 'writkeeptop.TopAlone': WHATEVER THE INPUT: true; the input reads as it did. -/
def topAloneSpec : ChangeSpec := { name := "topAlone", fn := fun _ => fun
  | [d1, d2, d3] => { results := [.lit (.bool true)], args := [d1, d2, d3] }
  | _ => none }
def topAloneRow : OpenClaim := { program := "ytmbhcpaaaeobmaa", sum := "7bac4088caa641bbab6ee2c9ec6e2085212d1654de4cd5ffd330c2ac5d4dfb25", func := "writkeep/writkeeptop.TopAlone", spec := "topAlone", inPlace := ["slices.overlaps[writkeep/api.Held]"], unfollowed := true, recurses := true, apart := false }
def TopAloneSaid : Prop := topAloneRow.holds Try.pinned (OpenSpec.ofChange topAloneSpec)

/-- ITS FALSE NEIGHBOUR: 'it returns false'. Refute it at one input. -/
def topAloneWrong : ChangeSpec := { name := "topAlone", fn := fun _ => fun
  | [d1, d2, d3] => { results := [.lit (.bool false)], args := [d1, d2, d3] }
  | _ => none }
def TopAloneWrongFalsely : Prop := topAloneRow.holds Try.pinned (OpenSpec.ofChange topAloneWrong)

/-- 'writkeeptop.TopGrant': WHATEVER THE INPUT: true; the input reads as it did. -/
def topGrantSpec : ChangeSpec := { name := "topGrant", fn := fun _ => fun
  | [d1, d2, d3, d4, d5] => { results := [.lit (.bool true)], args := [d1, d2, d3, d4, d5] }
  | _ => none }
def topGrantRow : OpenClaim := { program := "ytmbhcpaaaeobmaa", sum := "7bac4088caa641bbab6ee2c9ec6e2085212d1654de4cd5ffd330c2ac5d4dfb25", func := "writkeep/writkeeptop.TopGrant", spec := "topGrant", inPlace := ["slices.overlaps[writkeep/api.Held]"], unfollowed := true, recurses := true, apart := false }
def TopGrantSaid : Prop := topGrantRow.holds Try.pinned (OpenSpec.ofChange topGrantSpec)

/-- ITS FALSE NEIGHBOUR: 'it returns false'. Refute it at one input. -/
def topGrantWrong : ChangeSpec := { name := "topGrant", fn := fun _ => fun
  | [d1, d2, d3, d4, d5] => { results := [.lit (.bool false)], args := [d1, d2, d3, d4, d5] }
  | _ => none }
def TopGrantWrongFalsely : Prop := topGrantRow.holds Try.pinned (OpenSpec.ofChange topGrantWrong)

/-- 'writkeeptop.TopNote': WHATEVER THE INPUT: true; the input reads as it did. -/
def topNoteSpec : ChangeSpec := { name := "topNote", fn := fun _ => fun
  | [d1, d2, d3, d4, d5, d6] => { results := [.lit (.bool true)], args := [d1, d2, d3, d4, d5, d6] }
  | _ => none }
def topNoteRow : OpenClaim := { program := "ytmbhcpaaaeobmaa", sum := "7bac4088caa641bbab6ee2c9ec6e2085212d1654de4cd5ffd330c2ac5d4dfb25", func := "writkeep/writkeeptop.TopNote", spec := "topNote", inPlace := ["slices.overlaps[writkeep/api.Held]"], unfollowed := true, recurses := true, apart := false }
def TopNoteSaid : Prop := topNoteRow.holds Try.pinned (OpenSpec.ofChange topNoteSpec)

/-- ITS FALSE NEIGHBOUR: 'it returns false'. Refute it at one input. -/
def topNoteWrong : ChangeSpec := { name := "topNote", fn := fun _ => fun
  | [d1, d2, d3, d4, d5, d6] => { results := [.lit (.bool false)], args := [d1, d2, d3, d4, d5, d6] }
  | _ => none }
def TopNoteWrongFalsely : Prop := topNoteRow.holds Try.pinned (OpenSpec.ofChange topNoteWrong)

/-- 'writkeeptop.TopRefuse': WHATEVER THE INPUT: true; the input reads as it did. -/
def topRefuseSpec : ChangeSpec := { name := "topRefuse", fn := fun _ => fun
  | [d1, d2] => { results := [.lit (.bool true)], args := [d1, d2] }
  | _ => none }
def topRefuseRow : OpenClaim := { program := "ytmbhcpaaaeobmaa", sum := "7bac4088caa641bbab6ee2c9ec6e2085212d1654de4cd5ffd330c2ac5d4dfb25", func := "writkeep/writkeeptop.TopRefuse", spec := "topRefuse", inPlace := ["slices.overlaps[writkeep/api.Held]"], unfollowed := true, recurses := true, apart := false }
def TopRefuseSaid : Prop := topRefuseRow.holds Try.pinned (OpenSpec.ofChange topRefuseSpec)

/-- ITS FALSE NEIGHBOUR: 'it returns false'. Refute it at one input. -/
def topRefuseWrong : ChangeSpec := { name := "topRefuse", fn := fun _ => fun
  | [d1, d2] => { results := [.lit (.bool false)], args := [d1, d2] }
  | _ => none }
def TopRefuseWrongFalsely : Prop := topRefuseRow.holds Try.pinned (OpenSpec.ofChange topRefuseWrong)

/-- 'writkeeptop.TopMove': WHATEVER THE INPUT: true; the input reads as it did. -/
def topMoveSpec : ChangeSpec := { name := "topMove", fn := fun _ => fun
  | [d1, d2, d3] => { results := [.lit (.bool true)], args := [d1, d2, d3] }
  | _ => none }
def topMoveRow : OpenClaim := { program := "ytmbhcpaaaeobmaa", sum := "7bac4088caa641bbab6ee2c9ec6e2085212d1654de4cd5ffd330c2ac5d4dfb25", func := "writkeep/writkeeptop.TopMove", spec := "topMove", inPlace := ["slices.overlaps[writkeep/api.Held]"], unfollowed := true, recurses := true, apart := false }
def TopMoveSaid : Prop := topMoveRow.holds Try.pinned (OpenSpec.ofChange topMoveSpec)

/-- ITS FALSE NEIGHBOUR: 'it returns false'. Refute it at one input. -/
def topMoveWrong : ChangeSpec := { name := "topMove", fn := fun _ => fun
  | [d1, d2, d3] => { results := [.lit (.bool false)], args := [d1, d2, d3] }
  | _ => none }
def TopMoveWrongFalsely : Prop := topMoveRow.holds Try.pinned (OpenSpec.ofChange topMoveWrong)

/-- 'writkeeptop.TopMade': WHATEVER THE INPUT: true; the input reads as it did. -/
def topMadeSpec : ChangeSpec := { name := "topMade", fn := fun _ => fun
  | [d1, d2, d3] => { results := [.lit (.bool true)], args := [d1, d2, d3] }
  | _ => none }
def topMadeRow : OpenClaim := { program := "ytmbhcpaaaeobmaa", sum := "7bac4088caa641bbab6ee2c9ec6e2085212d1654de4cd5ffd330c2ac5d4dfb25", func := "writkeep/writkeeptop.TopMade", spec := "topMade", inPlace := ["slices.overlaps[writkeep/api.Held]"], unfollowed := true, recurses := true, apart := false }
def TopMadeSaid : Prop := topMadeRow.holds Try.pinned (OpenSpec.ofChange topMadeSpec)

/-- ITS FALSE NEIGHBOUR: 'it returns false'. Refute it at one input. -/
def topMadeWrong : ChangeSpec := { name := "topMade", fn := fun _ => fun
  | [d1, d2, d3] => { results := [.lit (.bool false)], args := [d1, d2, d3] }
  | _ => none }
def TopMadeWrongFalsely : Prop := topMadeRow.holds Try.pinned (OpenSpec.ofChange topMadeWrong)

/-- 'writkeeptop.TopCell': WHATEVER THE INPUT: true; the input reads as it did. -/
def topCellSpec : ChangeSpec := { name := "topCell", fn := fun _ => fun
  | [d1, d2, d3, d4] => { results := [.lit (.bool true)], args := [d1, d2, d3, d4] }
  | _ => none }
def topCellRow : OpenClaim := { program := "ytmbhcpaaaeobmaa", sum := "7bac4088caa641bbab6ee2c9ec6e2085212d1654de4cd5ffd330c2ac5d4dfb25", func := "writkeep/writkeeptop.TopCell", spec := "topCell", inPlace := ["slices.overlaps[writkeep/api.Held]"], unfollowed := true, recurses := true, apart := false }
def TopCellSaid : Prop := topCellRow.holds Try.pinned (OpenSpec.ofChange topCellSpec)

/-- ITS FALSE NEIGHBOUR: 'it returns false'. Refute it at one input. -/
def topCellWrong : ChangeSpec := { name := "topCell", fn := fun _ => fun
  | [d1, d2, d3, d4] => { results := [.lit (.bool false)], args := [d1, d2, d3, d4] }
  | _ => none }
def TopCellWrongFalsely : Prop := topCellRow.holds Try.pinned (OpenSpec.ofChange topCellWrong)

/-- 'writkeeptop.TopRevoke': WHATEVER THE INPUT: true; the input reads as it did. -/
def topRevokeSpec : ChangeSpec := { name := "topRevoke", fn := fun _ => fun
  | [d1, d2] => { results := [.lit (.bool true)], args := [d1, d2] }
  | _ => none }
def topRevokeRow : OpenClaim := { program := "ytmbhcpaaaeobmaa", sum := "7bac4088caa641bbab6ee2c9ec6e2085212d1654de4cd5ffd330c2ac5d4dfb25", func := "writkeep/writkeeptop.TopRevoke", spec := "topRevoke", inPlace := ["slices.overlaps[writkeep/api.Held]"], unfollowed := true, recurses := true, apart := false }
def TopRevokeSaid : Prop := topRevokeRow.holds Try.pinned (OpenSpec.ofChange topRevokeSpec)

/-- ITS FALSE NEIGHBOUR: 'it returns false'. Refute it at one input. -/
def topRevokeWrong : ChangeSpec := { name := "topRevoke", fn := fun _ => fun
  | [d1, d2] => { results := [.lit (.bool false)], args := [d1, d2] }
  | _ => none }
def TopRevokeWrongFalsely : Prop := topRevokeRow.holds Try.pinned (OpenSpec.ofChange topRevokeWrong)

/- THE SECOND FORM. 'bulk': how many values and letters a reading holds, each counted each time it is reached (what is shared counts as often as it is met; a slice's spare places count too). A statement '..UptoSaid' is the law's where the arguments, and the package variables that the reading takes, are together of bulk at most 1048576: NARROWER than '..Said'. Prove '..Said' where nothing that the law and all that it calls make is longer than what came in: it says more and counts as full. Else prove '..UptoSaid'. A law counts once. -/
mutual
def uptoBulk {H : Type} : DataW H → Nat
  | .lit (.string bytes) => bytes.length + 1
  | .lit _ => 1
  | .nil => 1
  | .ptr d => uptoBulk d + 1
  | .slice elems spare => uptoBulkAll elems + uptoBulkAll spare + 1
  | .agg parts => uptoBulkAll parts + 1
  | .iface _ d => uptoBulk d + 1
  | .map entries => uptoBulkEntries entries + 1
  | .held _ => 1
def uptoBulkAll {H : Type} : List (DataW H) → Nat
  | [] => 0
  | d :: r => uptoBulk d + uptoBulkAll r
def uptoBulkEntries {H : Type} : List (Lit × DataW H) → Nat
  | [] => 0
  | x :: r => uptoBulkEntry x + uptoBulkEntries r
def uptoBulkEntry {H : Type} : Lit × DataW H → Nat
  | (.string bytes, d) => bytes.length + uptoBulk d + 1
  | (_, d) => uptoBulk d + 1
 end
def uptoSmall : (H : Type) → List (DataW H) → Bool := fun _ ds => decide (uptoBulkAll ds ≤ 1048576)
def OpenSpec.upto (s : _root_.Go.ChangeSpec) : _root_.Go.OpenSpec := { _root_.Go.OpenSpec.ofChange s with cond := some uptoSmall }

/-- 'writkeeptop.TopOnce', WHERE WHAT IT READS IS OF BULK AT MOST 1048576: true; the input reads as it did. -/
def topOnceUptoRow : OpenClaim := { program := "ytmbhcpaaaeobmaa", sum := "7bac4088caa641bbab6ee2c9ec6e2085212d1654de4cd5ffd330c2ac5d4dfb25", func := "writkeep/writkeeptop.TopOnce", spec := "topOnce", inPlace := ["slices.overlaps[writkeep/api.Held]"], unfollowed := true, recurses := true, apart := false, narrowed := true }
def TopOnceUptoSaid : Prop := topOnceUptoRow.holds Try.pinned (OpenSpec.upto topOnceSpec)

/-- 'writkeeptop.TopAlive', WHERE WHAT IT READS IS OF BULK AT MOST 1048576: true; the input reads as it did. -/
def topAliveUptoRow : OpenClaim := { program := "ytmbhcpaaaeobmaa", sum := "7bac4088caa641bbab6ee2c9ec6e2085212d1654de4cd5ffd330c2ac5d4dfb25", func := "writkeep/writkeeptop.TopAlive", spec := "topAlive", inPlace := ["slices.overlaps[writkeep/api.Held]"], unfollowed := true, recurses := true, apart := false, narrowed := true }
def TopAliveUptoSaid : Prop := topAliveUptoRow.holds Try.pinned (OpenSpec.upto topAliveSpec)

/-- 'writkeeptop.TopDrop', WHERE WHAT IT READS IS OF BULK AT MOST 1048576: true; the input reads as it did. -/
def topDropUptoRow : OpenClaim := { program := "ytmbhcpaaaeobmaa", sum := "7bac4088caa641bbab6ee2c9ec6e2085212d1654de4cd5ffd330c2ac5d4dfb25", func := "writkeep/writkeeptop.TopDrop", spec := "topDrop", inPlace := ["slices.overlaps[writkeep/api.Held]"], unfollowed := true, recurses := true, apart := false, narrowed := true }
def TopDropUptoSaid : Prop := topDropUptoRow.holds Try.pinned (OpenSpec.upto topDropSpec)

/-- 'writkeeptop.TopAlone', WHERE WHAT IT READS IS OF BULK AT MOST 1048576: true; the input reads as it did. -/
def topAloneUptoRow : OpenClaim := { program := "ytmbhcpaaaeobmaa", sum := "7bac4088caa641bbab6ee2c9ec6e2085212d1654de4cd5ffd330c2ac5d4dfb25", func := "writkeep/writkeeptop.TopAlone", spec := "topAlone", inPlace := ["slices.overlaps[writkeep/api.Held]"], unfollowed := true, recurses := true, apart := false, narrowed := true }
def TopAloneUptoSaid : Prop := topAloneUptoRow.holds Try.pinned (OpenSpec.upto topAloneSpec)

/-- 'writkeeptop.TopGrant', WHERE WHAT IT READS IS OF BULK AT MOST 1048576: true; the input reads as it did. -/
def topGrantUptoRow : OpenClaim := { program := "ytmbhcpaaaeobmaa", sum := "7bac4088caa641bbab6ee2c9ec6e2085212d1654de4cd5ffd330c2ac5d4dfb25", func := "writkeep/writkeeptop.TopGrant", spec := "topGrant", inPlace := ["slices.overlaps[writkeep/api.Held]"], unfollowed := true, recurses := true, apart := false, narrowed := true }
def TopGrantUptoSaid : Prop := topGrantUptoRow.holds Try.pinned (OpenSpec.upto topGrantSpec)

/-- 'writkeeptop.TopNote', WHERE WHAT IT READS IS OF BULK AT MOST 1048576: true; the input reads as it did. -/
def topNoteUptoRow : OpenClaim := { program := "ytmbhcpaaaeobmaa", sum := "7bac4088caa641bbab6ee2c9ec6e2085212d1654de4cd5ffd330c2ac5d4dfb25", func := "writkeep/writkeeptop.TopNote", spec := "topNote", inPlace := ["slices.overlaps[writkeep/api.Held]"], unfollowed := true, recurses := true, apart := false, narrowed := true }
def TopNoteUptoSaid : Prop := topNoteUptoRow.holds Try.pinned (OpenSpec.upto topNoteSpec)

/-- 'writkeeptop.TopRefuse', WHERE WHAT IT READS IS OF BULK AT MOST 1048576: true; the input reads as it did. -/
def topRefuseUptoRow : OpenClaim := { program := "ytmbhcpaaaeobmaa", sum := "7bac4088caa641bbab6ee2c9ec6e2085212d1654de4cd5ffd330c2ac5d4dfb25", func := "writkeep/writkeeptop.TopRefuse", spec := "topRefuse", inPlace := ["slices.overlaps[writkeep/api.Held]"], unfollowed := true, recurses := true, apart := false, narrowed := true }
def TopRefuseUptoSaid : Prop := topRefuseUptoRow.holds Try.pinned (OpenSpec.upto topRefuseSpec)

/-- 'writkeeptop.TopMove', WHERE WHAT IT READS IS OF BULK AT MOST 1048576: true; the input reads as it did. -/
def topMoveUptoRow : OpenClaim := { program := "ytmbhcpaaaeobmaa", sum := "7bac4088caa641bbab6ee2c9ec6e2085212d1654de4cd5ffd330c2ac5d4dfb25", func := "writkeep/writkeeptop.TopMove", spec := "topMove", inPlace := ["slices.overlaps[writkeep/api.Held]"], unfollowed := true, recurses := true, apart := false, narrowed := true }
def TopMoveUptoSaid : Prop := topMoveUptoRow.holds Try.pinned (OpenSpec.upto topMoveSpec)

/-- 'writkeeptop.TopMade', WHERE WHAT IT READS IS OF BULK AT MOST 1048576: true; the input reads as it did. -/
def topMadeUptoRow : OpenClaim := { program := "ytmbhcpaaaeobmaa", sum := "7bac4088caa641bbab6ee2c9ec6e2085212d1654de4cd5ffd330c2ac5d4dfb25", func := "writkeep/writkeeptop.TopMade", spec := "topMade", inPlace := ["slices.overlaps[writkeep/api.Held]"], unfollowed := true, recurses := true, apart := false, narrowed := true }
def TopMadeUptoSaid : Prop := topMadeUptoRow.holds Try.pinned (OpenSpec.upto topMadeSpec)

/-- 'writkeeptop.TopCell', WHERE WHAT IT READS IS OF BULK AT MOST 1048576: true; the input reads as it did. -/
def topCellUptoRow : OpenClaim := { program := "ytmbhcpaaaeobmaa", sum := "7bac4088caa641bbab6ee2c9ec6e2085212d1654de4cd5ffd330c2ac5d4dfb25", func := "writkeep/writkeeptop.TopCell", spec := "topCell", inPlace := ["slices.overlaps[writkeep/api.Held]"], unfollowed := true, recurses := true, apart := false, narrowed := true }
def TopCellUptoSaid : Prop := topCellUptoRow.holds Try.pinned (OpenSpec.upto topCellSpec)

/-- 'writkeeptop.TopRevoke', WHERE WHAT IT READS IS OF BULK AT MOST 1048576: true; the input reads as it did. -/
def topRevokeUptoRow : OpenClaim := { program := "ytmbhcpaaaeobmaa", sum := "7bac4088caa641bbab6ee2c9ec6e2085212d1654de4cd5ffd330c2ac5d4dfb25", func := "writkeep/writkeeptop.TopRevoke", spec := "topRevoke", inPlace := ["slices.overlaps[writkeep/api.Held]"], unfollowed := true, recurses := true, apart := false, narrowed := true }
def TopRevokeUptoSaid : Prop := topRevokeUptoRow.holds Try.pinned (OpenSpec.upto topRevokeSpec)

end Rows
end Go.Proofs.Ytmbhcpaaaeobmaa
