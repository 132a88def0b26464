/-
  No cell of these rows narrows 'for every input' (looked for: loops, veiled, ifaces, maps, wideKeys, modest, calm, conditions, laid).
  DERIVED. THE GIVEN ROWS OF THIS SEAT. 12 by the template 'for every input the law returns true; each argument reads behind the call as it read before'; 0 by the template 'total and deterministic' (their statements: YtgmnmibejamneaaTotals.lean).
  GIVEN WITH THE SEED: the statements are not yours to turn. If you find one false, say at which input.
  Laid BY PROGRAM, IN A SANDBOX (cutbox-rows.mjs): the forced cells as the released guide's own fill.sh prints them over the translation bad75cc26481a9a4… (all of the seat's roots in one cut). By AI agents, Wed Nov 11 2026. No macro, syntax, notation, axiom, sorry.
-/
import Derived.Test.YtgmnmibejamneaaChecked
import GoSem.Claim
import GoSem.ClaimJoined
import GoSem.ClaimMapViews
import Derived.JoinedTies
import Derived.KernelRfl
namespace Go.Proofs.Ytgmnmibejamneaa
/- THE CELL 'sum', in the pinned program and in every row, IS THE sha256 OF THE DUMP (.gsa) THAT YtgmnmibejamneaaProg.lean LOADS. Nothing in Lean hashes anything: it is a label: what it is worth is what the hold of that sum in a sandbox is worth. -/
noncomputable def Try.pinned : Pinned := { name := "ytgmnmibejamneaa", sum := "bad75cc26481a9a45785fbc660bea8e876128469deab0217967349b0cd36afdc", checked := Try.checked }
namespace Rows
def none {H : Type} : Left H := { results := [], args := [] }

/-- 'writkeeplaw.WritSays': WHATEVER THE INPUT: true; the input reads as it did. -/
def writSaysSpec : ChangeSpec := { name := "writSays", fn := fun _ => fun
  | [d1, d2, d3, d4, d5] => { results := [.lit (.bool true)], args := [d1, d2, d3, d4, d5] }
  | _ => none }
def writSaysRow : OpenClaim := { program := "ytgmnmibejamneaa", sum := "bad75cc26481a9a45785fbc660bea8e876128469deab0217967349b0cd36afdc", func := "writkeep/writkeeplaw.WritSays", spec := "writSays", unfollowed := true, recurses := true, apart := false }
def WritSaysSaid : Prop := writSaysRow.holds Try.pinned (OpenSpec.ofChange writSaysSpec)

/-- ITS FALSE NEIGHBOUR: 'it returns false'. Refute it at one input. -/
def writSaysWrong : ChangeSpec := { name := "writSays", fn := fun _ => fun
  | [d1, d2, d3, d4, d5] => { results := [.lit (.bool false)], args := [d1, d2, d3, d4, d5] }
  | _ => none }
def WritSaysWrongFalsely : Prop := writSaysRow.holds Try.pinned (OpenSpec.ofChange writSaysWrong)

/-- 'writkeeplaw.DiskSays': WHATEVER THE INPUT: true; the input reads as it did. -/
def diskSaysSpec : ChangeSpec := { name := "diskSays", fn := fun _ => fun
  | [d1, d2] => { results := [.lit (.bool true)], args := [d1, d2] }
  | _ => none }
def diskSaysRow : OpenClaim := { program := "ytgmnmibejamneaa", sum := "bad75cc26481a9a45785fbc660bea8e876128469deab0217967349b0cd36afdc", func := "writkeep/writkeeplaw.DiskSays", spec := "diskSays", apart := false }
def DiskSaysSaid : Prop := diskSaysRow.holds Try.pinned (OpenSpec.ofChange diskSaysSpec)

/-- ITS FALSE NEIGHBOUR: 'it returns false'. Refute it at one input. -/
def diskSaysWrong : ChangeSpec := { name := "diskSays", fn := fun _ => fun
  | [d1, d2] => { results := [.lit (.bool false)], args := [d1, d2] }
  | _ => none }
def DiskSaysWrongFalsely : Prop := diskSaysRow.holds Try.pinned (OpenSpec.ofChange diskSaysWrong)

/-- 'writkeeplaw.RightSays': WHATEVER THE INPUT: true; the input reads as it did. -/
def rightSaysSpec : ChangeSpec := { name := "rightSays", fn := fun _ => fun
  | [d1, d2, d3] => { results := [.lit (.bool true)], args := [d1, d2, d3] }
  | _ => none }
def rightSaysRow : OpenClaim := { program := "ytgmnmibejamneaa", sum := "bad75cc26481a9a45785fbc660bea8e876128469deab0217967349b0cd36afdc", func := "writkeep/writkeeplaw.RightSays", spec := "rightSays", inPlace := ["internal/bytealg.IndexByteString", "internal/bytealg.IndexString"], named := ["internal/bytealg.MaxLen"], apart := false }
def RightSaysSaid : Prop := rightSaysRow.holds Try.pinned (OpenSpec.ofChange rightSaysSpec)

/-- ITS FALSE NEIGHBOUR: 'it returns false'. Refute it at one input. -/
def rightSaysWrong : ChangeSpec := { name := "rightSays", fn := fun _ => fun
  | [d1, d2, d3] => { results := [.lit (.bool false)], args := [d1, d2, d3] }
  | _ => none }
def RightSaysWrongFalsely : Prop := rightSaysRow.holds Try.pinned (OpenSpec.ofChange rightSaysWrong)

/-- 'writkeeplaw.RowSays': WHATEVER THE INPUT: true; the input reads as it did. -/
def rowSaysSpec : ChangeSpec := { name := "rowSays", fn := fun _ => fun
  | [d1, d2, d3, d4] => { results := [.lit (.bool true)], args := [d1, d2, d3, d4] }
  | _ => none }
def rowSaysRow : OpenClaim := { program := "ytgmnmibejamneaa", sum := "bad75cc26481a9a45785fbc660bea8e876128469deab0217967349b0cd36afdc", func := "writkeep/writkeeplaw.RowSays", spec := "rowSays", inPlace := ["internal/bytealg.abigen_runtime_cmpstring", "slices.overlaps[writkeep/api.Change]"], unfollowed := true, recurses := true, apart := false }
def RowSaysSaid : Prop := rowSaysRow.holds Try.pinned (OpenSpec.ofChange rowSaysSpec)

/-- ITS FALSE NEIGHBOUR: 'it returns false'. Refute it at one input. -/
def rowSaysWrong : ChangeSpec := { name := "rowSays", fn := fun _ => fun
  | [d1, d2, d3, d4] => { results := [.lit (.bool false)], args := [d1, d2, d3, d4] }
  | _ => none }
def RowSaysWrongFalsely : Prop := rowSaysRow.holds Try.pinned (OpenSpec.ofChange rowSaysWrong)

/-- 'writkeeplaw.ShelfSays': WHATEVER THE INPUT: true; the input reads as it did. -/
def shelfSaysSpec : ChangeSpec := { name := "shelfSays", fn := fun _ => fun
  | [d1, d2, d3] => { results := [.lit (.bool true)], args := [d1, d2, d3] }
  | _ => none }
def shelfSaysRow : OpenClaim := { program := "ytgmnmibejamneaa", sum := "bad75cc26481a9a45785fbc660bea8e876128469deab0217967349b0cd36afdc", func := "writkeep/writkeeplaw.ShelfSays", spec := "shelfSays", inPlace := ["slices.overlaps[writkeep/api.Held]"], unfollowed := true, recurses := true, apart := false }
def ShelfSaysSaid : Prop := shelfSaysRow.holds Try.pinned (OpenSpec.ofChange shelfSaysSpec)

/-- ITS FALSE NEIGHBOUR: 'it returns false'. Refute it at one input. -/
def shelfSaysWrong : ChangeSpec := { name := "shelfSays", fn := fun _ => fun
  | [d1, d2, d3] => { results := [.lit (.bool false)], args := [d1, d2, d3] }
  | _ => none }
def ShelfSaysWrongFalsely : Prop := shelfSaysRow.holds Try.pinned (OpenSpec.ofChange shelfSaysWrong)

/-- 'writkeeplaw.TreeSays': WHATEVER THE INPUT: true; the input reads as it did. -/
def treeSaysSpec : ChangeSpec := { name := "treeSays", fn := fun _ => fun
  | [d1, d2] => { results := [.lit (.bool true)], args := [d1, d2] }
  | _ => none }
def treeSaysRow : OpenClaim := { program := "ytgmnmibejamneaa", sum := "bad75cc26481a9a45785fbc660bea8e876128469deab0217967349b0cd36afdc", func := "writkeep/writkeeplaw.TreeSays", spec := "treeSays", unfollowed := true, recurses := true, apart := false }
def TreeSaysSaid : Prop := treeSaysRow.holds Try.pinned (OpenSpec.ofChange treeSaysSpec)

/-- ITS FALSE NEIGHBOUR: 'it returns false'. Refute it at one input. -/
def treeSaysWrong : ChangeSpec := { name := "treeSays", fn := fun _ => fun
  | [d1, d2] => { results := [.lit (.bool false)], args := [d1, d2] }
  | _ => none }
def TreeSaysWrongFalsely : Prop := treeSaysRow.holds Try.pinned (OpenSpec.ofChange treeSaysWrong)

/-- 'writkeeptop.TopDerive': WHATEVER THE INPUT: true; the input reads as it did. -/
def topDeriveSpec : ChangeSpec := { name := "topDerive", fn := fun _ => fun
  | [d1, d2, d3, d4, d5, d6, d7] => { results := [.lit (.bool true)], args := [d1, d2, d3, d4, d5, d6, d7] }
  | _ => none }
def topDeriveRow : OpenClaim := { program := "ytgmnmibejamneaa", sum := "bad75cc26481a9a45785fbc660bea8e876128469deab0217967349b0cd36afdc", func := "writkeep/writkeeptop.TopDerive", spec := "topDerive", apart := false }
def TopDeriveSaid : Prop := topDeriveRow.holds Try.pinned (OpenSpec.ofChange topDeriveSpec)

/-- ITS FALSE NEIGHBOUR: 'it returns false'. Refute it at one input. -/
def topDeriveWrong : ChangeSpec := { name := "topDerive", fn := fun _ => fun
  | [d1, d2, d3, d4, d5, d6, d7] => { results := [.lit (.bool false)], args := [d1, d2, d3, d4, d5, d6, d7] }
  | _ => none }
def TopDeriveWrongFalsely : Prop := topDeriveRow.holds Try.pinned (OpenSpec.ofChange topDeriveWrong)

/-- 'writkeeptop.TopBeneath': WHATEVER THE INPUT: true; the input reads as it did. -/
def topBeneathSpec : ChangeSpec := { name := "topBeneath", fn := fun _ => fun
  | [d1, d2, d3] => { results := [.lit (.bool true)], args := [d1, d2, d3] }
  | _ => none }
def topBeneathRow : OpenClaim := { program := "ytgmnmibejamneaa", sum := "bad75cc26481a9a45785fbc660bea8e876128469deab0217967349b0cd36afdc", func := "writkeep/writkeeptop.TopBeneath", spec := "topBeneath", unfollowed := true, recurses := true, apart := false }
def TopBeneathSaid : Prop := topBeneathRow.holds Try.pinned (OpenSpec.ofChange topBeneathSpec)

/-- ITS FALSE NEIGHBOUR: 'it returns false'. Refute it at one input. -/
def topBeneathWrong : ChangeSpec := { name := "topBeneath", fn := fun _ => fun
  | [d1, d2, d3] => { results := [.lit (.bool false)], args := [d1, d2, d3] }
  | _ => none }
def TopBeneathWrongFalsely : Prop := topBeneathRow.holds Try.pinned (OpenSpec.ofChange topBeneathWrong)

/-- 'writkeeptop.TopWithout': WHATEVER THE INPUT: true; the input reads as it did. -/
def topWithoutSpec : ChangeSpec := { name := "topWithout", fn := fun _ => fun
  | [d1, d2] => { results := [.lit (.bool true)], args := [d1, d2] }
  | _ => none }
def topWithoutRow : OpenClaim := { program := "ytgmnmibejamneaa", sum := "bad75cc26481a9a45785fbc660bea8e876128469deab0217967349b0cd36afdc", func := "writkeep/writkeeptop.TopWithout", spec := "topWithout", unfollowed := true, recurses := true, apart := false }
def TopWithoutSaid : Prop := topWithoutRow.holds Try.pinned (OpenSpec.ofChange topWithoutSpec)

/-- ITS FALSE NEIGHBOUR: 'it returns false'. Refute it at one input. -/
def topWithoutWrong : ChangeSpec := { name := "topWithout", fn := fun _ => fun
  | [d1, d2] => { results := [.lit (.bool false)], args := [d1, d2] }
  | _ => none }
def TopWithoutWrongFalsely : Prop := topWithoutRow.holds Try.pinned (OpenSpec.ofChange topWithoutWrong)

/-- 'writkeeptop.TopDisk': WHATEVER THE INPUT: true; the input reads as it did. -/
def topDiskSpec : ChangeSpec := { name := "topDisk", fn := fun _ => fun
  | [d1, d2, d3] => { results := [.lit (.bool true)], args := [d1, d2, d3] }
  | _ => none }
def topDiskRow : OpenClaim := { program := "ytgmnmibejamneaa", sum := "bad75cc26481a9a45785fbc660bea8e876128469deab0217967349b0cd36afdc", func := "writkeep/writkeeptop.TopDisk", spec := "topDisk", apart := false }
def TopDiskSaid : Prop := topDiskRow.holds Try.pinned (OpenSpec.ofChange topDiskSpec)

/-- ITS FALSE NEIGHBOUR: 'it returns false'. Refute it at one input. -/
def topDiskWrong : ChangeSpec := { name := "topDisk", fn := fun _ => fun
  | [d1, d2, d3] => { results := [.lit (.bool false)], args := [d1, d2, d3] }
  | _ => none }
def TopDiskWrongFalsely : Prop := topDiskRow.holds Try.pinned (OpenSpec.ofChange topDiskWrong)

/-- 'writkeeptop.TopRights': WHATEVER THE INPUT: true; the input reads as it did. -/
def topRightsSpec : ChangeSpec := { name := "topRights", fn := fun _ => fun
  | [d1, d2, d3] => { results := [.lit (.bool true)], args := [d1, d2, d3] }
  | _ => none }
def topRightsRow : OpenClaim := { program := "ytgmnmibejamneaa", sum := "bad75cc26481a9a45785fbc660bea8e876128469deab0217967349b0cd36afdc", func := "writkeep/writkeeptop.TopRights", spec := "topRights", inPlace := ["internal/bytealg.IndexByteString", "internal/bytealg.IndexString"], named := ["internal/bytealg.MaxLen"], apart := false }
def TopRightsSaid : Prop := topRightsRow.holds Try.pinned (OpenSpec.ofChange topRightsSpec)

/-- ITS FALSE NEIGHBOUR: 'it returns false'. Refute it at one input. -/
def topRightsWrong : ChangeSpec := { name := "topRights", fn := fun _ => fun
  | [d1, d2, d3] => { results := [.lit (.bool false)], args := [d1, d2, d3] }
  | _ => none }
def TopRightsWrongFalsely : Prop := topRightsRow.holds Try.pinned (OpenSpec.ofChange topRightsWrong)

/-- 'writkeeptop.TopShelf': WHATEVER THE INPUT: true; the input reads as it did. -/
def topShelfSpec : ChangeSpec := { name := "topShelf", fn := fun _ => fun
  | [d1, d2, d3, d4] => { results := [.lit (.bool true)], args := [d1, d2, d3, d4] }
  | _ => none }
def topShelfRow : OpenClaim := { program := "ytgmnmibejamneaa", sum := "bad75cc26481a9a45785fbc660bea8e876128469deab0217967349b0cd36afdc", func := "writkeep/writkeeptop.TopShelf", spec := "topShelf", inPlace := ["slices.overlaps[writkeep/api.Held]"], unfollowed := true, recurses := true, apart := false }
def TopShelfSaid : Prop := topShelfRow.holds Try.pinned (OpenSpec.ofChange topShelfSpec)

/-- ITS FALSE NEIGHBOUR: 'it returns false'. Refute it at one input. -/
def topShelfWrong : ChangeSpec := { name := "topShelf", fn := fun _ => fun
  | [d1, d2, d3, d4] => { results := [.lit (.bool false)], args := [d1, d2, d3, d4] }
  | _ => none }
def TopShelfWrongFalsely : Prop := topShelfRow.holds Try.pinned (OpenSpec.ofChange topShelfWrong)

/- THE SECOND FORM. 'bulk': how many values and letters a reading holds, each counted each time it is reached (what is shared counts as often as it is met; a slice's spare places count too). A statement '..UptoSaid' is the law's where the arguments, and the package variables that the reading takes, are together of bulk at most 1048576: NARROWER than '..Said'. Prove '..Said' where nothing that the law and all that it calls make is longer than what came in: it says more and counts as full. Else prove '..UptoSaid'. A law counts once. -/
mutual
def uptoBulk {H : Type} : DataW H → Nat
  | .lit (.string bytes) => bytes.length + 1
  | .lit _ => 1
  | .nil => 1
  | .ptr d => uptoBulk d + 1
  | .slice elems spare => uptoBulkAll elems + uptoBulkAll spare + 1
  | .agg parts => uptoBulkAll parts + 1
  | .iface _ d => uptoBulk d + 1
  | .map entries => uptoBulkEntries entries + 1
  | .held _ => 1
def uptoBulkAll {H : Type} : List (DataW H) → Nat
  | [] => 0
  | d :: r => uptoBulk d + uptoBulkAll r
def uptoBulkEntries {H : Type} : List (Lit × DataW H) → Nat
  | [] => 0
  | x :: r => uptoBulkEntry x + uptoBulkEntries r
def uptoBulkEntry {H : Type} : Lit × DataW H → Nat
  | (.string bytes, d) => bytes.length + uptoBulk d + 1
  | (_, d) => uptoBulk d + 1
 end
def uptoSmall : (H : Type) → List (DataW H) → Bool := fun _ ds => decide (uptoBulkAll ds ≤ 1048576)
def OpenSpec.upto (s : _root_.Go.ChangeSpec) : _root_.Go.OpenSpec := { _root_.Go.OpenSpec.ofChange s with cond := some uptoSmall }

/-- 'writkeeplaw.WritSays', WHERE WHAT IT READS IS OF BULK AT MOST 1048576: true; the input reads as it did. -/
def writSaysUptoRow : OpenClaim := { program := "ytgmnmibejamneaa", sum := "bad75cc26481a9a45785fbc660bea8e876128469deab0217967349b0cd36afdc", func := "writkeep/writkeeplaw.WritSays", spec := "writSays", unfollowed := true, recurses := true, apart := false, narrowed := true }
def WritSaysUptoSaid : Prop := writSaysUptoRow.holds Try.pinned (OpenSpec.upto writSaysSpec)

/-- 'writkeeplaw.DiskSays', WHERE WHAT IT READS IS OF BULK AT MOST 1048576: true; the input reads as it did. -/
def diskSaysUptoRow : OpenClaim := { program := "ytgmnmibejamneaa", sum := "bad75cc26481a9a45785fbc660bea8e876128469deab0217967349b0cd36afdc", func := "writkeep/writkeeplaw.DiskSays", spec := "diskSays", apart := false, narrowed := true }
def DiskSaysUptoSaid : Prop := diskSaysUptoRow.holds Try.pinned (OpenSpec.upto diskSaysSpec)

/-- 'writkeeplaw.RightSays', WHERE WHAT IT READS IS OF BULK AT MOST 1048576: true; the input reads as it did. -/
def rightSaysUptoRow : OpenClaim := { program := "ytgmnmibejamneaa", sum := "bad75cc26481a9a45785fbc660bea8e876128469deab0217967349b0cd36afdc", func := "writkeep/writkeeplaw.RightSays", spec := "rightSays", inPlace := ["internal/bytealg.IndexByteString", "internal/bytealg.IndexString"], named := ["internal/bytealg.MaxLen"], apart := false, narrowed := true }
def RightSaysUptoSaid : Prop := rightSaysUptoRow.holds Try.pinned (OpenSpec.upto rightSaysSpec)

/-- 'writkeeplaw.RowSays', WHERE WHAT IT READS IS OF BULK AT MOST 1048576: true; the input reads as it did. -/
def rowSaysUptoRow : OpenClaim := { program := "ytgmnmibejamneaa", sum := "bad75cc26481a9a45785fbc660bea8e876128469deab0217967349b0cd36afdc", func := "writkeep/writkeeplaw.RowSays", spec := "rowSays", inPlace := ["internal/bytealg.abigen_runtime_cmpstring", "slices.overlaps[writkeep/api.Change]"], unfollowed := true, recurses := true, apart := false, narrowed := true }
def RowSaysUptoSaid : Prop := rowSaysUptoRow.holds Try.pinned (OpenSpec.upto rowSaysSpec)

/-- 'writkeeplaw.ShelfSays', WHERE WHAT IT READS IS OF BULK AT MOST 1048576: true; the input reads as it did. -/
def shelfSaysUptoRow : OpenClaim := { program := "ytgmnmibejamneaa", sum := "bad75cc26481a9a45785fbc660bea8e876128469deab0217967349b0cd36afdc", func := "writkeep/writkeeplaw.ShelfSays", spec := "shelfSays", inPlace := ["slices.overlaps[writkeep/api.Held]"], unfollowed := true, recurses := true, apart := false, narrowed := true }
def ShelfSaysUptoSaid : Prop := shelfSaysUptoRow.holds Try.pinned (OpenSpec.upto shelfSaysSpec)

/-- 'writkeeplaw.TreeSays', WHERE WHAT IT READS IS OF BULK AT MOST 1048576: true; the input reads as it did. -/
def treeSaysUptoRow : OpenClaim := { program := "ytgmnmibejamneaa", sum := "bad75cc26481a9a45785fbc660bea8e876128469deab0217967349b0cd36afdc", func := "writkeep/writkeeplaw.TreeSays", spec := "treeSays", unfollowed := true, recurses := true, apart := false, narrowed := true }
def TreeSaysUptoSaid : Prop := treeSaysUptoRow.holds Try.pinned (OpenSpec.upto treeSaysSpec)

/-- 'writkeeptop.TopDerive', WHERE WHAT IT READS IS OF BULK AT MOST 1048576: true; the input reads as it did. -/
def topDeriveUptoRow : OpenClaim := { program := "ytgmnmibejamneaa", sum := "bad75cc26481a9a45785fbc660bea8e876128469deab0217967349b0cd36afdc", func := "writkeep/writkeeptop.TopDerive", spec := "topDerive", apart := false, narrowed := true }
def TopDeriveUptoSaid : Prop := topDeriveUptoRow.holds Try.pinned (OpenSpec.upto topDeriveSpec)

/-- 'writkeeptop.TopBeneath', WHERE WHAT IT READS IS OF BULK AT MOST 1048576: true; the input reads as it did. -/
def topBeneathUptoRow : OpenClaim := { program := "ytgmnmibejamneaa", sum := "bad75cc26481a9a45785fbc660bea8e876128469deab0217967349b0cd36afdc", func := "writkeep/writkeeptop.TopBeneath", spec := "topBeneath", unfollowed := true, recurses := true, apart := false, narrowed := true }
def TopBeneathUptoSaid : Prop := topBeneathUptoRow.holds Try.pinned (OpenSpec.upto topBeneathSpec)

/-- 'writkeeptop.TopWithout', WHERE WHAT IT READS IS OF BULK AT MOST 1048576: true; the input reads as it did. -/
def topWithoutUptoRow : OpenClaim := { program := "ytgmnmibejamneaa", sum := "bad75cc26481a9a45785fbc660bea8e876128469deab0217967349b0cd36afdc", func := "writkeep/writkeeptop.TopWithout", spec := "topWithout", unfollowed := true, recurses := true, apart := false, narrowed := true }
def TopWithoutUptoSaid : Prop := topWithoutUptoRow.holds Try.pinned (OpenSpec.upto topWithoutSpec)

/-- 'writkeeptop.TopDisk', WHERE WHAT IT READS IS OF BULK AT MOST 1048576: true; the input reads as it did. -/
def topDiskUptoRow : OpenClaim := { program := "ytgmnmibejamneaa", sum := "bad75cc26481a9a45785fbc660bea8e876128469deab0217967349b0cd36afdc", func := "writkeep/writkeeptop.TopDisk", spec := "topDisk", apart := false, narrowed := true }
def TopDiskUptoSaid : Prop := topDiskUptoRow.holds Try.pinned (OpenSpec.upto topDiskSpec)

/-- 'writkeeptop.TopRights', WHERE WHAT IT READS IS OF BULK AT MOST 1048576: true; the input reads as it did. -/
def topRightsUptoRow : OpenClaim := { program := "ytgmnmibejamneaa", sum := "bad75cc26481a9a45785fbc660bea8e876128469deab0217967349b0cd36afdc", func := "writkeep/writkeeptop.TopRights", spec := "topRights", inPlace := ["internal/bytealg.IndexByteString", "internal/bytealg.IndexString"], named := ["internal/bytealg.MaxLen"], apart := false, narrowed := true }
def TopRightsUptoSaid : Prop := topRightsUptoRow.holds Try.pinned (OpenSpec.upto topRightsSpec)

/-- 'writkeeptop.TopShelf', WHERE WHAT IT READS IS OF BULK AT MOST 1048576: true; the input reads as it did. -/
def topShelfUptoRow : OpenClaim := { program := "ytgmnmibejamneaa", sum := "bad75cc26481a9a45785fbc660bea8e876128469deab0217967349b0cd36afdc", func := "writkeep/writkeeptop.TopShelf", spec := "topShelf", inPlace := ["slices.overlaps[writkeep/api.Held]"], unfollowed := true, recurses := true, apart := false, narrowed := true }
def TopShelfUptoSaid : Prop := topShelfUptoRow.holds Try.pinned (OpenSpec.upto topShelfSpec)

end Rows
end Go.Proofs.Ytgmnmibejamneaa
