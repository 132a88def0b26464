/-
  DERIVED. GIVEN WITH THE SEED: THE CARDS: each row of YtkbhcbipadkcaaaGreatDoorRows.lean that lists a variable, with what it lists TIED to the program's text (the seventh form; the later family's looks); each row that meets fmt, with fmt's text TOLD by the authors' own Lean function (tested against real Go, not proved from fmt's source: count such statements apart). THE CARD IS WHAT COUNTS. Prove the row's statement (the work); the ties are given (YtkbhcbipadkcaaaGreatDoorTie.lean); close each card by the builder's one call (the guide's Derived/Test/ToyasCard.lean, 'card_holds'). Laid BY PROGRAM, IN A SANDBOX (cutbox-door.mjs). By AI agents, Wed Nov 11 2026. No macro, syntax, notation, axiom, sorry.
-/
import Derived.Test.YtkbhcbipadkcaaaGreatDoorRows
import GoSem.ClaimSeven
namespace Go.Proofs.YtkbhcbipadkcaaaGreatDoor
namespace Rows

/-- THE TIED CARD OF 'writkeeplaw.KeepSays'. -/
def keepSaysCard : Claim7 := { stood := { row := keepSaysRow, standIns := [], harness := (true, "740941bdca030c52b5d405e0b18da6d55d3bb80363adaeeb70679935f3666678"), looks := true }, kinds := [], alts := [], laidByText := true, laidKinds := [.data, .data, .data, .sentinel, .sentinel], laidTests := true, laidLooks := .later }
def KeepSaysCardSaid : Prop := Claim7.holds Tryz.pinned (.plain (OpenSpec.ofChange keepSaysSpec)) keepSaysCard

/-- THE TIED CARD OF 'writkeeptop.TopOpen'. -/
def topOpenCard : Claim7 := { stood := { row := topOpenRow, standIns := [], harness := (true, "740941bdca030c52b5d405e0b18da6d55d3bb80363adaeeb70679935f3666678"), looks := true }, kinds := [], alts := [], laidByText := true, laidKinds := [.data, .data, .data, .sentinel, .sentinel], laidTests := true, laidLooks := .later }
def TopOpenCardSaid : Prop := Claim7.holds Tryz.pinned (.plain (OpenSpec.ofChange topOpenSpec)) topOpenCard

/-- THE TIED CARD OF 'writkeeptop.TopWhole'. -/
def topWholeCard : Claim7 := { stood := { row := topWholeRow, standIns := [], harness := (true, "740941bdca030c52b5d405e0b18da6d55d3bb80363adaeeb70679935f3666678"), looks := true }, kinds := [], alts := [], laidByText := true, laidKinds := [.data, .data, .data, .sentinel, .sentinel], laidTests := true, laidLooks := .later }
def TopWholeCardSaid : Prop := Claim7.holds Tryz.pinned (.plain (OpenSpec.ofChange topWholeSpec)) topWholeCard

/-- THE TIED CARD OF 'writkeeptop.TopFalls'. -/
def topFallsCard : Claim7 := { stood := { row := topFallsRow, standIns := [], harness := (true, "740941bdca030c52b5d405e0b18da6d55d3bb80363adaeeb70679935f3666678"), looks := true }, kinds := [], alts := [], laidByText := true, laidKinds := [.data, .data, .data, .sentinel, .sentinel], laidTests := true, laidLooks := .later }
def TopFallsCardSaid : Prop := Claim7.holds Tryz.pinned (.plain (OpenSpec.ofChange topFallsSpec)) topFallsCard

/-- THE TIED CARD OF 'writkeeptop.TopFall'. -/
def topFallCard : Claim7 := { stood := { row := topFallRow, standIns := [], harness := (true, "740941bdca030c52b5d405e0b18da6d55d3bb80363adaeeb70679935f3666678"), looks := true }, kinds := [], alts := [], laidByText := true, laidKinds := [.data, .data, .data, .sentinel, .sentinel], laidTests := true, laidLooks := .later }
def TopFallCardSaid : Prop := Claim7.holds Tryz.pinned (.plain (OpenSpec.ofChange topFallSpec)) topFallCard

/-- THE SECOND FORM's CARD OF 'writkeeplaw.KeepSays'. -/
def keepSaysUptoCard : Claim7 := { stood := { row := keepSaysUptoRow, standIns := [], harness := (true, "740941bdca030c52b5d405e0b18da6d55d3bb80363adaeeb70679935f3666678"), looks := true }, kinds := [], alts := [], laidByText := true, laidKinds := [.data, .data, .data, .sentinel, .sentinel], laidTests := true, laidLooks := .later }
def KeepSaysUptoCardSaid : Prop := Claim7.holds Tryz.pinned (.plain (OpenSpec.upto keepSaysSpec)) keepSaysUptoCard

/-- THE SECOND FORM's CARD OF 'writkeeptop.TopOpen'. -/
def topOpenUptoCard : Claim7 := { stood := { row := topOpenUptoRow, standIns := [], harness := (true, "740941bdca030c52b5d405e0b18da6d55d3bb80363adaeeb70679935f3666678"), looks := true }, kinds := [], alts := [], laidByText := true, laidKinds := [.data, .data, .data, .sentinel, .sentinel], laidTests := true, laidLooks := .later }
def TopOpenUptoCardSaid : Prop := Claim7.holds Tryz.pinned (.plain (OpenSpec.upto topOpenSpec)) topOpenUptoCard

/-- THE SECOND FORM's CARD OF 'writkeeptop.TopWhole'. -/
def topWholeUptoCard : Claim7 := { stood := { row := topWholeUptoRow, standIns := [], harness := (true, "740941bdca030c52b5d405e0b18da6d55d3bb80363adaeeb70679935f3666678"), looks := true }, kinds := [], alts := [], laidByText := true, laidKinds := [.data, .data, .data, .sentinel, .sentinel], laidTests := true, laidLooks := .later }
def TopWholeUptoCardSaid : Prop := Claim7.holds Tryz.pinned (.plain (OpenSpec.upto topWholeSpec)) topWholeUptoCard

/-- THE SECOND FORM's CARD OF 'writkeeptop.TopFalls'. -/
def topFallsUptoCard : Claim7 := { stood := { row := topFallsUptoRow, standIns := [], harness := (true, "740941bdca030c52b5d405e0b18da6d55d3bb80363adaeeb70679935f3666678"), looks := true }, kinds := [], alts := [], laidByText := true, laidKinds := [.data, .data, .data, .sentinel, .sentinel], laidTests := true, laidLooks := .later }
def TopFallsUptoCardSaid : Prop := Claim7.holds Tryz.pinned (.plain (OpenSpec.upto topFallsSpec)) topFallsUptoCard

/-- THE SECOND FORM's CARD OF 'writkeeptop.TopFall'. -/
def topFallUptoCard : Claim7 := { stood := { row := topFallUptoRow, standIns := [], harness := (true, "740941bdca030c52b5d405e0b18da6d55d3bb80363adaeeb70679935f3666678"), looks := true }, kinds := [], alts := [], laidByText := true, laidKinds := [.data, .data, .data, .sentinel, .sentinel], laidTests := true, laidLooks := .later }
def TopFallUptoCardSaid : Prop := Claim7.holds Tryz.pinned (.plain (OpenSpec.upto topFallSpec)) topFallUptoCard
end Rows
end Go.Proofs.YtkbhcbipadkcaaaGreatDoor
