/-
  DERIVED. GIVEN WITH THE SEED: THE CARDS: each row of YtnmpibjlnninjaaGreatDoorRows.lean that lists a variable, with what it lists TIED to the program's text (the seventh form; the later family's looks); each row that meets fmt, with fmt's text TOLD by the authors' own Lean function (tested against real Go, not proved from fmt's source: count such statements apart). THE CARD IS WHAT COUNTS. Prove the row's statement (the work); the ties are given (YtnmpibjlnninjaaGreatDoorTie.lean); close each card by the builder's one call (the guide's Derived/Test/ToyasCard.lean, 'card_holds'). Laid BY PROGRAM, IN A SANDBOX (cutbox-door.mjs). By AI agents, Wed Nov 11 2026. No macro, syntax, notation, axiom, sorry.
-/
import Derived.Test.YtnmpibjlnninjaaGreatDoorRows
import GoSem.ClaimSeven
namespace Go.Proofs.YtnmpibjlnninjaaGreatDoor
namespace Rows

/-- THE TIED CARD OF 'writkeeplaw.KeepSays'. -/
def keepSaysCard : Claim7 := { stood := { row := keepSaysRow, standIns := [], harness := (true, "0abf51cd82b994ebf7dfc29905f3cbf2d90b26bbf0734ee3003ab30bb1956c04"), looks := true }, kinds := [], alts := [], laidByText := true, laidKinds := [.data, .data, .data, .sentinel, .sentinel], laidTests := true, laidLooks := .later }
def KeepSaysCardSaid : Prop := Claim7.holds Tryz.pinned (.plain (OpenSpec.ofChange keepSaysSpec)) keepSaysCard

/-- THE TIED CARD OF 'writkeeplaw.ConsoleSays'. -/
def consoleSaysCard : Claim7 := { stood := { row := consoleSaysRow, standIns := [], harness := (true, "0abf51cd82b994ebf7dfc29905f3cbf2d90b26bbf0734ee3003ab30bb1956c04"), looks := true }, kinds := [], alts := [], laidByText := true, laidKinds := [.data, .data, .data, .data, .sentinel, .sentinel, .pinned], laidTests := true, laidLooks := .later }
def ConsoleSaysCardSaid : Prop := Claim7.holds Tryz.pinned (.plain (OpenSpec.ofChange consoleSaysSpec)) consoleSaysCard

/-- THE SECOND FORM's CARD OF 'writkeeplaw.KeepSays'. -/
def keepSaysUptoCard : Claim7 := { stood := { row := keepSaysUptoRow, standIns := [], harness := (true, "0abf51cd82b994ebf7dfc29905f3cbf2d90b26bbf0734ee3003ab30bb1956c04"), looks := true }, kinds := [], alts := [], laidByText := true, laidKinds := [.data, .data, .data, .sentinel, .sentinel], laidTests := true, laidLooks := .later }
def KeepSaysUptoCardSaid : Prop := Claim7.holds Tryz.pinned (.plain (OpenSpec.upto keepSaysSpec)) keepSaysUptoCard

/-- THE SECOND FORM's CARD OF 'writkeeplaw.ConsoleSays'. -/
def consoleSaysUptoCard : Claim7 := { stood := { row := consoleSaysUptoRow, standIns := [], harness := (true, "0abf51cd82b994ebf7dfc29905f3cbf2d90b26bbf0734ee3003ab30bb1956c04"), looks := true }, kinds := [], alts := [], laidByText := true, laidKinds := [.data, .data, .data, .data, .sentinel, .sentinel, .pinned], laidTests := true, laidLooks := .later }
def ConsoleSaysUptoCardSaid : Prop := Claim7.holds Tryz.pinned (.plain (OpenSpec.upto consoleSaysSpec)) consoleSaysUptoCard
end Rows
end Go.Proofs.YtnmpibjlnninjaaGreatDoor
