/-
  DERIVED. GIVEN WITH THE SEED: THE CARDS: each row of YtbkfhjaibhnkmaaGreatDoorRows.lean that lists a variable, with what it lists TIED to the program's text (the seventh form; the later family's looks); each row that meets fmt, with fmt's text TOLD by the authors' own Lean function (tested against real Go, not proved from fmt's source: count such statements apart). THE CARD IS WHAT COUNTS. Prove the row's statement (the work); the ties are given (YtbkfhjaibhnkmaaGreatDoorTie.lean); close each card by the builder's one call (the guide's Derived/Test/ToyasCard.lean, 'card_holds'). Laid BY PROGRAM, IN A SANDBOX (cutbox-door.mjs). By AI agents, Wed Nov 11 2026. No macro, syntax, notation, axiom, sorry.
-/
import Derived.Test.YtbkfhjaibhnkmaaGreatDoorRows
import GoSem.ClaimSeven
namespace Go.Proofs.YtbkfhjaibhnkmaaGreatDoor
namespace Rows

/-- THE TIED CARD OF 'writkeeplaw.ImageSays'. -/
def imageSaysCard : Claim7 := { stood := { row := imageSaysRow, standIns := [], harness := (true, "b01b97271fb9dad39f13ec2ef2e7b820244609920920eb11c53df88dac762578"), looks := true }, kinds := [], alts := [], laidByText := true, laidKinds := [.data, .data, .data, .sentinel, .sentinel], laidTests := true, laidLooks := .later }
def ImageSaysCardSaid : Prop := Claim7.holds Tryz.pinned (.plain (OpenSpec.ofChange imageSaysSpec)) imageSaysCard

/-- THE TIED CARD OF 'writkeeptop.TopRows'. -/
def topRowsCard : Claim7 := { stood := { row := topRowsRow, standIns := [], harness := (true, "b01b97271fb9dad39f13ec2ef2e7b820244609920920eb11c53df88dac762578"), looks := true }, kinds := [], alts := [], laidByText := true, laidKinds := [.data, .data, .data, .sentinel, .sentinel], laidTests := true, laidLooks := .later }
def TopRowsCardSaid : Prop := Claim7.holds Tryz.pinned (.plain (OpenSpec.ofChange topRowsSpec)) topRowsCard

/-- THE TIED CARD OF 'writkeeptop.TopSpoilt'. -/
def topSpoiltCard : Claim7 := { stood := { row := topSpoiltRow, standIns := [], harness := (true, "b01b97271fb9dad39f13ec2ef2e7b820244609920920eb11c53df88dac762578"), looks := true }, kinds := [], alts := [], laidByText := true, laidKinds := [.data, .data, .data, .sentinel, .sentinel], laidTests := true, laidLooks := .later }
def TopSpoiltCardSaid : Prop := Claim7.holds Tryz.pinned (.plain (OpenSpec.ofChange topSpoiltSpec)) topSpoiltCard

/-- THE SECOND FORM's CARD OF 'writkeeplaw.ImageSays'. -/
def imageSaysUptoCard : Claim7 := { stood := { row := imageSaysUptoRow, standIns := [], harness := (true, "b01b97271fb9dad39f13ec2ef2e7b820244609920920eb11c53df88dac762578"), looks := true }, kinds := [], alts := [], laidByText := true, laidKinds := [.data, .data, .data, .sentinel, .sentinel], laidTests := true, laidLooks := .later }
def ImageSaysUptoCardSaid : Prop := Claim7.holds Tryz.pinned (.plain (OpenSpec.upto imageSaysSpec)) imageSaysUptoCard

/-- THE SECOND FORM's CARD OF 'writkeeptop.TopRows'. -/
def topRowsUptoCard : Claim7 := { stood := { row := topRowsUptoRow, standIns := [], harness := (true, "b01b97271fb9dad39f13ec2ef2e7b820244609920920eb11c53df88dac762578"), looks := true }, kinds := [], alts := [], laidByText := true, laidKinds := [.data, .data, .data, .sentinel, .sentinel], laidTests := true, laidLooks := .later }
def TopRowsUptoCardSaid : Prop := Claim7.holds Tryz.pinned (.plain (OpenSpec.upto topRowsSpec)) topRowsUptoCard

/-- THE SECOND FORM's CARD OF 'writkeeptop.TopSpoilt'. -/
def topSpoiltUptoCard : Claim7 := { stood := { row := topSpoiltUptoRow, standIns := [], harness := (true, "b01b97271fb9dad39f13ec2ef2e7b820244609920920eb11c53df88dac762578"), looks := true }, kinds := [], alts := [], laidByText := true, laidKinds := [.data, .data, .data, .sentinel, .sentinel], laidTests := true, laidLooks := .later }
def TopSpoiltUptoCardSaid : Prop := Claim7.holds Tryz.pinned (.plain (OpenSpec.upto topSpoiltSpec)) topSpoiltUptoCard
end Rows
end Go.Proofs.YtbkfhjaibhnkmaaGreatDoor
