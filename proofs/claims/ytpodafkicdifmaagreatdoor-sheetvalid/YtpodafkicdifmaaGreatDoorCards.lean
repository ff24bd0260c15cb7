/-
  DERIVED. GIVEN WITH THE SEED: THE CARDS: each row of YtpodafkicdifmaaGreatDoorRows.lean that lists a variable, with what it lists TIED to the program's text (the seventh form; the later family's looks); each row that meets fmt, with fmt's text TOLD by the authors' own Lean function (tested against real Go, not proved from fmt's source: count such statements apart). THE CARD IS WHAT COUNTS. Prove the row's statement (the work); the ties are given (YtpodafkicdifmaaGreatDoorTie.lean); close each card by the builder's one call (the guide's Derived/Test/ToyasCard.lean, 'card_holds'). Laid BY PROGRAM, IN A SANDBOX (cutbox-door.mjs). By AI agents, Wed Nov 11 2026. No macro, syntax, notation, axiom, sorry.
-/
import Derived.Test.YtpodafkicdifmaaGreatDoorRows
import GoSem.ClaimSeven
namespace Go.Proofs.YtpodafkicdifmaaGreatDoor
namespace Rows

/-- THE TIED CARD OF 'vitrinelaw11.SheetValid'. -/
def sheetValidCard : Claim7 := { stood := { row := sheetValidRow, standIns := [], harness := (true, "e0126a3db4cbb5fda4891f4a237cb68dc126c101dd1faeb11c498fc8317942f8"), looks := true }, kinds := [], alts := [], laidByText := true, laidKinds := [.data, .data, .data, .data, .sentinel, .sentinel, .pinned], laidTests := true, laidLooks := .later }
def SheetValidCardSaid : Prop := Claim7.holds Tryz.pinned (.plain (OpenSpec.ofChange sheetValidSpec)) sheetValidCard

/-- THE SECOND FORM's CARD OF 'vitrinelaw11.SheetValid'. -/
def sheetValidUptoCard : Claim7 := { stood := { row := sheetValidUptoRow, standIns := [], harness := (true, "e0126a3db4cbb5fda4891f4a237cb68dc126c101dd1faeb11c498fc8317942f8"), looks := true }, kinds := [], alts := [], laidByText := true, laidKinds := [.data, .data, .data, .data, .sentinel, .sentinel, .pinned], laidTests := true, laidLooks := .later }
def SheetValidUptoCardSaid : Prop := Claim7.holds Tryz.pinned (.plain (OpenSpec.upto sheetValidSpec)) sheetValidUptoCard
end Rows
end Go.Proofs.YtpodafkicdifmaaGreatDoor
