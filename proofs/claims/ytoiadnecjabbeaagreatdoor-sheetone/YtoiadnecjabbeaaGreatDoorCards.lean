/-
  DERIVED. GIVEN WITH THE SEED: THE CARDS: each row of YtoiadnecjabbeaaGreatDoorRows.lean that lists a variable, with what it lists TIED to the program's text (the seventh form; the later family's looks); each row that meets fmt, with fmt's text TOLD by the authors' own Lean function (tested against real Go, not proved from fmt's source: count such statements apart). THE CARD IS WHAT COUNTS. Prove the row's statement (the work); the ties are given (YtoiadnecjabbeaaGreatDoorTie.lean); close each card by the builder's one call (the guide's Derived/Test/ToyasCard.lean, 'card_holds'). Laid BY PROGRAM, IN A SANDBOX (cutbox-door.mjs). By AI agents, Wed Nov 11 2026. No macro, syntax, notation, axiom, sorry.
-/
import Derived.Test.YtoiadnecjabbeaaGreatDoorRows
import GoSem.ClaimSeven
namespace Go.Proofs.YtoiadnecjabbeaaGreatDoor
namespace Rows

/-- THE TIED CARD OF 'vitrinelaw11.SheetOne'. -/
def sheetOneCard : Claim7 := { stood := { row := sheetOneRow, standIns := [], harness := (true, "22346d7ac70a517ff7924589469a3d89b8ee475a144d1844404bb1d2577018e5"), looks := true }, kinds := [], alts := [], laidByText := true, laidKinds := [.data, .data, .data, .data, .sentinel, .sentinel, .pinned], laidTests := true, laidLooks := .later }
def SheetOneCardSaid : Prop := Claim7.holds Tryz.pinned (.plain (OpenSpec.ofChange sheetOneSpec)) sheetOneCard

/-- THE SECOND FORM's CARD OF 'vitrinelaw11.SheetOne'. -/
def sheetOneUptoCard : Claim7 := { stood := { row := sheetOneUptoRow, standIns := [], harness := (true, "22346d7ac70a517ff7924589469a3d89b8ee475a144d1844404bb1d2577018e5"), looks := true }, kinds := [], alts := [], laidByText := true, laidKinds := [.data, .data, .data, .data, .sentinel, .sentinel, .pinned], laidTests := true, laidLooks := .later }
def SheetOneUptoCardSaid : Prop := Claim7.holds Tryz.pinned (.plain (OpenSpec.upto sheetOneSpec)) sheetOneUptoCard
end Rows
end Go.Proofs.YtoiadnecjabbeaaGreatDoor
