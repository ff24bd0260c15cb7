/-
  DERIVED. GIVEN WITH THE SEED: THE CARDS: each row of YtbgmaekmfjhfoaaGreatDoorRows.lean that lists a variable, with what it lists TIED to the program's text (the seventh form; the later family's looks); each row that meets fmt, with fmt's text TOLD by the authors' own Lean function (tested against real Go, not proved from fmt's source: count such statements apart). THE CARD IS WHAT COUNTS. Prove the row's statement (the work); the ties are given (YtbgmaekmfjhfoaaGreatDoorTie.lean); close each card by the builder's one call (the guide's Derived/Test/ToyasCard.lean, 'card_holds'). Laid BY PROGRAM, IN A SANDBOX (cutbox-door.mjs). By AI agents, Wed Nov 11 2026. No macro, syntax, notation, axiom, sorry.
-/
import Derived.Test.YtbgmaekmfjhfoaaGreatDoorRows
import GoSem.ClaimSeven
namespace Go.Proofs.YtbgmaekmfjhfoaaGreatDoor
namespace Rows

/-- THE TIED CARD OF 'vitrinelaw11.SheetKept'. -/
def sheetKeptCard : Claim7 := { stood := { row := sheetKeptRow, standIns := [], harness := (true, "e373bffaeb87d2e722d3fbc0b722348a0771b8ee090e71b5febd95a1168a44a8"), looks := true }, kinds := [], alts := [], laidByText := true, laidKinds := [.data, .data, .data, .data, .sentinel, .sentinel, .pinned], laidTests := true, laidLooks := .later }
def SheetKeptCardSaid : Prop := Claim7.holds Tryz.pinned (.plain (OpenSpec.ofChange sheetKeptSpec)) sheetKeptCard

/-- THE SECOND FORM's CARD OF 'vitrinelaw11.SheetKept'. -/
def sheetKeptUptoCard : Claim7 := { stood := { row := sheetKeptUptoRow, standIns := [], harness := (true, "e373bffaeb87d2e722d3fbc0b722348a0771b8ee090e71b5febd95a1168a44a8"), looks := true }, kinds := [], alts := [], laidByText := true, laidKinds := [.data, .data, .data, .data, .sentinel, .sentinel, .pinned], laidTests := true, laidLooks := .later }
def SheetKeptUptoCardSaid : Prop := Claim7.holds Tryz.pinned (.plain (OpenSpec.upto sheetKeptSpec)) sheetKeptUptoCard
end Rows
end Go.Proofs.YtbgmaekmfjhfoaaGreatDoor
