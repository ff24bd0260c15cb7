/-
  DERIVED. GIVEN WITH THE SEED: THE CARDS: each row of YtamhhfdcmkbofaaGreatDoorRows.lean that lists a variable, with what it lists TIED to the program's text (the seventh form; the later family's looks); each row that meets fmt, with fmt's text TOLD by the authors' own Lean function (tested against real Go, not proved from fmt's source: count such statements apart). THE CARD IS WHAT COUNTS. Prove the row's statement (the work); the ties are given (YtamhhfdcmkbofaaGreatDoorTie.lean); close each card by the builder's one call (the guide's Derived/Test/ToyasCard.lean, 'card_holds'). Laid BY PROGRAM, IN A SANDBOX (cutbox-door.mjs). By AI agents, Wed Nov 11 2026. No macro, syntax, notation, axiom, sorry.
-/
import Derived.Test.YtamhhfdcmkbofaaGreatDoorRows
import GoSem.ClaimSeven
namespace Go.Proofs.YtamhhfdcmkbofaaGreatDoor
namespace Rows

/-- THE TIED CARD OF 'vitrinelaw37.CssomNames'. -/
def cssomNamesCard : Claim7 := { stood := { row := cssomNamesRow, standIns := [], harness := (true, "e18638d8e4b61e2677dcc8bde3320f77ef98d571e92bd88e32578a81e34f949d"), looks := true }, kinds := [], alts := [], laidByText := true, laidKinds := [.data, .data, .data, .data, .sentinel, .sentinel, .pinned], laidTests := true, laidLooks := .later }
def CssomNamesCardSaid : Prop := Claim7.holds Tryz.pinned (.plain (OpenSpec.ofChange cssomNamesSpec)) cssomNamesCard

/-- THE SECOND FORM's CARD OF 'vitrinelaw37.CssomNames'. -/
def cssomNamesUptoCard : Claim7 := { stood := { row := cssomNamesUptoRow, standIns := [], harness := (true, "e18638d8e4b61e2677dcc8bde3320f77ef98d571e92bd88e32578a81e34f949d"), looks := true }, kinds := [], alts := [], laidByText := true, laidKinds := [.data, .data, .data, .data, .sentinel, .sentinel, .pinned], laidTests := true, laidLooks := .later }
def CssomNamesUptoCardSaid : Prop := Claim7.holds Tryz.pinned (.plain (OpenSpec.upto cssomNamesSpec)) cssomNamesUptoCard
end Rows
end Go.Proofs.YtamhhfdcmkbofaaGreatDoor
