/-
  DERIVED. GIVEN WITH THE SEED: THE CARDS: each row of YtagibnnojbolnaaGreatDoorRows.lean that lists a variable, with what it lists TIED to the program's text (the seventh form; the later family's looks); each row that meets fmt, with fmt's text TOLD by the authors' own Lean function (tested against real Go, not proved from fmt's source: count such statements apart). THE CARD IS WHAT COUNTS. Prove the row's statement (the work); the ties are given (YtagibnnojbolnaaGreatDoorTie.lean); close each card by the builder's one call (the guide's Derived/Test/ToyasCard.lean, 'card_holds'). Laid BY PROGRAM, IN A SANDBOX (cutbox-door.mjs). By AI agents, Wed Nov 11 2026. No macro, syntax, notation, axiom, sorry.
-/
import Derived.Test.YtagibnnojbolnaaGreatDoorRows
import GoSem.ClaimSeven
namespace Go.Proofs.YtagibnnojbolnaaGreatDoor
namespace Rows

/-- THE TIED CARD OF 'vitrinelaw36.StoreUndo'. -/
def storeUndoCard : Claim7 := { stood := { row := storeUndoRow, standIns := [], harness := (true, "3d2632ef3fa767555a5069187b09505436c71b61627deb04fe58dbbfcef6dd66"), looks := true }, kinds := [], alts := [], laidByText := true, laidKinds := [.data, .data, .data, .data, .sentinel, .sentinel, .pinned], laidTests := true, laidLooks := .later }
def StoreUndoCardSaid : Prop := Claim7.holds Tryz.pinned (.plain (OpenSpec.ofChange storeUndoSpec)) storeUndoCard

/-- THE SECOND FORM's CARD OF 'vitrinelaw36.StoreUndo'. -/
def storeUndoUptoCard : Claim7 := { stood := { row := storeUndoUptoRow, standIns := [], harness := (true, "3d2632ef3fa767555a5069187b09505436c71b61627deb04fe58dbbfcef6dd66"), looks := true }, kinds := [], alts := [], laidByText := true, laidKinds := [.data, .data, .data, .data, .sentinel, .sentinel, .pinned], laidTests := true, laidLooks := .later }
def StoreUndoUptoCardSaid : Prop := Claim7.holds Tryz.pinned (.plain (OpenSpec.upto storeUndoSpec)) storeUndoUptoCard
end Rows
end Go.Proofs.YtagibnnojbolnaaGreatDoor
