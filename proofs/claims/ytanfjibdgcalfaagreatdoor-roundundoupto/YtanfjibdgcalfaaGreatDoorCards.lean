/-
  DERIVED. GIVEN WITH THE SEED: THE CARDS: each row of YtanfjibdgcalfaaGreatDoorRows.lean that lists a variable, with what it lists TIED to the program's text (the seventh form; the later family's looks); each row that meets fmt, with fmt's text TOLD by the authors' own Lean function (tested against real Go, not proved from fmt's source: count such statements apart). THE CARD IS WHAT COUNTS. Prove the row's statement (the work); the ties are given (YtanfjibdgcalfaaGreatDoorTie.lean); close each card by the builder's one call (the guide's Derived/Test/ToyasCard.lean, 'card_holds'). Laid BY PROGRAM, IN A SANDBOX (cutbox-door.mjs). By AI agents, Wed Nov 11 2026. No macro, syntax, notation, axiom, sorry.
-/
import Derived.Test.YtanfjibdgcalfaaGreatDoorRows
import GoSem.ClaimSeven
namespace Go.Proofs.YtanfjibdgcalfaaGreatDoor
namespace Rows

/-- THE TIED CARD OF 'vitrinelaw11.SheetNames'. -/
def sheetNamesCard : Claim7 := { stood := { row := sheetNamesRow, standIns := [], harness := (true, "46e8336c2ac3d8ff4658b0ff15372afcf036a3d921df7eee3a3f6aea31fcc04b"), looks := true }, kinds := [], alts := [], laidByText := true, laidKinds := [.data, .data, .data, .data, .sentinel, .sentinel, .pinned], laidTests := true, laidLooks := .later }
def SheetNamesCardSaid : Prop := Claim7.holds Tryz.pinned (.plain (OpenSpec.ofChange sheetNamesSpec)) sheetNamesCard

/-- THE TIED CARD OF 'vitrinelaw12.RoundUndo'. -/
def roundUndoCard : Claim7 := { stood := { row := roundUndoRow, standIns := [], harness := (true, "46e8336c2ac3d8ff4658b0ff15372afcf036a3d921df7eee3a3f6aea31fcc04b"), looks := true }, kinds := [], alts := [], laidByText := true, laidKinds := [.data, .data, .data, .data, .sentinel, .sentinel, .pinned], laidTests := true, laidLooks := .later }
def RoundUndoCardSaid : Prop := Claim7.holds Tryz.pinned (.plain (OpenSpec.ofChange roundUndoSpec)) roundUndoCard

/-- THE TIED CARD OF 'vitrinelaw12.RoundNames'. -/
def roundNamesCard : Claim7 := { stood := { row := roundNamesRow, standIns := [], harness := (true, "46e8336c2ac3d8ff4658b0ff15372afcf036a3d921df7eee3a3f6aea31fcc04b"), looks := true }, kinds := [], alts := [], laidByText := true, laidKinds := [.data, .data, .data, .data, .sentinel, .sentinel, .pinned], laidTests := true, laidLooks := .later }
def RoundNamesCardSaid : Prop := Claim7.holds Tryz.pinned (.plain (OpenSpec.ofChange roundNamesSpec)) roundNamesCard

/-- THE SECOND FORM's CARD OF 'vitrinelaw11.SheetNames'. -/
def sheetNamesUptoCard : Claim7 := { stood := { row := sheetNamesUptoRow, standIns := [], harness := (true, "46e8336c2ac3d8ff4658b0ff15372afcf036a3d921df7eee3a3f6aea31fcc04b"), looks := true }, kinds := [], alts := [], laidByText := true, laidKinds := [.data, .data, .data, .data, .sentinel, .sentinel, .pinned], laidTests := true, laidLooks := .later }
def SheetNamesUptoCardSaid : Prop := Claim7.holds Tryz.pinned (.plain (OpenSpec.upto sheetNamesSpec)) sheetNamesUptoCard

/-- THE SECOND FORM's CARD OF 'vitrinelaw12.RoundUndo'. -/
def roundUndoUptoCard : Claim7 := { stood := { row := roundUndoUptoRow, standIns := [], harness := (true, "46e8336c2ac3d8ff4658b0ff15372afcf036a3d921df7eee3a3f6aea31fcc04b"), looks := true }, kinds := [], alts := [], laidByText := true, laidKinds := [.data, .data, .data, .data, .sentinel, .sentinel, .pinned], laidTests := true, laidLooks := .later }
def RoundUndoUptoCardSaid : Prop := Claim7.holds Tryz.pinned (.plain (OpenSpec.upto roundUndoSpec)) roundUndoUptoCard

/-- THE SECOND FORM's CARD OF 'vitrinelaw12.RoundNames'. -/
def roundNamesUptoCard : Claim7 := { stood := { row := roundNamesUptoRow, standIns := [], harness := (true, "46e8336c2ac3d8ff4658b0ff15372afcf036a3d921df7eee3a3f6aea31fcc04b"), looks := true }, kinds := [], alts := [], laidByText := true, laidKinds := [.data, .data, .data, .data, .sentinel, .sentinel, .pinned], laidTests := true, laidLooks := .later }
def RoundNamesUptoCardSaid : Prop := Claim7.holds Tryz.pinned (.plain (OpenSpec.upto roundNamesSpec)) roundNamesUptoCard
end Rows
end Go.Proofs.YtanfjibdgcalfaaGreatDoor
