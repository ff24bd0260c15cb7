/-
  DERIVED. GIVEN WITH THE SEED: THE CARDS: each row of YthejohdmenffiaaGreatDoorRows.lean that lists a variable, with what it lists TIED to the program's text (the seventh form; the later family's looks); each row that meets fmt, with fmt's text TOLD by the authors' own Lean function (tested against real Go, not proved from fmt's source: count such statements apart). THE CARD IS WHAT COUNTS. Prove the row's statement (the work); the ties are given (YthejohdmenffiaaGreatDoorTie.lean); close each card by the builder's one call (the guide's Derived/Test/ToyasCard.lean, 'card_holds'). Laid BY PROGRAM, IN A SANDBOX (cutbox-door.mjs). By AI agents, Wed Nov 11 2026. No macro, syntax, notation, axiom, sorry.
-/
import Derived.Test.YthejohdmenffiaaGreatDoorRows
import GoSem.ClaimSeven
namespace Go.Proofs.YthejohdmenffiaaGreatDoor
namespace Rows

/-- THE TIED CARD OF 'vitrinelaw11.SheetNames'. -/
def sheetNamesCard : Claim7 := { stood := { row := sheetNamesRow, standIns := [], harness := (true, "79f8e149ab8918d9794905291e0c6199bdb4e5f5e8a8080428e61a5556f6f5d9"), looks := true }, kinds := [], alts := [], laidByText := true, laidKinds := [.data, .data, .data, .data, .sentinel, .sentinel, .pinned], laidTests := true, laidLooks := .later }
def SheetNamesCardSaid : Prop := Claim7.holds Tryz.pinned (.plain (OpenSpec.ofChange sheetNamesSpec)) sheetNamesCard

/-- THE TIED CARD OF 'vitrinelaw11.SheetBad'. -/
def sheetBadCard : Claim7 := { stood := { row := sheetBadRow, standIns := [], harness := (true, "79f8e149ab8918d9794905291e0c6199bdb4e5f5e8a8080428e61a5556f6f5d9"), looks := true }, kinds := [], alts := [], laidByText := true, laidKinds := [.data, .data, .data, .data, .sentinel, .sentinel, .pinned], laidTests := true, laidLooks := .later }
def SheetBadCardSaid : Prop := Claim7.holds Tryz.pinned (.plain (OpenSpec.ofChange sheetBadSpec)) sheetBadCard

/-- THE TIED CARD OF 'vitrinelaw36.StorePut'. -/
def storePutCard : Claim7 := { stood := { row := storePutRow, standIns := [], harness := (true, "79f8e149ab8918d9794905291e0c6199bdb4e5f5e8a8080428e61a5556f6f5d9"), looks := true }, kinds := [], alts := [], laidByText := true, laidKinds := [.data, .data, .data, .data, .sentinel, .sentinel, .pinned], laidTests := true, laidLooks := .later }
def StorePutCardSaid : Prop := Claim7.holds Tryz.pinned (.plain (OpenSpec.ofChange storePutSpec)) storePutCard

/-- THE SECOND FORM's CARD OF 'vitrinelaw11.SheetNames'. -/
def sheetNamesUptoCard : Claim7 := { stood := { row := sheetNamesUptoRow, standIns := [], harness := (true, "79f8e149ab8918d9794905291e0c6199bdb4e5f5e8a8080428e61a5556f6f5d9"), looks := true }, kinds := [], alts := [], laidByText := true, laidKinds := [.data, .data, .data, .data, .sentinel, .sentinel, .pinned], laidTests := true, laidLooks := .later }
def SheetNamesUptoCardSaid : Prop := Claim7.holds Tryz.pinned (.plain (OpenSpec.upto sheetNamesSpec)) sheetNamesUptoCard

/-- THE SECOND FORM's CARD OF 'vitrinelaw11.SheetBad'. -/
def sheetBadUptoCard : Claim7 := { stood := { row := sheetBadUptoRow, standIns := [], harness := (true, "79f8e149ab8918d9794905291e0c6199bdb4e5f5e8a8080428e61a5556f6f5d9"), looks := true }, kinds := [], alts := [], laidByText := true, laidKinds := [.data, .data, .data, .data, .sentinel, .sentinel, .pinned], laidTests := true, laidLooks := .later }
def SheetBadUptoCardSaid : Prop := Claim7.holds Tryz.pinned (.plain (OpenSpec.upto sheetBadSpec)) sheetBadUptoCard

/-- THE SECOND FORM's CARD OF 'vitrinelaw36.StorePut'. -/
def storePutUptoCard : Claim7 := { stood := { row := storePutUptoRow, standIns := [], harness := (true, "79f8e149ab8918d9794905291e0c6199bdb4e5f5e8a8080428e61a5556f6f5d9"), looks := true }, kinds := [], alts := [], laidByText := true, laidKinds := [.data, .data, .data, .data, .sentinel, .sentinel, .pinned], laidTests := true, laidLooks := .later }
def StorePutUptoCardSaid : Prop := Claim7.holds Tryz.pinned (.plain (OpenSpec.upto storePutSpec)) storePutUptoCard
end Rows
end Go.Proofs.YthejohdmenffiaaGreatDoor
