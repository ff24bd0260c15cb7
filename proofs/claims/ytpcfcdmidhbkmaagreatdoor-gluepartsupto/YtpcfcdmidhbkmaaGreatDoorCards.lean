/-
  DERIVED. GIVEN WITH THE SEED: THE CARDS: each row of YtpcfcdmidhbkmaaGreatDoorRows.lean that lists a variable, with what it lists TIED to the program's text (the seventh form; the later family's looks); each row that meets fmt, with fmt's text TOLD by the authors' own Lean function (tested against real Go, not proved from fmt's source: count such statements apart). THE CARD IS WHAT COUNTS. Prove the row's statement (the work); the ties are given (YtpcfcdmidhbkmaaGreatDoorTie.lean); close each card by the builder's one call (the guide's Derived/Test/ToyasCard.lean, 'card_holds'). Laid BY PROGRAM, IN A SANDBOX (cutbox-door.mjs). By AI agents, Wed Nov 11 2026. No macro, syntax, notation, axiom, sorry.
-/
import Derived.Test.YtpcfcdmidhbkmaaGreatDoorRows
import GoSem.ClaimSeven
namespace Go.Proofs.YtpcfcdmidhbkmaaGreatDoor
namespace Rows

/-- THE TIED CARD OF 'vitrinelaw03.GlueParts'. -/
def gluePartsCard : Claim7 := { stood := { row := gluePartsRow, standIns := [], harness := (true, "1a0fb54b532c36322449c5e67726b1b0ac411c31c0796faa2b93a0171956a15d"), looks := true }, kinds := [], alts := [], laidByText := true, laidKinds := [.data, .data, .data, .data, .pinned], laidTests := true, laidLooks := .later }
def GluePartsCardSaid : Prop := Claim7.holds Tryz.pinned (.plain (OpenSpec.ofChange gluePartsSpec)) gluePartsCard

/-- THE SECOND FORM's CARD OF 'vitrinelaw03.GlueParts'. -/
def gluePartsUptoCard : Claim7 := { stood := { row := gluePartsUptoRow, standIns := [], harness := (true, "1a0fb54b532c36322449c5e67726b1b0ac411c31c0796faa2b93a0171956a15d"), looks := true }, kinds := [], alts := [], laidByText := true, laidKinds := [.data, .data, .data, .data, .pinned], laidTests := true, laidLooks := .later }
def GluePartsUptoCardSaid : Prop := Claim7.holds Tryz.pinned (.plain (OpenSpec.upto gluePartsSpec)) gluePartsUptoCard
end Rows
end Go.Proofs.YtpcfcdmidhbkmaaGreatDoor
