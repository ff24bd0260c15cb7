/-
  DERIVED. GIVEN WITH THE SEED: THE CARDS: each row of YtiidaccdmolmkaaGreatDoorRows.lean that lists a variable, with what it lists TIED to the program's text (the seventh form; the later family's looks); each row that meets fmt, with fmt's text TOLD by the authors' own Lean function (tested against real Go, not proved from fmt's source: count such statements apart). THE CARD IS WHAT COUNTS. Prove the row's statement (the work); the ties are given (YtiidaccdmolmkaaGreatDoorTie.lean); close each card by the builder's one call (the guide's Derived/Test/ToyasCard.lean, 'card_holds'). Laid BY PROGRAM, IN A SANDBOX (cutbox-door.mjs). By AI agents, Wed Nov 11 2026. No macro, syntax, notation, axiom, sorry.
-/
import Derived.Test.YtiidaccdmolmkaaGreatDoorRows
import GoSem.ClaimSeven
namespace Go.Proofs.YtiidaccdmolmkaaGreatDoor
namespace Rows

/-- THE TIED CARD OF 'vitrinelaw12.RoundWrites'. -/
def roundWritesCard : Claim7 := { stood := { row := roundWritesRow, standIns := [], harness := (true, "44a0376c3deb4d2e5c3e898700e62b25efad4a18c46798c240d8efb3ec89abf6"), looks := true }, kinds := [], alts := [], laidByText := true, laidKinds := [.data, .data, .data, .data, .pinned], laidTests := true, laidLooks := .later }
def RoundWritesCardSaid : Prop := Claim7.holds Tryz.pinned (.plain (OpenSpec.ofChange roundWritesSpec)) roundWritesCard

/-- THE SECOND FORM's CARD OF 'vitrinelaw12.RoundWrites'. -/
def roundWritesUptoCard : Claim7 := { stood := { row := roundWritesUptoRow, standIns := [], harness := (true, "44a0376c3deb4d2e5c3e898700e62b25efad4a18c46798c240d8efb3ec89abf6"), looks := true }, kinds := [], alts := [], laidByText := true, laidKinds := [.data, .data, .data, .data, .pinned], laidTests := true, laidLooks := .later }
def RoundWritesUptoCardSaid : Prop := Claim7.holds Tryz.pinned (.plain (OpenSpec.upto roundWritesSpec)) roundWritesUptoCard
end Rows
end Go.Proofs.YtiidaccdmolmkaaGreatDoor
