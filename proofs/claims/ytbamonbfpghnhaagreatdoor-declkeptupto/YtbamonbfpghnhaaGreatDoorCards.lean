/-
  DERIVED. GIVEN WITH THE SEED: THE CARDS: each row of YtbamonbfpghnhaaGreatDoorRows.lean that lists a variable, with what it lists TIED to the program's text (the seventh form; the later family's looks); each row that meets fmt, with fmt's text TOLD by the authors' own Lean function (tested against real Go, not proved from fmt's source: count such statements apart). THE CARD IS WHAT COUNTS. Prove the row's statement (the work); the ties are given (YtbamonbfpghnhaaGreatDoorTie.lean); close each card by the builder's one call (the guide's Derived/Test/ToyasCard.lean, 'card_holds'). Laid BY PROGRAM, IN A SANDBOX (cutbox-door.mjs). By AI agents, Wed Nov 11 2026. No macro, syntax, notation, axiom, sorry.
-/
import Derived.Test.YtbamonbfpghnhaaGreatDoorRows
import GoSem.ClaimSeven
namespace Go.Proofs.YtbamonbfpghnhaaGreatDoor
namespace Rows

/-- THE TIED CARD OF 'vitrinelaw05.DeclKept'. -/
def declKeptCard : Claim7 := { stood := { row := declKeptRow, standIns := [], harness := (true, "4d31b0de99eea8b66a84d5879a9b3d53d17a74b2869f677712afe45e21011dcc"), looks := true }, kinds := [], alts := [], laidByText := true, laidKinds := [.data, .data, .data, .data, .pinned], laidTests := true, laidLooks := .later }
def DeclKeptCardSaid : Prop := Claim7.holds Tryz.pinned (.plain (OpenSpec.ofChange declKeptSpec)) declKeptCard

/-- THE SECOND FORM's CARD OF 'vitrinelaw05.DeclKept'. -/
def declKeptUptoCard : Claim7 := { stood := { row := declKeptUptoRow, standIns := [], harness := (true, "4d31b0de99eea8b66a84d5879a9b3d53d17a74b2869f677712afe45e21011dcc"), looks := true }, kinds := [], alts := [], laidByText := true, laidKinds := [.data, .data, .data, .data, .pinned], laidTests := true, laidLooks := .later }
def DeclKeptUptoCardSaid : Prop := Claim7.holds Tryz.pinned (.plain (OpenSpec.upto declKeptSpec)) declKeptUptoCard
end Rows
end Go.Proofs.YtbamonbfpghnhaaGreatDoor
