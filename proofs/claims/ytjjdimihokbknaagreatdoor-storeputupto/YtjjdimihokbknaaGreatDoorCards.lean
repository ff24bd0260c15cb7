/-
  DERIVED. GIVEN WITH THE SEED: THE CARDS: each row of YtjjdimihokbknaaGreatDoorRows.lean that lists a variable, with what it lists TIED to the program's text (the seventh form; the later family's looks); each row that meets fmt, with fmt's text TOLD by the authors' own Lean function (tested against real Go, not proved from fmt's source: count such statements apart). THE CARD IS WHAT COUNTS. Prove the row's statement (the work); the ties are given (YtjjdimihokbknaaGreatDoorTie.lean); close each card by the builder's one call (the guide's Derived/Test/ToyasCard.lean, 'card_holds'). Laid BY PROGRAM, IN A SANDBOX (cutbox-door.mjs). By AI agents, Wed Nov 11 2026. No macro, syntax, notation, axiom, sorry.
-/
import Derived.Test.YtjjdimihokbknaaGreatDoorRows
import GoSem.ClaimSeven
namespace Go.Proofs.YtjjdimihokbknaaGreatDoor
namespace Rows

/-- THE TIED CARD OF 'vitrinelaw36.StorePut'. -/
def storePutCard : Claim7 := { stood := { row := storePutRow, standIns := [], harness := (true, "051b8d56c15728f06a05f6c357c1586c43eaa1243ede9f2293328ce97926e02b"), looks := true }, kinds := [], alts := [], laidByText := true, laidKinds := [.data, .data, .data, .data, .sentinel, .sentinel, .pinned], laidTests := true, laidLooks := .later }
def StorePutCardSaid : Prop := Claim7.holds Tryz.pinned (.plain (OpenSpec.ofChange storePutSpec)) storePutCard

/-- THE SECOND FORM's CARD OF 'vitrinelaw36.StorePut'. -/
def storePutUptoCard : Claim7 := { stood := { row := storePutUptoRow, standIns := [], harness := (true, "051b8d56c15728f06a05f6c357c1586c43eaa1243ede9f2293328ce97926e02b"), looks := true }, kinds := [], alts := [], laidByText := true, laidKinds := [.data, .data, .data, .data, .sentinel, .sentinel, .pinned], laidTests := true, laidLooks := .later }
def StorePutUptoCardSaid : Prop := Claim7.holds Tryz.pinned (.plain (OpenSpec.upto storePutSpec)) storePutUptoCard
end Rows
end Go.Proofs.YtjjdimihokbknaaGreatDoor
