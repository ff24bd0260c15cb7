/-
  DERIVED. GIVEN WITH THE SEED: THE CARDS: each row of YtkecjfeffabgiaaGreatDoorRows.lean that lists a variable, with what it lists TIED to the program's text (the seventh form; the later family's looks); each row that meets fmt, with fmt's text TOLD by the authors' own Lean function (tested against real Go, not proved from fmt's source: count such statements apart). THE CARD IS WHAT COUNTS. Prove the row's statement (the work); the ties are given (YtkecjfeffabgiaaGreatDoorTie.lean); close each card by the builder's one call (the guide's Derived/Test/ToyasCard.lean, 'card_holds'). Laid BY PROGRAM, IN A SANDBOX (cutbox-door.mjs). By AI agents, Wed Nov 11 2026. No macro, syntax, notation, axiom, sorry.
-/
import Derived.Test.YtkecjfeffabgiaaGreatDoorRows
import GoSem.ClaimSeven
namespace Go.Proofs.YtkecjfeffabgiaaGreatDoor
namespace Rows

/-- THE TIED CARD OF 'vitrinelaw10.CondTells'. -/
def condTellsCard : Claim7 := { stood := { row := condTellsRow, standIns := [], harness := (true, "b5a3bd1cf1e911a22e571437a49e3fb7d5800d1de5a42733c89caf01ebe78488"), looks := true }, kinds := [], alts := [], laidByText := true, laidKinds := [.data, .data, .data, .data, .pinned], laidTests := true, laidLooks := .later }
def CondTellsCardSaid : Prop := Claim7.holds Tryz.pinned (.plain (OpenSpec.ofChange condTellsSpec)) condTellsCard

/-- THE TIED CARD OF 'vitrinelaw10.CondNames'. -/
def condNamesCard : Claim7 := { stood := { row := condNamesRow, standIns := [], harness := (true, "b5a3bd1cf1e911a22e571437a49e3fb7d5800d1de5a42733c89caf01ebe78488"), looks := true }, kinds := [], alts := [], laidByText := true, laidKinds := [.data, .data, .data, .data, .pinned], laidTests := true, laidLooks := .later }
def CondNamesCardSaid : Prop := Claim7.holds Tryz.pinned (.plain (OpenSpec.ofChange condNamesSpec)) condNamesCard

/-- THE TIED CARD OF 'vitrinelaw10.CondLogic'. -/
def condLogicCard : Claim7 := { stood := { row := condLogicRow, standIns := [], harness := (true, "b5a3bd1cf1e911a22e571437a49e3fb7d5800d1de5a42733c89caf01ebe78488"), looks := true }, kinds := [], alts := [], laidByText := true, laidKinds := [.data, .data, .data, .data, .pinned], laidTests := true, laidLooks := .later }
def CondLogicCardSaid : Prop := Claim7.holds Tryz.pinned (.plain (OpenSpec.ofChange condLogicSpec)) condLogicCard

/-- THE TIED CARD OF 'vitrinelaw10.CondBack'. -/
def condBackCard : Claim7 := { stood := { row := condBackRow, standIns := [], harness := (true, "b5a3bd1cf1e911a22e571437a49e3fb7d5800d1de5a42733c89caf01ebe78488"), looks := true }, kinds := [], alts := [], laidByText := true, laidKinds := [.data, .data, .data, .data, .pinned], laidTests := true, laidLooks := .later }
def CondBackCardSaid : Prop := Claim7.holds Tryz.pinned (.plain (OpenSpec.ofChange condBackSpec)) condBackCard

/-- THE TIED CARD OF 'vitrinelaw10.CondWide'. -/
def condWideCard : Claim7 := { stood := { row := condWideRow, standIns := [], harness := (true, "b5a3bd1cf1e911a22e571437a49e3fb7d5800d1de5a42733c89caf01ebe78488"), looks := true }, kinds := [], alts := [], laidByText := true, laidKinds := [.data, .data, .data, .data, .pinned], laidTests := true, laidLooks := .later }
def CondWideCardSaid : Prop := Claim7.holds Tryz.pinned (.plain (OpenSpec.ofChange condWideSpec)) condWideCard

/-- THE TIED CARD OF 'vitrinelaw10.CondDecls'. -/
def condDeclsCard : Claim7 := { stood := { row := condDeclsRow, standIns := [], harness := (true, "b5a3bd1cf1e911a22e571437a49e3fb7d5800d1de5a42733c89caf01ebe78488"), looks := true }, kinds := [], alts := [], laidByText := true, laidKinds := [.data, .data, .data, .data, .pinned], laidTests := true, laidLooks := .later }
def CondDeclsCardSaid : Prop := Claim7.holds Tryz.pinned (.plain (OpenSpec.ofChange condDeclsSpec)) condDeclsCard

/-- THE SECOND FORM's CARD OF 'vitrinelaw10.CondTells'. -/
def condTellsUptoCard : Claim7 := { stood := { row := condTellsUptoRow, standIns := [], harness := (true, "b5a3bd1cf1e911a22e571437a49e3fb7d5800d1de5a42733c89caf01ebe78488"), looks := true }, kinds := [], alts := [], laidByText := true, laidKinds := [.data, .data, .data, .data, .pinned], laidTests := true, laidLooks := .later }
def CondTellsUptoCardSaid : Prop := Claim7.holds Tryz.pinned (.plain (OpenSpec.upto condTellsSpec)) condTellsUptoCard

/-- THE SECOND FORM's CARD OF 'vitrinelaw10.CondNames'. -/
def condNamesUptoCard : Claim7 := { stood := { row := condNamesUptoRow, standIns := [], harness := (true, "b5a3bd1cf1e911a22e571437a49e3fb7d5800d1de5a42733c89caf01ebe78488"), looks := true }, kinds := [], alts := [], laidByText := true, laidKinds := [.data, .data, .data, .data, .pinned], laidTests := true, laidLooks := .later }
def CondNamesUptoCardSaid : Prop := Claim7.holds Tryz.pinned (.plain (OpenSpec.upto condNamesSpec)) condNamesUptoCard

/-- THE SECOND FORM's CARD OF 'vitrinelaw10.CondLogic'. -/
def condLogicUptoCard : Claim7 := { stood := { row := condLogicUptoRow, standIns := [], harness := (true, "b5a3bd1cf1e911a22e571437a49e3fb7d5800d1de5a42733c89caf01ebe78488"), looks := true }, kinds := [], alts := [], laidByText := true, laidKinds := [.data, .data, .data, .data, .pinned], laidTests := true, laidLooks := .later }
def CondLogicUptoCardSaid : Prop := Claim7.holds Tryz.pinned (.plain (OpenSpec.upto condLogicSpec)) condLogicUptoCard

/-- THE SECOND FORM's CARD OF 'vitrinelaw10.CondBack'. -/
def condBackUptoCard : Claim7 := { stood := { row := condBackUptoRow, standIns := [], harness := (true, "b5a3bd1cf1e911a22e571437a49e3fb7d5800d1de5a42733c89caf01ebe78488"), looks := true }, kinds := [], alts := [], laidByText := true, laidKinds := [.data, .data, .data, .data, .pinned], laidTests := true, laidLooks := .later }
def CondBackUptoCardSaid : Prop := Claim7.holds Tryz.pinned (.plain (OpenSpec.upto condBackSpec)) condBackUptoCard

/-- THE SECOND FORM's CARD OF 'vitrinelaw10.CondWide'. -/
def condWideUptoCard : Claim7 := { stood := { row := condWideUptoRow, standIns := [], harness := (true, "b5a3bd1cf1e911a22e571437a49e3fb7d5800d1de5a42733c89caf01ebe78488"), looks := true }, kinds := [], alts := [], laidByText := true, laidKinds := [.data, .data, .data, .data, .pinned], laidTests := true, laidLooks := .later }
def CondWideUptoCardSaid : Prop := Claim7.holds Tryz.pinned (.plain (OpenSpec.upto condWideSpec)) condWideUptoCard

/-- THE SECOND FORM's CARD OF 'vitrinelaw10.CondDecls'. -/
def condDeclsUptoCard : Claim7 := { stood := { row := condDeclsUptoRow, standIns := [], harness := (true, "b5a3bd1cf1e911a22e571437a49e3fb7d5800d1de5a42733c89caf01ebe78488"), looks := true }, kinds := [], alts := [], laidByText := true, laidKinds := [.data, .data, .data, .data, .pinned], laidTests := true, laidLooks := .later }
def CondDeclsUptoCardSaid : Prop := Claim7.holds Tryz.pinned (.plain (OpenSpec.upto condDeclsSpec)) condDeclsUptoCard
end Rows
end Go.Proofs.YtkecjfeffabgiaaGreatDoor
