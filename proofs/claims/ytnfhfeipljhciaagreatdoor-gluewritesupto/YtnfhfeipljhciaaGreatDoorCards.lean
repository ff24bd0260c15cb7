/-
  DERIVED. GIVEN WITH THE SEED: THE CARDS: each row of YtnfhfeipljhciaaGreatDoorRows.lean that lists a variable, with what it lists TIED to the program's text (the seventh form; the later family's looks); each row that meets fmt, with fmt's text TOLD by the authors' own Lean function (tested against real Go, not proved from fmt's source: count such statements apart). THE CARD IS WHAT COUNTS. Prove the row's statement (the work); the ties are given (YtnfhfeipljhciaaGreatDoorTie.lean); close each card by the builder's one call (the guide's Derived/Test/ToyasCard.lean, 'card_holds'). Laid BY PROGRAM, IN A SANDBOX (cutbox-door.mjs). By AI agents, Wed Nov 11 2026. No macro, syntax, notation, axiom, sorry.
-/
import Derived.Test.YtnfhfeipljhciaaGreatDoorRows
import GoSem.ClaimSeven
namespace Go.Proofs.YtnfhfeipljhciaaGreatDoor
namespace Rows

/-- THE TIED CARD OF 'vitrinelaw05.DeclReads'. -/
def declReadsCard : Claim7 := { stood := { row := declReadsRow, standIns := [], harness := (true, "4f79984d21bddf7a3fcc312b4008921cd2edd0559caf41c6daab3c67007540e1"), looks := true }, kinds := [], alts := [], laidByText := true, laidKinds := [.data, .pinned], laidTests := true, laidLooks := .later }
def DeclReadsCardSaid : Prop := Claim7.holds Tryz.pinned (.plain (OpenSpec.ofChange declReadsSpec)) declReadsCard

/-- THE TIED CARD OF 'vitrinelaw03.GlueBack'. -/
def glueBackCard : Claim7 := { stood := { row := glueBackRow, standIns := [], harness := (true, "4f79984d21bddf7a3fcc312b4008921cd2edd0559caf41c6daab3c67007540e1"), looks := true }, kinds := [], alts := [], laidByText := true, laidKinds := [.data, .data, .data, .data, .pinned], laidTests := true, laidLooks := .later }
def GlueBackCardSaid : Prop := Claim7.holds Tryz.pinned (.plain (OpenSpec.ofChange glueBackSpec)) glueBackCard

/-- THE TIED CARD OF 'vitrinelaw03.GlueTexts'. -/
def glueTextsCard : Claim7 := { stood := { row := glueTextsRow, standIns := [], harness := (true, "4f79984d21bddf7a3fcc312b4008921cd2edd0559caf41c6daab3c67007540e1"), looks := true }, kinds := [], alts := [], laidByText := true, laidKinds := [.data, .data, .data, .data, .pinned], laidTests := true, laidLooks := .later }
def GlueTextsCardSaid : Prop := Claim7.holds Tryz.pinned (.plain (OpenSpec.ofChange glueTextsSpec)) glueTextsCard

/-- THE TIED CARD OF 'vitrinelaw03.GlueParts'. -/
def gluePartsCard : Claim7 := { stood := { row := gluePartsRow, standIns := [], harness := (true, "4f79984d21bddf7a3fcc312b4008921cd2edd0559caf41c6daab3c67007540e1"), looks := true }, kinds := [], alts := [], laidByText := true, laidKinds := [.data, .data, .data, .data, .pinned], laidTests := true, laidLooks := .later }
def GluePartsCardSaid : Prop := Claim7.holds Tryz.pinned (.plain (OpenSpec.ofChange gluePartsSpec)) gluePartsCard

/-- THE TIED CARD OF 'vitrinelaw03.GlueNames'. -/
def glueNamesCard : Claim7 := { stood := { row := glueNamesRow, standIns := [], harness := (true, "4f79984d21bddf7a3fcc312b4008921cd2edd0559caf41c6daab3c67007540e1"), looks := true }, kinds := [], alts := [], laidByText := true, laidKinds := [.data, .data, .data, .data, .pinned], laidTests := true, laidLooks := .later }
def GlueNamesCardSaid : Prop := Claim7.holds Tryz.pinned (.plain (OpenSpec.ofChange glueNamesSpec)) glueNamesCard

/-- THE TIED CARD OF 'vitrinelaw03.GlueWrites'. -/
def glueWritesCard : Claim7 := { stood := { row := glueWritesRow, standIns := [], harness := (true, "4f79984d21bddf7a3fcc312b4008921cd2edd0559caf41c6daab3c67007540e1"), looks := true }, kinds := [], alts := [], laidByText := true, laidKinds := [.data, .data, .data, .data, .pinned], laidTests := true, laidLooks := .later }
def GlueWritesCardSaid : Prop := Claim7.holds Tryz.pinned (.plain (OpenSpec.ofChange glueWritesSpec)) glueWritesCard

/-- THE TIED CARD OF 'vitrinelaw03.GlueNumbers'. -/
def glueNumbersCard : Claim7 := { stood := { row := glueNumbersRow, standIns := [], harness := (true, "4f79984d21bddf7a3fcc312b4008921cd2edd0559caf41c6daab3c67007540e1"), looks := true }, kinds := [], alts := [], laidByText := true, laidKinds := [.data, .data, .data, .data, .pinned], laidTests := true, laidLooks := .later }
def GlueNumbersCardSaid : Prop := Claim7.holds Tryz.pinned (.plain (OpenSpec.ofChange glueNumbersSpec)) glueNumbersCard

/-- THE TIED CARD OF 'vitrinelaw03.GlueNamed'. -/
def glueNamedCard : Claim7 := { stood := { row := glueNamedRow, standIns := [], harness := (true, "4f79984d21bddf7a3fcc312b4008921cd2edd0559caf41c6daab3c67007540e1"), looks := true }, kinds := [], alts := [], laidByText := true, laidKinds := [.data, .data, .data, .data, .pinned], laidTests := true, laidLooks := .later }
def GlueNamedCardSaid : Prop := Claim7.holds Tryz.pinned (.plain (OpenSpec.ofChange glueNamedSpec)) glueNamedCard

/-- THE SECOND FORM's CARD OF 'vitrinelaw05.DeclReads'. -/
def declReadsUptoCard : Claim7 := { stood := { row := declReadsUptoRow, standIns := [], harness := (true, "4f79984d21bddf7a3fcc312b4008921cd2edd0559caf41c6daab3c67007540e1"), looks := true }, kinds := [], alts := [], laidByText := true, laidKinds := [.data, .pinned], laidTests := true, laidLooks := .later }
def DeclReadsUptoCardSaid : Prop := Claim7.holds Tryz.pinned (.plain (OpenSpec.upto declReadsSpec)) declReadsUptoCard

/-- THE SECOND FORM's CARD OF 'vitrinelaw03.GlueBack'. -/
def glueBackUptoCard : Claim7 := { stood := { row := glueBackUptoRow, standIns := [], harness := (true, "4f79984d21bddf7a3fcc312b4008921cd2edd0559caf41c6daab3c67007540e1"), looks := true }, kinds := [], alts := [], laidByText := true, laidKinds := [.data, .data, .data, .data, .pinned], laidTests := true, laidLooks := .later }
def GlueBackUptoCardSaid : Prop := Claim7.holds Tryz.pinned (.plain (OpenSpec.upto glueBackSpec)) glueBackUptoCard

/-- THE SECOND FORM's CARD OF 'vitrinelaw03.GlueTexts'. -/
def glueTextsUptoCard : Claim7 := { stood := { row := glueTextsUptoRow, standIns := [], harness := (true, "4f79984d21bddf7a3fcc312b4008921cd2edd0559caf41c6daab3c67007540e1"), looks := true }, kinds := [], alts := [], laidByText := true, laidKinds := [.data, .data, .data, .data, .pinned], laidTests := true, laidLooks := .later }
def GlueTextsUptoCardSaid : Prop := Claim7.holds Tryz.pinned (.plain (OpenSpec.upto glueTextsSpec)) glueTextsUptoCard

/-- THE SECOND FORM's CARD OF 'vitrinelaw03.GlueParts'. -/
def gluePartsUptoCard : Claim7 := { stood := { row := gluePartsUptoRow, standIns := [], harness := (true, "4f79984d21bddf7a3fcc312b4008921cd2edd0559caf41c6daab3c67007540e1"), looks := true }, kinds := [], alts := [], laidByText := true, laidKinds := [.data, .data, .data, .data, .pinned], laidTests := true, laidLooks := .later }
def GluePartsUptoCardSaid : Prop := Claim7.holds Tryz.pinned (.plain (OpenSpec.upto gluePartsSpec)) gluePartsUptoCard

/-- THE SECOND FORM's CARD OF 'vitrinelaw03.GlueNames'. -/
def glueNamesUptoCard : Claim7 := { stood := { row := glueNamesUptoRow, standIns := [], harness := (true, "4f79984d21bddf7a3fcc312b4008921cd2edd0559caf41c6daab3c67007540e1"), looks := true }, kinds := [], alts := [], laidByText := true, laidKinds := [.data, .data, .data, .data, .pinned], laidTests := true, laidLooks := .later }
def GlueNamesUptoCardSaid : Prop := Claim7.holds Tryz.pinned (.plain (OpenSpec.upto glueNamesSpec)) glueNamesUptoCard

/-- THE SECOND FORM's CARD OF 'vitrinelaw03.GlueWrites'. -/
def glueWritesUptoCard : Claim7 := { stood := { row := glueWritesUptoRow, standIns := [], harness := (true, "4f79984d21bddf7a3fcc312b4008921cd2edd0559caf41c6daab3c67007540e1"), looks := true }, kinds := [], alts := [], laidByText := true, laidKinds := [.data, .data, .data, .data, .pinned], laidTests := true, laidLooks := .later }
def GlueWritesUptoCardSaid : Prop := Claim7.holds Tryz.pinned (.plain (OpenSpec.upto glueWritesSpec)) glueWritesUptoCard

/-- THE SECOND FORM's CARD OF 'vitrinelaw03.GlueNumbers'. -/
def glueNumbersUptoCard : Claim7 := { stood := { row := glueNumbersUptoRow, standIns := [], harness := (true, "4f79984d21bddf7a3fcc312b4008921cd2edd0559caf41c6daab3c67007540e1"), looks := true }, kinds := [], alts := [], laidByText := true, laidKinds := [.data, .data, .data, .data, .pinned], laidTests := true, laidLooks := .later }
def GlueNumbersUptoCardSaid : Prop := Claim7.holds Tryz.pinned (.plain (OpenSpec.upto glueNumbersSpec)) glueNumbersUptoCard

/-- THE SECOND FORM's CARD OF 'vitrinelaw03.GlueNamed'. -/
def glueNamedUptoCard : Claim7 := { stood := { row := glueNamedUptoRow, standIns := [], harness := (true, "4f79984d21bddf7a3fcc312b4008921cd2edd0559caf41c6daab3c67007540e1"), looks := true }, kinds := [], alts := [], laidByText := true, laidKinds := [.data, .data, .data, .data, .pinned], laidTests := true, laidLooks := .later }
def GlueNamedUptoCardSaid : Prop := Claim7.holds Tryz.pinned (.plain (OpenSpec.upto glueNamedSpec)) glueNamedUptoCard
end Rows
end Go.Proofs.YtnfhfeipljhciaaGreatDoor
