/-
  DERIVED. GIVEN WITH THE SEED: THE CARDS: each row of YtcdeccnjlkkejaaGreatDoorRows.lean that lists a variable, with what it lists TIED to the program's text (the seventh form; the later family's looks); each row that meets fmt, with fmt's text TOLD by the authors' own Lean function (tested against real Go, not proved from fmt's source: count such statements apart). THE CARD IS WHAT COUNTS. Prove the row's statement (the work); the ties are given (YtcdeccnjlkkejaaGreatDoorTie.lean); close each card by the builder's one call (the guide's Derived/Test/ToyasCard.lean, 'card_holds'). Laid BY PROGRAM, IN A SANDBOX (cutbox-door.mjs). By AI agents, Wed Nov 11 2026. No macro, syntax, notation, axiom, sorry.
-/
import Derived.Test.YtcdeccnjlkkejaaGreatDoorRows
import GoSem.ClaimSeven
namespace Go.Proofs.YtcdeccnjlkkejaaGreatDoor
namespace Rows

/-- THE TIED CARD OF 'vitrinelaw04.NestParses'. -/
def nestParsesCard : Claim7 := { stood := { row := nestParsesRow, standIns := [], harness := (true, "06499a24de9488dec88e7188a4355c2cb29447a47aeec2510ab6c744c3d3abdc"), looks := true }, kinds := [], alts := [], laidByText := true, laidKinds := [.data, .data, .data, .data, .pinned], laidTests := true, laidLooks := .later }
def NestParsesCardSaid : Prop := Claim7.holds Tryz.pinned (.plain (OpenSpec.ofChange nestParsesSpec)) nestParsesCard

/-- THE TIED CARD OF 'vitrinelaw04.NestDepth'. -/
def nestDepthCard : Claim7 := { stood := { row := nestDepthRow, standIns := [], harness := (true, "06499a24de9488dec88e7188a4355c2cb29447a47aeec2510ab6c744c3d3abdc"), looks := true }, kinds := [], alts := [], laidByText := true, laidKinds := [.data, .data, .data, .data, .pinned], laidTests := true, laidLooks := .later }
def NestDepthCardSaid : Prop := Claim7.holds Tryz.pinned (.plain (OpenSpec.ofChange nestDepthSpec)) nestDepthCard

/-- THE TIED CARD OF 'vitrinelaw04.NestSplit'. -/
def nestSplitCard : Claim7 := { stood := { row := nestSplitRow, standIns := [], harness := (true, "06499a24de9488dec88e7188a4355c2cb29447a47aeec2510ab6c744c3d3abdc"), looks := true }, kinds := [], alts := [], laidByText := true, laidKinds := [.data, .data, .data, .data, .pinned], laidTests := true, laidLooks := .later }
def NestSplitCardSaid : Prop := Claim7.holds Tryz.pinned (.plain (OpenSpec.ofChange nestSplitSpec)) nestSplitCard

/-- THE TIED CARD OF 'vitrinelaw04.NestNames'. -/
def nestNamesCard : Claim7 := { stood := { row := nestNamesRow, standIns := [], harness := (true, "06499a24de9488dec88e7188a4355c2cb29447a47aeec2510ab6c744c3d3abdc"), looks := true }, kinds := [], alts := [], laidByText := true, laidKinds := [.data, .data, .data, .data, .pinned], laidTests := true, laidLooks := .later }
def NestNamesCardSaid : Prop := Claim7.holds Tryz.pinned (.plain (OpenSpec.ofChange nestNamesSpec)) nestNamesCard

/-- THE TIED CARD OF 'vitrinelaw04.NestTexts'. -/
def nestTextsCard : Claim7 := { stood := { row := nestTextsRow, standIns := [], harness := (true, "06499a24de9488dec88e7188a4355c2cb29447a47aeec2510ab6c744c3d3abdc"), looks := true }, kinds := [], alts := [], laidByText := true, laidKinds := [.data, .data, .data, .data, .pinned], laidTests := true, laidLooks := .later }
def NestTextsCardSaid : Prop := Claim7.holds Tryz.pinned (.plain (OpenSpec.ofChange nestTextsSpec)) nestTextsCard

/-- THE TIED CARD OF 'vitrinelaw05.DeclReads'. -/
def declReadsCard : Claim7 := { stood := { row := declReadsRow, standIns := [], harness := (true, "06499a24de9488dec88e7188a4355c2cb29447a47aeec2510ab6c744c3d3abdc"), looks := true }, kinds := [], alts := [], laidByText := true, laidKinds := [.data, .pinned], laidTests := true, laidLooks := .later }
def DeclReadsCardSaid : Prop := Claim7.holds Tryz.pinned (.plain (OpenSpec.ofChange declReadsSpec)) declReadsCard

/-- THE TIED CARD OF 'vitrinelaw03.GlueParts'. -/
def gluePartsCard : Claim7 := { stood := { row := gluePartsRow, standIns := [], harness := (true, "06499a24de9488dec88e7188a4355c2cb29447a47aeec2510ab6c744c3d3abdc"), looks := true }, kinds := [], alts := [], laidByText := true, laidKinds := [.data, .data, .data, .data, .pinned], laidTests := true, laidLooks := .later }
def GluePartsCardSaid : Prop := Claim7.holds Tryz.pinned (.plain (OpenSpec.ofChange gluePartsSpec)) gluePartsCard

/-- THE TIED CARD OF 'vitrinelaw05.DeclWrites'. -/
def declWritesCard : Claim7 := { stood := { row := declWritesRow, standIns := [], harness := (true, "06499a24de9488dec88e7188a4355c2cb29447a47aeec2510ab6c744c3d3abdc"), looks := true }, kinds := [], alts := [], laidByText := true, laidKinds := [.data, .data, .data, .data, .pinned], laidTests := true, laidLooks := .later }
def DeclWritesCardSaid : Prop := Claim7.holds Tryz.pinned (.plain (OpenSpec.ofChange declWritesSpec)) declWritesCard

/-- THE TIED CARD OF 'vitrinelaw05.DeclOnes'. -/
def declOnesCard : Claim7 := { stood := { row := declOnesRow, standIns := [], harness := (true, "06499a24de9488dec88e7188a4355c2cb29447a47aeec2510ab6c744c3d3abdc"), looks := true }, kinds := [], alts := [], laidByText := true, laidKinds := [.data, .data, .data, .data, .pinned], laidTests := true, laidLooks := .later }
def DeclOnesCardSaid : Prop := Claim7.holds Tryz.pinned (.plain (OpenSpec.ofChange declOnesSpec)) declOnesCard

/-- THE TIED CARD OF 'vitrinelaw05.DeclNames'. -/
def declNamesCard : Claim7 := { stood := { row := declNamesRow, standIns := [], harness := (true, "06499a24de9488dec88e7188a4355c2cb29447a47aeec2510ab6c744c3d3abdc"), looks := true }, kinds := [], alts := [], laidByText := true, laidKinds := [.data, .data, .data, .data, .pinned], laidTests := true, laidLooks := .later }
def DeclNamesCardSaid : Prop := Claim7.holds Tryz.pinned (.plain (OpenSpec.ofChange declNamesSpec)) declNamesCard

/-- THE TIED CARD OF 'vitrinelaw05.DeclMark'. -/
def declMarkCard : Claim7 := { stood := { row := declMarkRow, standIns := [], harness := (true, "06499a24de9488dec88e7188a4355c2cb29447a47aeec2510ab6c744c3d3abdc"), looks := true }, kinds := [], alts := [], laidByText := true, laidKinds := [.data, .data, .data, .data, .pinned], laidTests := true, laidLooks := .later }
def DeclMarkCardSaid : Prop := Claim7.holds Tryz.pinned (.plain (OpenSpec.ofChange declMarkSpec)) declMarkCard

/-- THE TIED CARD OF 'vitrinelaw05.DeclBack'. -/
def declBackCard : Claim7 := { stood := { row := declBackRow, standIns := [], harness := (true, "06499a24de9488dec88e7188a4355c2cb29447a47aeec2510ab6c744c3d3abdc"), looks := true }, kinds := [], alts := [], laidByText := true, laidKinds := [.data, .data, .data, .data, .pinned], laidTests := true, laidLooks := .later }
def DeclBackCardSaid : Prop := Claim7.holds Tryz.pinned (.plain (OpenSpec.ofChange declBackSpec)) declBackCard

/-- THE SECOND FORM's CARD OF 'vitrinelaw04.NestParses'. -/
def nestParsesUptoCard : Claim7 := { stood := { row := nestParsesUptoRow, standIns := [], harness := (true, "06499a24de9488dec88e7188a4355c2cb29447a47aeec2510ab6c744c3d3abdc"), looks := true }, kinds := [], alts := [], laidByText := true, laidKinds := [.data, .data, .data, .data, .pinned], laidTests := true, laidLooks := .later }
def NestParsesUptoCardSaid : Prop := Claim7.holds Tryz.pinned (.plain (OpenSpec.upto nestParsesSpec)) nestParsesUptoCard

/-- THE SECOND FORM's CARD OF 'vitrinelaw04.NestDepth'. -/
def nestDepthUptoCard : Claim7 := { stood := { row := nestDepthUptoRow, standIns := [], harness := (true, "06499a24de9488dec88e7188a4355c2cb29447a47aeec2510ab6c744c3d3abdc"), looks := true }, kinds := [], alts := [], laidByText := true, laidKinds := [.data, .data, .data, .data, .pinned], laidTests := true, laidLooks := .later }
def NestDepthUptoCardSaid : Prop := Claim7.holds Tryz.pinned (.plain (OpenSpec.upto nestDepthSpec)) nestDepthUptoCard

/-- THE SECOND FORM's CARD OF 'vitrinelaw04.NestSplit'. -/
def nestSplitUptoCard : Claim7 := { stood := { row := nestSplitUptoRow, standIns := [], harness := (true, "06499a24de9488dec88e7188a4355c2cb29447a47aeec2510ab6c744c3d3abdc"), looks := true }, kinds := [], alts := [], laidByText := true, laidKinds := [.data, .data, .data, .data, .pinned], laidTests := true, laidLooks := .later }
def NestSplitUptoCardSaid : Prop := Claim7.holds Tryz.pinned (.plain (OpenSpec.upto nestSplitSpec)) nestSplitUptoCard

/-- THE SECOND FORM's CARD OF 'vitrinelaw04.NestNames'. -/
def nestNamesUptoCard : Claim7 := { stood := { row := nestNamesUptoRow, standIns := [], harness := (true, "06499a24de9488dec88e7188a4355c2cb29447a47aeec2510ab6c744c3d3abdc"), looks := true }, kinds := [], alts := [], laidByText := true, laidKinds := [.data, .data, .data, .data, .pinned], laidTests := true, laidLooks := .later }
def NestNamesUptoCardSaid : Prop := Claim7.holds Tryz.pinned (.plain (OpenSpec.upto nestNamesSpec)) nestNamesUptoCard

/-- THE SECOND FORM's CARD OF 'vitrinelaw04.NestTexts'. -/
def nestTextsUptoCard : Claim7 := { stood := { row := nestTextsUptoRow, standIns := [], harness := (true, "06499a24de9488dec88e7188a4355c2cb29447a47aeec2510ab6c744c3d3abdc"), looks := true }, kinds := [], alts := [], laidByText := true, laidKinds := [.data, .data, .data, .data, .pinned], laidTests := true, laidLooks := .later }
def NestTextsUptoCardSaid : Prop := Claim7.holds Tryz.pinned (.plain (OpenSpec.upto nestTextsSpec)) nestTextsUptoCard

/-- THE SECOND FORM's CARD OF 'vitrinelaw05.DeclReads'. -/
def declReadsUptoCard : Claim7 := { stood := { row := declReadsUptoRow, standIns := [], harness := (true, "06499a24de9488dec88e7188a4355c2cb29447a47aeec2510ab6c744c3d3abdc"), looks := true }, kinds := [], alts := [], laidByText := true, laidKinds := [.data, .pinned], laidTests := true, laidLooks := .later }
def DeclReadsUptoCardSaid : Prop := Claim7.holds Tryz.pinned (.plain (OpenSpec.upto declReadsSpec)) declReadsUptoCard

/-- THE SECOND FORM's CARD OF 'vitrinelaw03.GlueParts'. -/
def gluePartsUptoCard : Claim7 := { stood := { row := gluePartsUptoRow, standIns := [], harness := (true, "06499a24de9488dec88e7188a4355c2cb29447a47aeec2510ab6c744c3d3abdc"), looks := true }, kinds := [], alts := [], laidByText := true, laidKinds := [.data, .data, .data, .data, .pinned], laidTests := true, laidLooks := .later }
def GluePartsUptoCardSaid : Prop := Claim7.holds Tryz.pinned (.plain (OpenSpec.upto gluePartsSpec)) gluePartsUptoCard

/-- THE SECOND FORM's CARD OF 'vitrinelaw05.DeclWrites'. -/
def declWritesUptoCard : Claim7 := { stood := { row := declWritesUptoRow, standIns := [], harness := (true, "06499a24de9488dec88e7188a4355c2cb29447a47aeec2510ab6c744c3d3abdc"), looks := true }, kinds := [], alts := [], laidByText := true, laidKinds := [.data, .data, .data, .data, .pinned], laidTests := true, laidLooks := .later }
def DeclWritesUptoCardSaid : Prop := Claim7.holds Tryz.pinned (.plain (OpenSpec.upto declWritesSpec)) declWritesUptoCard

/-- THE SECOND FORM's CARD OF 'vitrinelaw05.DeclOnes'. -/
def declOnesUptoCard : Claim7 := { stood := { row := declOnesUptoRow, standIns := [], harness := (true, "06499a24de9488dec88e7188a4355c2cb29447a47aeec2510ab6c744c3d3abdc"), looks := true }, kinds := [], alts := [], laidByText := true, laidKinds := [.data, .data, .data, .data, .pinned], laidTests := true, laidLooks := .later }
def DeclOnesUptoCardSaid : Prop := Claim7.holds Tryz.pinned (.plain (OpenSpec.upto declOnesSpec)) declOnesUptoCard

/-- THE SECOND FORM's CARD OF 'vitrinelaw05.DeclNames'. -/
def declNamesUptoCard : Claim7 := { stood := { row := declNamesUptoRow, standIns := [], harness := (true, "06499a24de9488dec88e7188a4355c2cb29447a47aeec2510ab6c744c3d3abdc"), looks := true }, kinds := [], alts := [], laidByText := true, laidKinds := [.data, .data, .data, .data, .pinned], laidTests := true, laidLooks := .later }
def DeclNamesUptoCardSaid : Prop := Claim7.holds Tryz.pinned (.plain (OpenSpec.upto declNamesSpec)) declNamesUptoCard

/-- THE SECOND FORM's CARD OF 'vitrinelaw05.DeclMark'. -/
def declMarkUptoCard : Claim7 := { stood := { row := declMarkUptoRow, standIns := [], harness := (true, "06499a24de9488dec88e7188a4355c2cb29447a47aeec2510ab6c744c3d3abdc"), looks := true }, kinds := [], alts := [], laidByText := true, laidKinds := [.data, .data, .data, .data, .pinned], laidTests := true, laidLooks := .later }
def DeclMarkUptoCardSaid : Prop := Claim7.holds Tryz.pinned (.plain (OpenSpec.upto declMarkSpec)) declMarkUptoCard

/-- THE SECOND FORM's CARD OF 'vitrinelaw05.DeclBack'. -/
def declBackUptoCard : Claim7 := { stood := { row := declBackUptoRow, standIns := [], harness := (true, "06499a24de9488dec88e7188a4355c2cb29447a47aeec2510ab6c744c3d3abdc"), looks := true }, kinds := [], alts := [], laidByText := true, laidKinds := [.data, .data, .data, .data, .pinned], laidTests := true, laidLooks := .later }
def DeclBackUptoCardSaid : Prop := Claim7.holds Tryz.pinned (.plain (OpenSpec.upto declBackSpec)) declBackUptoCard
end Rows
end Go.Proofs.YtcdeccnjlkkejaaGreatDoor
