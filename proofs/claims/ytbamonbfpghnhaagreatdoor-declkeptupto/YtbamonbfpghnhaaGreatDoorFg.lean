/- DeclKept returns true: a bad declaration between two texts is dropped, and all others are kept. For inputs of bulk at most 1048576; the package-level tables hold what the program's text lays (the card's tie). -/
import Derived.Test.YtbamonbfpghnhaaGreatDoorFd
import Derived.Test.YtbamonbfpghnhaaGreatDoorFh
set_option linter.unusedSimpArgs false
set_option linter.unusedVariables false
namespace Go.Proofs.YtbamonbfpghnhaaGreatDoor.declKept
open Go.ChangeShapes Go.WideShapes Go.ChangeAt Go.RowKit Go.Lv
set_option maxRecDepth 100000
theorem proved:Rows.DeclKeptUptoCardSaid:=
 Claim7.holds_tied_plain_at .later [] _ _ _ _ said (fun _ h=>by cases h) (by kernel_rfl) (fun _ h=>by cases h) declKeptUpto_row_tie rfl ⟨rfl,rfl⟩ (by kernel_rfl) rfl plain (by kernel_rfl)
end Go.Proofs.YtbamonbfpghnhaaGreatDoor.declKept
#print axioms Go.Proofs.YtbamonbfpghnhaaGreatDoor.declKept.proved
