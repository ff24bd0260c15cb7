/- DeclNames returns true: all examples of the layer decl hold, with its limits and errors. Without condition: the law has no parameters; the package-level tables hold what the program's text lays (the card's tie). -/
import Derived.Test.YtcdeccnjlkkejaaGreatDoorFd
import Derived.Test.YtcdeccnjlkkejaaGreatDoorFh
set_option linter.unusedSimpArgs false
set_option linter.unusedVariables false
namespace Go.Proofs.YtcdeccnjlkkejaaGreatDoor.declNames
open Go.ChangeShapes Go.WideShapes Go.ChangeAt Go.RowKit Go.Lv
set_option maxRecDepth 100000
theorem proved:Rows.DeclNamesCardSaid:=
 Claim7.holds_tied_plain_at .later [] _ _ _ _ said (fun _ h=>by cases h) (by kernel_rfl) (fun _ h=>by cases h) declNames_row_tie rfl ⟨rfl,rfl⟩ (by kernel_rfl) rfl plain (by kernel_rfl)
end Go.Proofs.YtcdeccnjlkkejaaGreatDoor.declNames
#print axioms Go.Proofs.YtcdeccnjlkkejaaGreatDoor.declNames.proved
