/- CondNames returns true: all examples of the layer cond hold, with its limits and errors. Without condition: the law has no parameters; the package-level tables hold what the program's text lays (the card's tie). -/
import Derived.Test.YtkecjfeffabgiaaGreatDoorFd
import Derived.Test.YtkecjfeffabgiaaGreatDoorFh
set_option linter.unusedSimpArgs false
set_option linter.unusedVariables false
namespace Go.Proofs.YtkecjfeffabgiaaGreatDoor.condNames
open Go.ChangeShapes Go.WideShapes Go.ChangeAt Go.RowKit Go.Lv
set_option maxRecDepth 100000
theorem proved:Rows.CondNamesCardSaid:=
 Claim7.holds_tied_plain_at .later [] _ _ _ _ said (fun _ h=>by cases h) (by kernel_rfl) (fun _ h=>by cases h) condNames_row_tie rfl ⟨rfl,rfl⟩ (by kernel_rfl) rfl plain (by kernel_rfl)
end Go.Proofs.YtkecjfeffabgiaaGreatDoor.condNames
#print axioms Go.Proofs.YtkecjfeffabgiaaGreatDoor.condNames.proved
