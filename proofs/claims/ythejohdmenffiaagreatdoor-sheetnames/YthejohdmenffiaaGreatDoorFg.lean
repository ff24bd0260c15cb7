/- SheetNames returns true: all examples of the layer sheet hold: each kind of rule, what gives none, limits and errors. Without condition: the law has no parameters; the package-level tables hold what the program's text lays (the card's tie). -/
import Derived.Test.YthejohdmenffiaaGreatDoorFd
import Derived.Test.YthejohdmenffiaaGreatDoorFh
import Derived.Test.YthejohdmenffiaaGreatDoorFi
import Derived.Test.YthejohdmenffiaaGreatDoorFj
set_option linter.unusedSimpArgs false
set_option linter.unusedVariables false
namespace Go.Proofs.YthejohdmenffiaaGreatDoor.sheetNames
open Go.ChangeShapes Go.WideShapes Go.ChangeAt Go.RowKit Go.Lv
set_option maxRecDepth 100000
theorem proved:Rows.SheetNamesCardSaid:=
 Claim7.holds_tied_plain_at .later [] _ _ _ _ said (fun _ h=>by cases h) wf (fun _ h=>by cases h) sheetNames_row_tie rfl ⟨rfl,rfl⟩ (by kernel_rfl) rfl plain goes
end Go.Proofs.YthejohdmenffiaaGreatDoor.sheetNames
#print axioms Go.Proofs.YthejohdmenffiaaGreatDoor.sheetNames.proved
