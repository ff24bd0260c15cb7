/- RoundNames returns true: all examples of the layer round hold: each kind of rule written, rules put in and taken out, limits and errors. Without condition: the law has no parameters; the package-level tables hold what the program's text lays (the card's tie). -/
import Derived.Test.YtanfjibdgcalfaaGreatDoorFd
import Derived.Test.YtanfjibdgcalfaaGreatDoorFh
import Derived.Test.YtanfjibdgcalfaaGreatDoorFi
import Derived.Test.YtanfjibdgcalfaaGreatDoorFj
set_option linter.unusedSimpArgs false
set_option linter.unusedVariables false
namespace Go.Proofs.YtanfjibdgcalfaaGreatDoor.roundNames
open Go.ChangeShapes Go.WideShapes Go.ChangeAt Go.RowKit Go.Lv
set_option maxRecDepth 100000
theorem proved:Rows.RoundNamesCardSaid:=
 Claim7.holds_tied_plain_at .later [] _ _ _ _ said (fun _ h=>by cases h) wf (fun _ h=>by cases h) roundNames_row_tie rfl ⟨rfl,rfl⟩ (by kernel_rfl) rfl plain goes
end Go.Proofs.YtanfjibdgcalfaaGreatDoor.roundNames
#print axioms Go.Proofs.YtanfjibdgcalfaaGreatDoor.roundNames.proved
