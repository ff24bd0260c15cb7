/- CssomNames returns true: the examples of the layer cssom hold: what is put in and taken out, its limits and errors. Without condition: the law has no parameters; the package-level tables hold what the program's text lays (the card's tie). -/
import Derived.Test.YtamhhfdcmkbofaaGreatDoorFd
import Derived.Test.YtamhhfdcmkbofaaGreatDoorFh
import Derived.Test.YtamhhfdcmkbofaaGreatDoorFi
import Derived.Test.YtamhhfdcmkbofaaGreatDoorFj
set_option linter.unusedSimpArgs false
set_option linter.unusedVariables false
namespace Go.Proofs.YtamhhfdcmkbofaaGreatDoor.cssomNames
open Go.ChangeShapes Go.WideShapes Go.ChangeAt Go.RowKit Go.Lv
set_option maxRecDepth 100000
theorem proved:Rows.CssomNamesCardSaid:=
 Claim7.holds_tied_plain_at .later [] _ _ _ _ said (fun _ h=>by cases h) wf (fun _ h=>by cases h) cssomNames_row_tie rfl ⟨rfl,rfl⟩ (by kernel_rfl) rfl plain goes
end Go.Proofs.YtamhhfdcmkbofaaGreatDoor.cssomNames
#print axioms Go.Proofs.YtamhhfdcmkbofaaGreatDoor.cssomNames.proved
