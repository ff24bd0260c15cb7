/- GlueParts returns true: the text of the first tokens begins the text of all, what is behind it are the others, and a comment there stands only where without it there would be other tokens. For inputs of bulk at most 1048576; the package-level tables hold what the program's text lays (the card's tie). -/
import Derived.Test.YtpcfcdmidhbkmaaGreatDoorFd
import Derived.Test.YtpcfcdmidhbkmaaGreatDoorFh
import Derived.Test.YtpcfcdmidhbkmaaGreatDoorFi
import Derived.Test.YtpcfcdmidhbkmaaGreatDoorFj
set_option linter.unusedSimpArgs false
set_option linter.unusedVariables false
namespace Go.Proofs.YtpcfcdmidhbkmaaGreatDoor.glueParts
open Go.ChangeShapes Go.WideShapes Go.ChangeAt Go.RowKit Go.Lv
set_option maxRecDepth 100000
theorem proved:Rows.GluePartsUptoCardSaid:=
 Claim7.holds_tied_plain_at .later [] _ _ _ _ said (fun _ h=>by cases h) wf (fun _ h=>by cases h) gluePartsUpto_row_tie rfl ⟨rfl,rfl⟩ (by kernel_rfl) rfl plain goes
end Go.Proofs.YtpcfcdmidhbkmaaGreatDoor.glueParts
#print axioms Go.Proofs.YtpcfcdmidhbkmaaGreatDoor.glueParts.proved
