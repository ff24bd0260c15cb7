/- GlueParts: closed facts of the card. -/
import Derived.Test.YtpcfcdmidhbkmaaGreatDoorGl
set_option linter.unusedSimpArgs false
set_option linter.unusedVariables false
namespace Go.Proofs.YtpcfcdmidhbkmaaGreatDoor.glueParts
open Go.ChangeShapes Go.WideShapes Go.ChangeAt Go.RowKit Go.Lv
set_option maxRecDepth 100000
theorem wf:Rows.gluePartsUptoRow.wfByText (Rows.OpenSpec.upto Rows.gluePartsSpec)=true:=by kernel_rfl
end Go.Proofs.YtpcfcdmidhbkmaaGreatDoor.glueParts
