/- CssomNames: closed facts of the card. -/
import Derived.Test.YtamhhfdcmkbofaaGreatDoorGl
set_option linter.unusedSimpArgs false
set_option linter.unusedVariables false
namespace Go.Proofs.YtamhhfdcmkbofaaGreatDoor.cssomNames
open Go.ChangeShapes Go.WideShapes Go.ChangeAt Go.RowKit Go.Lv
set_option maxRecDepth 100000
theorem wf:Rows.cssomNamesRow.wfByText (OpenSpec.ofChange Rows.cssomNamesSpec)=true:=by kernel_rfl
end Go.Proofs.YtamhhfdcmkbofaaGreatDoor.cssomNames
