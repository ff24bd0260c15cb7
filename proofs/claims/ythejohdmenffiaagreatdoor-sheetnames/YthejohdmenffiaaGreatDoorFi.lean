/- SheetNames: closed facts of the card. -/
import Derived.Test.YthejohdmenffiaaGreatDoorGl
set_option linter.unusedSimpArgs false
set_option linter.unusedVariables false
namespace Go.Proofs.YthejohdmenffiaaGreatDoor.sheetNames
open Go.ChangeShapes Go.WideShapes Go.ChangeAt Go.RowKit Go.Lv
set_option maxRecDepth 100000
theorem wf:Rows.sheetNamesRow.wfByText (OpenSpec.ofChange Rows.sheetNamesSpec)=true:=by kernel_rfl
end Go.Proofs.YthejohdmenffiaaGreatDoor.sheetNames
