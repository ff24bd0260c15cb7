/- SheetOne: closed facts of the card. -/
import Derived.Test.YtoiadnecjabbeaaGreatDoorGl
set_option linter.unusedSimpArgs false
set_option linter.unusedVariables false
namespace Go.Proofs.YtoiadnecjabbeaaGreatDoor.sheetOne
open Go.ChangeShapes Go.WideShapes Go.ChangeAt Go.RowKit Go.Lv
set_option maxRecDepth 100000
theorem wf:Rows.sheetOneRow.wfByText (OpenSpec.ofChange Rows.sheetOneSpec)=true:=by kernel_rfl
end Go.Proofs.YtoiadnecjabbeaaGreatDoor.sheetOne
