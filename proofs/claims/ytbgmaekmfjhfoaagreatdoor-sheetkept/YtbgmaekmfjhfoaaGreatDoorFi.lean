/- SheetKept: closed facts of the card. -/
import Derived.Test.YtbgmaekmfjhfoaaGreatDoorGl
set_option linter.unusedSimpArgs false
set_option linter.unusedVariables false
namespace Go.Proofs.YtbgmaekmfjhfoaaGreatDoor.sheetKept
open Go.ChangeShapes Go.WideShapes Go.ChangeAt Go.RowKit Go.Lv
set_option maxRecDepth 100000
theorem wf:Rows.sheetKeptRow.wfByText (OpenSpec.ofChange Rows.sheetKeptSpec)=true:=by kernel_rfl
end Go.Proofs.YtbgmaekmfjhfoaaGreatDoor.sheetKept
