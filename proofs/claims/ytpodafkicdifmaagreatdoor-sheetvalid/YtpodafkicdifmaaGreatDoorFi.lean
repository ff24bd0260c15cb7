/- SheetValid: closed facts of the card. -/
import Derived.Test.YtpodafkicdifmaaGreatDoorGl
set_option linter.unusedSimpArgs false
set_option linter.unusedVariables false
namespace Go.Proofs.YtpodafkicdifmaaGreatDoor.sheetValid
open Go.ChangeShapes Go.WideShapes Go.ChangeAt Go.RowKit Go.Lv
set_option maxRecDepth 100000
theorem wf:Rows.sheetValidRow.wfByText (OpenSpec.ofChange Rows.sheetValidSpec)=true:=by kernel_rfl
end Go.Proofs.YtpodafkicdifmaaGreatDoor.sheetValid
