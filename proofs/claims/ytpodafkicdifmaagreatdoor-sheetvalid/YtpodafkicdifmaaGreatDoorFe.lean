/- SheetValid: closed facts of the row. -/
import Derived.Test.YtpodafkicdifmaaGreatDoorGl
set_option linter.unusedSimpArgs false
set_option linter.unusedVariables false
namespace Go.Proofs.YtpodafkicdifmaaGreatDoor.sheetValid
open Go.ChangeShapes Go.WideShapes Go.ChangeAt Go.RowKit Go.Lv
set_option maxRecDepth 100000
theorem k1:(Rows.sheetValidRow.inPlace==Tryz.pinned.checked.prog.inPlace 3)=true:=by kernel_rfl
theorem k2:(Rows.sheetValidRow.unfollowed==Tryz.pinned.checked.prog.unfollowed 3)=true:=by kernel_rfl
end Go.Proofs.YtpodafkicdifmaaGreatDoor.sheetValid
