/- SheetValid: the row. -/
import Derived.Test.YtpodafkicdifmaaGreatDoorFa
import Derived.Test.YtpodafkicdifmaaGreatDoorFb
set_option linter.unusedSimpArgs false
set_option linter.unusedVariables false
namespace Go.Proofs.YtpodafkicdifmaaGreatDoor.sheetValid
open Go.ChangeShapes Go.WideShapes Go.ChangeAt Go.RowKit Go.Lv
set_option maxRecDepth 100000
theorem lifted(os:Os)(started:os.Started)(H:Type)(enc:TypeId×Value->H)(F:Stop.Interp):
  ReturnsInHanded {} Tryz.checked os 3 .any ((OpenSpec.ofChange Rows.sheetValidSpec).preRow enc Tryz.prog Tryz.f3 Rows.sheetValidRow.domain false Rows.sheetValidRow.laid) (((OpenSpec.ofChange Rows.sheetValidSpec).at F).post enc Tryz.prog Tryz.f3 false true false false):=by
 refine returnsInHanded_of_row (C:=Tryz.checked) (s:=OpenSpec.ofChange Rows.sheetValidSpec) own started (by kernel_rfl) Tryz.func3 (witness os H enc) ?_;intro W base args ds gs before hval hW _ hk _ hL hS _;exact contract H enc W base args ds gs before hval hW hL hS
end Go.Proofs.YtpodafkicdifmaaGreatDoor.sheetValid
