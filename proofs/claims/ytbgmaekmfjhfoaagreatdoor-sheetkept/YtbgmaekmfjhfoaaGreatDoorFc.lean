/- SheetKept: the row. -/
import Derived.Test.YtbgmaekmfjhfoaaGreatDoorFa
import Derived.Test.YtbgmaekmfjhfoaaGreatDoorFb
set_option linter.unusedSimpArgs false
set_option linter.unusedVariables false
namespace Go.Proofs.YtbgmaekmfjhfoaaGreatDoor.sheetKept
open Go.ChangeShapes Go.WideShapes Go.ChangeAt Go.RowKit Go.Lv
set_option maxRecDepth 100000
theorem lifted(os:Os)(started:os.Started)(H:Type)(enc:TypeId×Value->H)(F:Stop.Interp):
  ReturnsInHanded {} Tryz.checked os 3 .any ((OpenSpec.ofChange Rows.sheetKeptSpec).preRow enc Tryz.prog Tryz.f3 Rows.sheetKeptRow.domain false Rows.sheetKeptRow.laid) (((OpenSpec.ofChange Rows.sheetKeptSpec).at F).post enc Tryz.prog Tryz.f3 false true false false):=by
 refine returnsInHanded_of_row (C:=Tryz.checked) (s:=OpenSpec.ofChange Rows.sheetKeptSpec) own started (by kernel_rfl) Tryz.func3 (witness os H enc) ?_;intro W base args ds gs before hval hW _ hk _ hL hS _;exact contract H enc W base args ds gs before hval hW hL hS
end Go.Proofs.YtbgmaekmfjhfoaaGreatDoor.sheetKept
