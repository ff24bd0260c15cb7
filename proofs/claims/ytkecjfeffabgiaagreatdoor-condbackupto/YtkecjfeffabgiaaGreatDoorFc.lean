/- CondBack: the row. -/
import Derived.Test.YtkecjfeffabgiaaGreatDoorFa
import Derived.Test.YtkecjfeffabgiaaGreatDoorFb
set_option linter.unusedSimpArgs false
set_option linter.unusedVariables false
namespace Go.Proofs.YtkecjfeffabgiaaGreatDoor.condBack
open Go.ChangeShapes Go.WideShapes Go.ChangeAt Go.RowKit Go.Lv
set_option maxRecDepth 100000
theorem lifted(os:Os)(started:os.Started)(H:Type)(enc:TypeId×Value->H)(F:Stop.Interp):
  ReturnsInHanded {} Tryz.checked os 6 .any ((Rows.OpenSpec.upto Rows.condBackSpec).preRow enc Tryz.prog Tryz.f6 Rows.condBackUptoRow.domain false Rows.condBackUptoRow.laid) (((Rows.OpenSpec.upto Rows.condBackSpec).at F).post enc Tryz.prog Tryz.f6 false true false false):=by
 refine returnsInHanded_of_row (C:=Tryz.checked) (s:=Rows.OpenSpec.upto Rows.condBackSpec) own started (by kernel_rfl) Tryz.func6 (witness os H enc) ?_;intro W base args ds gs before hval hW _ hk _ hL hS _;exact contract H enc W base args ds gs before hval hW hL hS (hk _ rfl)
end Go.Proofs.YtkecjfeffabgiaaGreatDoor.condBack
