/- CondNames: the row. -/
import Derived.Test.YtkecjfeffabgiaaGreatDoorFa
import Derived.Test.YtkecjfeffabgiaaGreatDoorFb
set_option linter.unusedSimpArgs false
set_option linter.unusedVariables false
namespace Go.Proofs.YtkecjfeffabgiaaGreatDoor.condNames
open Go.ChangeShapes Go.WideShapes Go.ChangeAt Go.RowKit Go.Lv
set_option maxRecDepth 100000
theorem lifted(os:Os)(started:os.Started)(H:Type)(enc:TypeId×Value->H)(F:Stop.Interp):
  ReturnsInHanded {} Tryz.checked os 4 .any ((OpenSpec.ofChange Rows.condNamesSpec).preRow enc Tryz.prog Tryz.f4 Rows.condNamesRow.domain false Rows.condNamesRow.laid) (((OpenSpec.ofChange Rows.condNamesSpec).at F).post enc Tryz.prog Tryz.f4 false true false false):=by
 refine returnsInHanded_of_row (C:=Tryz.checked) (s:=OpenSpec.ofChange Rows.condNamesSpec) own started (by kernel_rfl) Tryz.func4 (witness os H enc) ?_;intro W base args ds gs before hval hW _ hk _ hL hS _;exact contract H enc W base args ds gs before hval hW hL hS
end Go.Proofs.YtkecjfeffabgiaaGreatDoor.condNames
