/- DeclNames: the row. -/
import Derived.Test.YtcdeccnjlkkejaaGreatDoorFa
import Derived.Test.YtcdeccnjlkkejaaGreatDoorFb
set_option linter.unusedSimpArgs false
set_option linter.unusedVariables false
namespace Go.Proofs.YtcdeccnjlkkejaaGreatDoor.declNames
open Go.ChangeShapes Go.WideShapes Go.ChangeAt Go.RowKit Go.Lv
set_option maxRecDepth 100000
theorem lifted(os:Os)(started:os.Started)(H:Type)(enc:TypeId×Value->H)(F:Stop.Interp):
  ReturnsInHanded {} Tryz.checked os 12 .any ((OpenSpec.ofChange Rows.declNamesSpec).preRow enc Tryz.prog Tryz.f12 Rows.declNamesRow.domain false Rows.declNamesRow.laid) (((OpenSpec.ofChange Rows.declNamesSpec).at F).post enc Tryz.prog Tryz.f12 false true false false):=by
 refine returnsInHanded_of_row (C:=Tryz.checked) (s:=OpenSpec.ofChange Rows.declNamesSpec) own started (by kernel_rfl) Tryz.func12 (witness os H enc) ?_;intro W base args ds gs before hval hW _ hk _ hL hS _;exact contract H enc W base args ds gs before hval hW hL hS
end Go.Proofs.YtcdeccnjlkkejaaGreatDoor.declNames
