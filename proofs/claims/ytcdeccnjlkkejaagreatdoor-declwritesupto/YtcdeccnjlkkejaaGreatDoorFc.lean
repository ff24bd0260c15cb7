/- DeclWrites: the row. -/
import Derived.Test.YtcdeccnjlkkejaaGreatDoorFa
import Derived.Test.YtcdeccnjlkkejaaGreatDoorFb
set_option linter.unusedSimpArgs false
set_option linter.unusedVariables false
namespace Go.Proofs.YtcdeccnjlkkejaaGreatDoor.declWrites
open Go.ChangeShapes Go.WideShapes Go.ChangeAt Go.RowKit Go.Lv
set_option maxRecDepth 100000
theorem lifted(os:Os)(started:os.Started)(H:Type)(enc:TypeId×Value->H)(F:Stop.Interp):
  ReturnsInHanded {} Tryz.checked os 10 .any ((Rows.OpenSpec.upto Rows.declWritesSpec).preRow enc Tryz.prog Tryz.f10 Rows.declWritesUptoRow.domain false Rows.declWritesUptoRow.laid) (((Rows.OpenSpec.upto Rows.declWritesSpec).at F).post enc Tryz.prog Tryz.f10 false true false false):=by
 refine returnsInHanded_of_row (C:=Tryz.checked) (s:=Rows.OpenSpec.upto Rows.declWritesSpec) own started (by kernel_rfl) Tryz.func10 (witness os H enc) ?_;intro W base args ds gs before hval hW _ hk _ hL hS _;exact contract H enc W base args ds gs before hval hW hL hS (hk _ rfl)
end Go.Proofs.YtcdeccnjlkkejaaGreatDoor.declWrites
