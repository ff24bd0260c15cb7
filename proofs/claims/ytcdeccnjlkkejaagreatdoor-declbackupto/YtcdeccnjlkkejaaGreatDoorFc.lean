/- DeclBack: the row. -/
import Derived.Test.YtcdeccnjlkkejaaGreatDoorFa
import Derived.Test.YtcdeccnjlkkejaaGreatDoorFb
set_option linter.unusedSimpArgs false
set_option linter.unusedVariables false
namespace Go.Proofs.YtcdeccnjlkkejaaGreatDoor.declBack
open Go.ChangeShapes Go.WideShapes Go.ChangeAt Go.RowKit Go.Lv
set_option maxRecDepth 100000
theorem lifted(os:Os)(started:os.Started)(H:Type)(enc:TypeId×Value->H)(F:Stop.Interp):
  ReturnsInHanded {} Tryz.checked os 14 .any ((Rows.OpenSpec.upto Rows.declBackSpec).preRow enc Tryz.prog Tryz.f14 Rows.declBackUptoRow.domain false Rows.declBackUptoRow.laid) (((Rows.OpenSpec.upto Rows.declBackSpec).at F).post enc Tryz.prog Tryz.f14 false true false false):=by
 refine returnsInHanded_of_row (C:=Tryz.checked) (s:=Rows.OpenSpec.upto Rows.declBackSpec) own started (by kernel_rfl) Tryz.func14 (witness os H enc) ?_;intro W base args ds gs before hval hW _ hk _ hL hS _;exact contract H enc W base args ds gs before hval hW hL hS (hk _ rfl)
end Go.Proofs.YtcdeccnjlkkejaaGreatDoor.declBack
