/- DeclKept: the row. -/
import Derived.Test.YtbamonbfpghnhaaGreatDoorFa
import Derived.Test.YtbamonbfpghnhaaGreatDoorFb
set_option linter.unusedSimpArgs false
set_option linter.unusedVariables false
namespace Go.Proofs.YtbamonbfpghnhaaGreatDoor.declKept
open Go.ChangeShapes Go.WideShapes Go.ChangeAt Go.RowKit Go.Lv
set_option maxRecDepth 100000
theorem lifted(os:Os)(started:os.Started)(H:Type)(enc:TypeId×Value->H)(F:Stop.Interp):
  ReturnsInHanded {} Tryz.checked os 3 .any ((Rows.OpenSpec.upto Rows.declKeptSpec).preRow enc Tryz.prog Tryz.f3 Rows.declKeptUptoRow.domain false Rows.declKeptUptoRow.laid) (((Rows.OpenSpec.upto Rows.declKeptSpec).at F).post enc Tryz.prog Tryz.f3 false true false false):=by
 refine returnsInHanded_of_row (C:=Tryz.checked) (s:=Rows.OpenSpec.upto Rows.declKeptSpec) own started (by kernel_rfl) Tryz.func3 (witness os H enc) ?_;intro W base args ds gs before hval hW _ hk _ hL hS _;exact contract H enc W base args ds gs before hval hW hL hS (hk _ rfl)
end Go.Proofs.YtbamonbfpghnhaaGreatDoor.declKept
