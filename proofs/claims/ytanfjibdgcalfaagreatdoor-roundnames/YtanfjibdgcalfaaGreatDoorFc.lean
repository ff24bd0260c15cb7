/- RoundNames: the row. -/
import Derived.Test.YtanfjibdgcalfaaGreatDoorFa
import Derived.Test.YtanfjibdgcalfaaGreatDoorFb
set_option linter.unusedSimpArgs false
set_option linter.unusedVariables false
namespace Go.Proofs.YtanfjibdgcalfaaGreatDoor.roundNames
open Go.ChangeShapes Go.WideShapes Go.ChangeAt Go.RowKit Go.Lv
set_option maxRecDepth 100000
theorem lifted(os:Os)(started:os.Started)(H:Type)(enc:TypeId×Value->H)(F:Stop.Interp):
  ReturnsInHanded {} Tryz.checked os 5 .any ((OpenSpec.ofChange Rows.roundNamesSpec).preRow enc Tryz.prog Tryz.f5 Rows.roundNamesRow.domain false Rows.roundNamesRow.laid) (((OpenSpec.ofChange Rows.roundNamesSpec).at F).post enc Tryz.prog Tryz.f5 false true false false):=by
 refine returnsInHanded_of_row (C:=Tryz.checked) (s:=OpenSpec.ofChange Rows.roundNamesSpec) own started (by kernel_rfl) Tryz.func5 (witness os H enc) ?_;intro W base args ds gs before hval hW _ hk _ hL hS _;exact contract H enc W base args ds gs before hval hW hL hS
end Go.Proofs.YtanfjibdgcalfaaGreatDoor.roundNames
