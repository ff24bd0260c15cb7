/- RoundUndo: the row. -/
import Derived.Test.YtanfjibdgcalfaaGreatDoorFa
import Derived.Test.YtanfjibdgcalfaaGreatDoorFb
set_option linter.unusedSimpArgs false
set_option linter.unusedVariables false
namespace Go.Proofs.YtanfjibdgcalfaaGreatDoor.roundUndo
open Go.ChangeShapes Go.WideShapes Go.ChangeAt Go.RowKit Go.Lv
set_option maxRecDepth 100000
theorem lifted(os:Os)(started:os.Started)(H:Type)(enc:TypeId×Value->H)(F:Stop.Interp):
  ReturnsInHanded {} Tryz.checked os 4 .any ((Rows.OpenSpec.upto Rows.roundUndoSpec).preRow enc Tryz.prog Tryz.f4 Rows.roundUndoUptoRow.domain false Rows.roundUndoUptoRow.laid) (((Rows.OpenSpec.upto Rows.roundUndoSpec).at F).post enc Tryz.prog Tryz.f4 false true false false):=by
 refine returnsInHanded_of_row (C:=Tryz.checked) (s:=Rows.OpenSpec.upto Rows.roundUndoSpec) own started (by kernel_rfl) Tryz.func4 (witness os H enc) ?_;intro W base args ds gs before hval hW _ hk _ hL hS _;exact contract H enc W base args ds gs before hval hW hL hS (hk _ rfl)
end Go.Proofs.YtanfjibdgcalfaaGreatDoor.roundUndo
