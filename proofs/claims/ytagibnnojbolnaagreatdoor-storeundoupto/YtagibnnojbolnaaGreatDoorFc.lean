/- StoreUndo: the row. -/
import Derived.Test.YtagibnnojbolnaaGreatDoorFa
import Derived.Test.YtagibnnojbolnaaGreatDoorFb
set_option linter.unusedSimpArgs false
set_option linter.unusedVariables false
namespace Go.Proofs.YtagibnnojbolnaaGreatDoor.storeUndo
open Go.ChangeShapes Go.WideShapes Go.ChangeAt Go.RowKit Go.Lv
set_option maxRecDepth 100000
theorem lifted(os:Os)(started:os.Started)(H:Type)(enc:TypeId×Value->H)(F:Stop.Interp):
  ReturnsInHanded {} Tryz.checked os 3 .any ((Rows.OpenSpec.upto Rows.storeUndoSpec).preRow enc Tryz.prog Tryz.f3 Rows.storeUndoUptoRow.domain false Rows.storeUndoUptoRow.laid) (((Rows.OpenSpec.upto Rows.storeUndoSpec).at F).post enc Tryz.prog Tryz.f3 false true false false):=by
 refine returnsInHanded_of_row (C:=Tryz.checked) (s:=Rows.OpenSpec.upto Rows.storeUndoSpec) own started (by kernel_rfl) Tryz.func3 (witness os H enc) ?_;intro W base args ds gs before hval hW _ hk _ hL hS _;exact contract H enc W base args ds gs before hval hW hL hS (hk _ rfl)
end Go.Proofs.YtagibnnojbolnaaGreatDoor.storeUndo
