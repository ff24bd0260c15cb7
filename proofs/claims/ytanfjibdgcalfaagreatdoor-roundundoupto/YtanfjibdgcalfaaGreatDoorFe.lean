/- RoundUndo: closed facts of the row. -/
import Derived.Test.YtanfjibdgcalfaaGreatDoorGl
set_option linter.unusedSimpArgs false
set_option linter.unusedVariables false
namespace Go.Proofs.YtanfjibdgcalfaaGreatDoor.roundUndo
open Go.ChangeShapes Go.WideShapes Go.ChangeAt Go.RowKit Go.Lv
set_option maxRecDepth 100000
theorem k1:(Rows.roundUndoUptoRow.inPlace==Tryz.pinned.checked.prog.inPlace 4)=true:=by kernel_rfl
theorem k2:(Rows.roundUndoUptoRow.unfollowed==Tryz.pinned.checked.prog.unfollowed 4)=true:=by kernel_rfl
end Go.Proofs.YtanfjibdgcalfaaGreatDoor.roundUndo
