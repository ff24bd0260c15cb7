/- RoundUndo: closed facts of the row. -/
import Derived.Test.YtanfjibdgcalfaaGreatDoorGl
set_option linter.unusedSimpArgs false
set_option linter.unusedVariables false
namespace Go.Proofs.YtanfjibdgcalfaaGreatDoor.roundUndo
open Go.ChangeShapes Go.WideShapes Go.ChangeAt Go.RowKit Go.Lv
set_option maxRecDepth 100000
theorem k3:(Rows.roundUndoUptoRow.recurses==Tryz.pinned.checked.prog.recurses 4)=true:=by kernel_rfl
theorem k4:(Rows.roundUndoUptoRow.named==Tryz.pinned.checked.prog.varsNamed 4)=true:=by kernel_rfl
end Go.Proofs.YtanfjibdgcalfaaGreatDoor.roundUndo
