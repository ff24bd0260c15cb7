/- RoundUndo: closed facts of the card. -/
import Derived.Test.YtanfjibdgcalfaaGreatDoorGl
set_option linter.unusedSimpArgs false
set_option linter.unusedVariables false
namespace Go.Proofs.YtanfjibdgcalfaaGreatDoor.roundUndo
open Go.ChangeShapes Go.WideShapes Go.ChangeAt Go.RowKit Go.Lv
set_option maxRecDepth 100000
theorem wf:Rows.roundUndoUptoRow.wfByText (Rows.OpenSpec.upto Rows.roundUndoSpec)=true:=by kernel_rfl
end Go.Proofs.YtanfjibdgcalfaaGreatDoor.roundUndo
