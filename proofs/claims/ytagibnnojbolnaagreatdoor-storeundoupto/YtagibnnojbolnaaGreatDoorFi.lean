/- StoreUndo: closed facts of the card. -/
import Derived.Test.YtagibnnojbolnaaGreatDoorGl
set_option linter.unusedSimpArgs false
set_option linter.unusedVariables false
namespace Go.Proofs.YtagibnnojbolnaaGreatDoor.storeUndo
open Go.ChangeShapes Go.WideShapes Go.ChangeAt Go.RowKit Go.Lv
set_option maxRecDepth 100000
theorem wf:Rows.storeUndoUptoRow.wfByText (Rows.OpenSpec.upto Rows.storeUndoSpec)=true:=by kernel_rfl
end Go.Proofs.YtagibnnojbolnaaGreatDoor.storeUndo
