/- StoreUndo: closed facts of the row. -/
import Derived.Test.YtagibnnojbolnaaGreatDoorGl
set_option linter.unusedSimpArgs false
set_option linter.unusedVariables false
namespace Go.Proofs.YtagibnnojbolnaaGreatDoor.storeUndo
open Go.ChangeShapes Go.WideShapes Go.ChangeAt Go.RowKit Go.Lv
set_option maxRecDepth 100000
theorem k3:(Rows.storeUndoUptoRow.recurses==Tryz.pinned.checked.prog.recurses 3)=true:=by kernel_rfl
theorem k4:(Rows.storeUndoUptoRow.named==Tryz.pinned.checked.prog.varsNamed 3)=true:=by kernel_rfl
end Go.Proofs.YtagibnnojbolnaaGreatDoor.storeUndo
