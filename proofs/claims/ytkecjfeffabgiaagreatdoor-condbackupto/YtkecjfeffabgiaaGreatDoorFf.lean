/- CondBack: closed facts of the row. -/
import Derived.Test.YtkecjfeffabgiaaGreatDoorGl
set_option linter.unusedSimpArgs false
set_option linter.unusedVariables false
namespace Go.Proofs.YtkecjfeffabgiaaGreatDoor.condBack
open Go.ChangeShapes Go.WideShapes Go.ChangeAt Go.RowKit Go.Lv
set_option maxRecDepth 100000
theorem k3:(Rows.condBackUptoRow.recurses==Tryz.pinned.checked.prog.recurses 6)=true:=by kernel_rfl
theorem k4:(Rows.condBackUptoRow.named==Tryz.pinned.checked.prog.varsNamed 6)=true:=by kernel_rfl
end Go.Proofs.YtkecjfeffabgiaaGreatDoor.condBack
