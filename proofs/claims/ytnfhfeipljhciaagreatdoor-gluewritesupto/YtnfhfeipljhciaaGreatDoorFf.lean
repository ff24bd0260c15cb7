/- GlueWrites: closed facts of the row. -/
import Derived.Test.YtnfhfeipljhciaaGreatDoorGl
set_option linter.unusedSimpArgs false
set_option linter.unusedVariables false
namespace Go.Proofs.YtnfhfeipljhciaaGreatDoor.glueWrites
open Go.ChangeShapes Go.WideShapes Go.ChangeAt Go.RowKit Go.Lv
set_option maxRecDepth 100000
theorem k3:(Rows.glueWritesUptoRow.recurses==Tryz.pinned.checked.prog.recurses 8)=true:=by kernel_rfl
theorem k4:(Rows.glueWritesUptoRow.named==Tryz.pinned.checked.prog.varsNamed 8)=true:=by kernel_rfl
end Go.Proofs.YtnfhfeipljhciaaGreatDoor.glueWrites
