/- GlueNames: closed facts of the row. -/
import Derived.Test.YtnfhfeipljhciaaGreatDoorGl
namespace Go.Proofs.YtnfhfeipljhciaaGreatDoor.glueNames
open Go.ChangeShapes Go.WideShapes Go.ChangeAt Go.RowKit Go.Lv
set_option maxRecDepth 100000
theorem k1 : (Rows.glueNamesRow.inPlace == Tryz.pinned.checked.prog.inPlace 7) = true := by kernel_rfl
theorem k2 : (Rows.glueNamesRow.unfollowed == Tryz.pinned.checked.prog.unfollowed 7) = true := by kernel_rfl
end Go.Proofs.YtnfhfeipljhciaaGreatDoor.glueNames
