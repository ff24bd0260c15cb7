/- GlueNames: closed facts of the row. -/
import Derived.Test.YtnfhfeipljhciaaGreatDoorGl
namespace Go.Proofs.YtnfhfeipljhciaaGreatDoor.glueNames
open Go.ChangeShapes Go.WideShapes Go.ChangeAt Go.RowKit Go.Lv
set_option maxRecDepth 100000
theorem k3 : (Rows.glueNamesRow.recurses == Tryz.pinned.checked.prog.recurses 7) = true := by kernel_rfl
theorem k4 : (Rows.glueNamesRow.named == Tryz.pinned.checked.prog.varsNamed 7) = true := by kernel_rfl
end Go.Proofs.YtnfhfeipljhciaaGreatDoor.glueNames
