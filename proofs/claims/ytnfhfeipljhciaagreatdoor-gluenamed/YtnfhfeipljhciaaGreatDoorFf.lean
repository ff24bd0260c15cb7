/- GlueNamed: closed facts of the row. -/
import Derived.Test.YtnfhfeipljhciaaGreatDoorGl
namespace Go.Proofs.YtnfhfeipljhciaaGreatDoor.glueNamed
open Go.ChangeShapes Go.WideShapes Go.ChangeAt Go.RowKit Go.Lv
set_option maxRecDepth 100000
theorem k3 : (Rows.glueNamedRow.recurses == Tryz.pinned.checked.prog.recurses 10) = true := by kernel_rfl
theorem k4 : (Rows.glueNamedRow.named == Tryz.pinned.checked.prog.varsNamed 10) = true := by kernel_rfl
end Go.Proofs.YtnfhfeipljhciaaGreatDoor.glueNamed
