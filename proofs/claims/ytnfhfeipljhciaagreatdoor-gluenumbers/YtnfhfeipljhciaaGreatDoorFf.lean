/- GlueNumbers: closed facts of the row. -/
import Derived.Test.YtnfhfeipljhciaaGreatDoorGl
namespace Go.Proofs.YtnfhfeipljhciaaGreatDoor.glueNumbers
open Go.ChangeShapes Go.WideShapes Go.ChangeAt Go.RowKit Go.Lv
set_option maxRecDepth 100000
theorem k3 : (Rows.glueNumbersRow.recurses == Tryz.pinned.checked.prog.recurses 9) = true := by kernel_rfl
theorem k4 : (Rows.glueNumbersRow.named == Tryz.pinned.checked.prog.varsNamed 9) = true := by kernel_rfl
end Go.Proofs.YtnfhfeipljhciaaGreatDoor.glueNumbers
