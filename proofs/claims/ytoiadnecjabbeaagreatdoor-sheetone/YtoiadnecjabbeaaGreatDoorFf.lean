/- SheetOne: closed facts of the row. -/
import Derived.Test.YtoiadnecjabbeaaGreatDoorGl
set_option linter.unusedSimpArgs false
set_option linter.unusedVariables false
namespace Go.Proofs.YtoiadnecjabbeaaGreatDoor.sheetOne
open Go.ChangeShapes Go.WideShapes Go.ChangeAt Go.RowKit Go.Lv
set_option maxRecDepth 100000
theorem k3:(Rows.sheetOneRow.recurses==Tryz.pinned.checked.prog.recurses 3)=true:=by kernel_rfl
theorem k4:(Rows.sheetOneRow.named==Tryz.pinned.checked.prog.varsNamed 3)=true:=by kernel_rfl
end Go.Proofs.YtoiadnecjabbeaaGreatDoor.sheetOne
