/- DeclWrites: closed facts of the row. -/
import Derived.Test.YtcdeccnjlkkejaaGreatDoorGl
set_option linter.unusedSimpArgs false
set_option linter.unusedVariables false
namespace Go.Proofs.YtcdeccnjlkkejaaGreatDoor.declWrites
open Go.ChangeShapes Go.WideShapes Go.ChangeAt Go.RowKit Go.Lv
set_option maxRecDepth 100000
theorem k3:(Rows.declWritesUptoRow.recurses==Tryz.pinned.checked.prog.recurses 10)=true:=by kernel_rfl
theorem k4:(Rows.declWritesUptoRow.named==Tryz.pinned.checked.prog.varsNamed 10)=true:=by kernel_rfl
end Go.Proofs.YtcdeccnjlkkejaaGreatDoor.declWrites
