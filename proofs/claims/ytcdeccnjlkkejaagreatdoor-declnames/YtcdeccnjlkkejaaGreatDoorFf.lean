/- DeclNames: closed facts of the row. -/
import Derived.Test.YtcdeccnjlkkejaaGreatDoorGl
set_option linter.unusedSimpArgs false
set_option linter.unusedVariables false
namespace Go.Proofs.YtcdeccnjlkkejaaGreatDoor.declNames
open Go.ChangeShapes Go.WideShapes Go.ChangeAt Go.RowKit Go.Lv
set_option maxRecDepth 100000
theorem k3:(Rows.declNamesRow.recurses==Tryz.pinned.checked.prog.recurses 12)=true:=by kernel_rfl
theorem k4:(Rows.declNamesRow.named==Tryz.pinned.checked.prog.varsNamed 12)=true:=by kernel_rfl
end Go.Proofs.YtcdeccnjlkkejaaGreatDoor.declNames
