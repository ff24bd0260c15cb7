/- DeclNames: closed facts of the row. -/
import Derived.Test.YtcdeccnjlkkejaaGreatDoorGl
set_option linter.unusedSimpArgs false
set_option linter.unusedVariables false
namespace Go.Proofs.YtcdeccnjlkkejaaGreatDoor.declNames
open Go.ChangeShapes Go.WideShapes Go.ChangeAt Go.RowKit Go.Lv
set_option maxRecDepth 100000
theorem k1:(Rows.declNamesRow.inPlace==Tryz.pinned.checked.prog.inPlace 12)=true:=by kernel_rfl
theorem k2:(Rows.declNamesRow.unfollowed==Tryz.pinned.checked.prog.unfollowed 12)=true:=by kernel_rfl
end Go.Proofs.YtcdeccnjlkkejaaGreatDoor.declNames
