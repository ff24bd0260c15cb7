/- DeclOnes: closed facts of the row. -/
import Derived.Test.YtcdeccnjlkkejaaGreatDoorGl
set_option linter.unusedSimpArgs false
set_option linter.unusedVariables false
namespace Go.Proofs.YtcdeccnjlkkejaaGreatDoor.declOnes
open Go.ChangeShapes Go.WideShapes Go.ChangeAt Go.RowKit Go.Lv
set_option maxRecDepth 100000
theorem k3:(Rows.declOnesUptoRow.recurses==Tryz.pinned.checked.prog.recurses 11)=true:=by kernel_rfl
theorem k4:(Rows.declOnesUptoRow.named==Tryz.pinned.checked.prog.varsNamed 11)=true:=by kernel_rfl
end Go.Proofs.YtcdeccnjlkkejaaGreatDoor.declOnes
