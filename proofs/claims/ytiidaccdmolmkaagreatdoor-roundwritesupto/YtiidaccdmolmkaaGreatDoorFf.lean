import Derived.Test.YtiidaccdmolmkaaGreatDoorGl
set_option linter.all false
namespace Go.Proofs.YtiidaccdmolmkaaGreatDoor.roundWrites
open Go.ChangeShapes Go.WideShapes Go.ChangeAt Go.RowKit Go.Lv
set_option maxRecDepth 100000
def k3:(Rows.roundWritesUptoRow.recurses==Tryz.pinned.checked.prog.recurses 3)=true:=by kernel_rfl
def k4:(Rows.roundWritesUptoRow.named==Tryz.pinned.checked.prog.varsNamed 3)=true:=by kernel_rfl
end Go.Proofs.YtiidaccdmolmkaaGreatDoor.roundWrites
