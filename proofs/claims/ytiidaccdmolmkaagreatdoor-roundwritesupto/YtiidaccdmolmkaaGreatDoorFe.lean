import Derived.Test.YtiidaccdmolmkaaGreatDoorGl
set_option linter.all false
namespace Go.Proofs.YtiidaccdmolmkaaGreatDoor.roundWrites
open Go.ChangeShapes Go.WideShapes Go.ChangeAt Go.RowKit Go.Lv
set_option maxRecDepth 100000
def k1:(Rows.roundWritesUptoRow.inPlace==Tryz.pinned.checked.prog.inPlace 3)=true:=by kernel_rfl
def k2:(Rows.roundWritesUptoRow.unfollowed==Tryz.pinned.checked.prog.unfollowed 3)=true:=by kernel_rfl
end Go.Proofs.YtiidaccdmolmkaaGreatDoor.roundWrites
