import Derived.Test.YtiidaccdmolmkaaGreatDoorGl
set_option linter.all false
namespace Go.Proofs.YtiidaccdmolmkaaGreatDoor.roundWrites
open Go.ChangeShapes Go.WideShapes Go.ChangeAt Go.RowKit Go.Lv
set_option maxRecDepth 100000
def wf:Rows.roundWritesUptoRow.wfByText (Rows.OpenSpec.upto Rows.roundWritesSpec)=true:=by kernel_rfl
end Go.Proofs.YtiidaccdmolmkaaGreatDoor.roundWrites
