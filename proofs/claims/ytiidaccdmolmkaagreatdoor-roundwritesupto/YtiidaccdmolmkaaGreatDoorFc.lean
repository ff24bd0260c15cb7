import Derived.Test.YtiidaccdmolmkaaGreatDoorFa
import Derived.Test.YtiidaccdmolmkaaGreatDoorFb
set_option linter.all false
namespace Go.Proofs.YtiidaccdmolmkaaGreatDoor.roundWrites
open Go.ChangeShapes Go.WideShapes Go.ChangeAt Go.RowKit Go.Lv
set_option maxRecDepth 100000
def lifted(os:Os)(a:os.Started)(H:Type)(enc:TypeId×Value->H)(F:Stop.Interp):
  ReturnsInHanded {} Tryz.checked os 3 .any ((Rows.OpenSpec.upto Rows.roundWritesSpec).preRow enc Tryz.prog Tryz.f3 Rows.roundWritesUptoRow.domain false Rows.roundWritesUptoRow.laid) (((Rows.OpenSpec.upto Rows.roundWritesSpec).at F).post enc Tryz.prog Tryz.f3 false true false false):=by
 refine returnsInHanded_of_row (C:=Tryz.checked) (s:=Rows.OpenSpec.upto Rows.roundWritesSpec) own a (by kernel_rfl) Tryz.func3 (witness os H enc) ?_;intro W base args d e b c f _ hk _ i hS _;exact contract H enc W base args d e b c f i hS (hk _ rfl)
end Go.Proofs.YtiidaccdmolmkaaGreatDoor.roundWrites
