/- GlueNumbers: the row. -/
import Derived.Test.YtnfhfeipljhciaaGreatDoorFa
import Derived.Test.YtnfhfeipljhciaaGreatDoorFb
namespace Go.Proofs.YtnfhfeipljhciaaGreatDoor.glueNumbers
open Go.ChangeShapes Go.WideShapes Go.ChangeAt Go.RowKit Go.Lv
set_option maxRecDepth 100000
theorem lifted (os : Os) (started : os.Started) (H : Type) (enc : TypeId × Value → H) (F : Stop.Interp) :
  ReturnsInHanded {} Tryz.checked os 9 .any ((OpenSpec.ofChange Rows.glueNumbersSpec).preRow enc Tryz.prog Tryz.f9 Rows.glueNumbersRow.domain false Rows.glueNumbersRow.laid) (((OpenSpec.ofChange Rows.glueNumbersSpec).at F).post enc Tryz.prog Tryz.f9 false true false false) := by
 refine returnsInHanded_of_row (C := Tryz.checked) (s := OpenSpec.ofChange Rows.glueNumbersSpec) own started (by kernel_rfl) Tryz.func9 (witness os H enc) ?_
 intro W base args ds gs before hval hW _ _ _ hL hS _
 exact contract H enc W base args ds gs before hval hW hL hS
end Go.Proofs.YtnfhfeipljhciaaGreatDoor.glueNumbers
