/- GlueNamed: the row. -/
import Derived.Test.YtnfhfeipljhciaaGreatDoorFa
import Derived.Test.YtnfhfeipljhciaaGreatDoorFb
namespace Go.Proofs.YtnfhfeipljhciaaGreatDoor.glueNamed
open Go.ChangeShapes Go.WideShapes Go.ChangeAt Go.RowKit Go.Lv
set_option maxRecDepth 100000
theorem lifted (os : Os) (started : os.Started) (H : Type) (enc : TypeId × Value → H) (F : Stop.Interp) :
  ReturnsInHanded {} Tryz.checked os 10 .any ((OpenSpec.ofChange Rows.glueNamedSpec).preRow enc Tryz.prog Tryz.f10 Rows.glueNamedRow.domain false Rows.glueNamedRow.laid) (((OpenSpec.ofChange Rows.glueNamedSpec).at F).post enc Tryz.prog Tryz.f10 false true false false) := by
 refine returnsInHanded_of_row (C := Tryz.checked) (s := OpenSpec.ofChange Rows.glueNamedSpec) own started (by kernel_rfl) Tryz.func10 (witness os H enc) ?_
 intro W base args ds gs before hval hW _ _ _ hL hS _
 exact contract H enc W base args ds gs before hval hW hL hS
end Go.Proofs.YtnfhfeipljhciaaGreatDoor.glueNamed
