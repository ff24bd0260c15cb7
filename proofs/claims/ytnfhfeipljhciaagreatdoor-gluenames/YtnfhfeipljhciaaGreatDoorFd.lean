/- GlueNames: the row's claim. -/
import Derived.Test.YtnfhfeipljhciaaGreatDoorFc
import Derived.Test.YtnfhfeipljhciaaGreatDoorFe
import Derived.Test.YtnfhfeipljhciaaGreatDoorFf
namespace Go.Proofs.YtnfhfeipljhciaaGreatDoor.glueNames
open Go.ChangeShapes Go.WideShapes Go.ChangeAt Go.RowKit Go.Lv
set_option maxRecDepth 100000
theorem closed : joinedFacts Tryz.pinned.checked.prog 7 Tryz.f7 (OpenSpec.ofChange Rows.glueNamesSpec).bare Rows.glueNamesRow = true := by
 unfold joinedFacts
 rw [k1, k2, k3, k4]
 kernel_rfl
theorem said : Rows.GlueNamesSaid :=
 OpenClaim.holds_of_cond 7 Tryz.f7 rfl rfl rfl rfl rfl rfl rfl ⟨rfl, rfl, rfl, rfl, rfl⟩ rfl rfl rfl rfl rfl (by kernel_rfl) Tryz.func7 closed
  (of_decide_eq_true (by kernel_rfl)) (by unfold Func.isWrapper; first | (rw [if_pos (by decide +kernel)]; kernel_rfl) | (rw [if_neg (by decide +kernel)]; exact ⟨rfl, rfl⟩))
  (fun os started H enc _ F => by rw [OpenClaim.pre_eq_preRow]; exact lifted os started H enc F)
end Go.Proofs.YtnfhfeipljhciaaGreatDoor.glueNames
