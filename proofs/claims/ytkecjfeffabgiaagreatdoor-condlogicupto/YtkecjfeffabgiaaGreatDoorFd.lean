/- CondLogic: the row's claim. -/
import Derived.Test.YtkecjfeffabgiaaGreatDoorFc
import Derived.Test.YtkecjfeffabgiaaGreatDoorFe
import Derived.Test.YtkecjfeffabgiaaGreatDoorFf
set_option linter.unusedSimpArgs false
set_option linter.unusedVariables false
namespace Go.Proofs.YtkecjfeffabgiaaGreatDoor.condLogic
open Go.ChangeShapes Go.WideShapes Go.ChangeAt Go.RowKit Go.Lv
set_option maxRecDepth 100000
theorem closed:joinedFacts Tryz.pinned.checked.prog 5 Tryz.f5 (Rows.OpenSpec.upto Rows.condLogicSpec).bare Rows.condLogicUptoRow=true:=by
 unfold joinedFacts;rw[k1,k2,k3,k4]
 kernel_rfl
theorem said:Rows.CondLogicUptoSaid:=
 OpenClaim.holds_of_cond 5 Tryz.f5 rfl rfl rfl rfl rfl rfl rfl ⟨rfl,rfl,rfl,rfl,rfl⟩ rfl rfl rfl rfl rfl (by kernel_rfl) Tryz.func5 closed
  (Db (by kernel_rfl)) (by unfold Func.isWrapper;first|(rw[Na (by decide+kernel)];kernel_rfl)|(rw[Ra (by decide+kernel)];exact⟨rfl,rfl⟩))
  (fun os started H enc _ F=>by rw[OpenClaim.pre_eq_preRow];exact lifted os started H enc F)
end Go.Proofs.YtkecjfeffabgiaaGreatDoor.condLogic
