/- CondBack: the row's claim. -/
import Derived.Test.YtkecjfeffabgiaaGreatDoorFc
import Derived.Test.YtkecjfeffabgiaaGreatDoorFe
import Derived.Test.YtkecjfeffabgiaaGreatDoorFf
set_option linter.unusedSimpArgs false
set_option linter.unusedVariables false
namespace Go.Proofs.YtkecjfeffabgiaaGreatDoor.condBack
open Go.ChangeShapes Go.WideShapes Go.ChangeAt Go.RowKit Go.Lv
set_option maxRecDepth 100000
theorem closed:joinedFacts Tryz.pinned.checked.prog 6 Tryz.f6 (Rows.OpenSpec.upto Rows.condBackSpec).bare Rows.condBackUptoRow=true:=by
 unfold joinedFacts;rw[k1,k2,k3,k4]
 kernel_rfl
theorem said:Rows.CondBackUptoSaid:=
 OpenClaim.holds_of_cond 6 Tryz.f6 rfl rfl rfl rfl rfl rfl rfl ⟨rfl,rfl,rfl,rfl,rfl⟩ rfl rfl rfl rfl rfl (by kernel_rfl) Tryz.func6 closed
  (Ac (by kernel_rfl)) (by unfold Func.isWrapper;first|(rw[Ka (by decide+kernel)];kernel_rfl)|(rw[Ia (by decide+kernel)];exact⟨rfl,rfl⟩))
  (fun os started H enc _ F=>by rw[OpenClaim.pre_eq_preRow];exact lifted os started H enc F)
end Go.Proofs.YtkecjfeffabgiaaGreatDoor.condBack
