/- CondWide: the row's claim. -/
import Derived.Test.YtkecjfeffabgiaaGreatDoorFc
import Derived.Test.YtkecjfeffabgiaaGreatDoorFe
import Derived.Test.YtkecjfeffabgiaaGreatDoorFf
set_option linter.unusedSimpArgs false
set_option linter.unusedVariables false
namespace Go.Proofs.YtkecjfeffabgiaaGreatDoor.condWide
open Go.ChangeShapes Go.WideShapes Go.ChangeAt Go.RowKit Go.Lv
set_option maxRecDepth 100000
theorem closed:joinedFacts Tryz.pinned.checked.prog 7 Tryz.f7 (Rows.OpenSpec.upto Rows.condWideSpec).bare Rows.condWideUptoRow=true:=by
 unfold joinedFacts;rw[k1,k2,k3,k4]
 kernel_rfl
theorem said:Rows.CondWideUptoSaid:=
 OpenClaim.holds_of_cond 7 Tryz.f7 rfl rfl rfl rfl rfl rfl rfl ⟨rfl,rfl,rfl,rfl,rfl⟩ rfl rfl rfl rfl rfl (by kernel_rfl) Tryz.func7 closed
  (Bb (by kernel_rfl)) (by unfold Func.isWrapper;first|(rw[Na (by decide+kernel)];kernel_rfl)|(rw[Ra (by decide+kernel)];exact⟨rfl,rfl⟩))
  (fun os started H enc _ F=>by rw[OpenClaim.pre_eq_preRow];exact lifted os started H enc F)
end Go.Proofs.YtkecjfeffabgiaaGreatDoor.condWide
