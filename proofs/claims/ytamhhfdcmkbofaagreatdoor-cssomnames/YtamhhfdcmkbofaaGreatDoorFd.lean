/- CssomNames: the row's claim. -/
import Derived.Test.YtamhhfdcmkbofaaGreatDoorFc
import Derived.Test.YtamhhfdcmkbofaaGreatDoorFe
import Derived.Test.YtamhhfdcmkbofaaGreatDoorFf
set_option linter.unusedSimpArgs false
set_option linter.unusedVariables false
namespace Go.Proofs.YtamhhfdcmkbofaaGreatDoor.cssomNames
open Go.ChangeShapes Go.WideShapes Go.ChangeAt Go.RowKit Go.Lv
set_option maxRecDepth 100000
theorem closed:joinedFacts Tryz.pinned.checked.prog 3 Tryz.f3 (OpenSpec.ofChange Rows.cssomNamesSpec).bare Rows.cssomNamesRow=true:=by
 unfold joinedFacts;rw[k1,k2,k3,k4]
 kernel_rfl
theorem said:Rows.CssomNamesSaid:=
 OpenClaim.holds_of_cond 3 Tryz.f3 rfl rfl rfl rfl rfl rfl rfl ⟨rfl,rfl,rfl,rfl,rfl⟩ rfl rfl rfl rfl rfl (by kernel_rfl) Tryz.func3 closed
  (ja (by kernel_rfl)) (by unfold Func.isWrapper;first|(rw[Ma (by decide+kernel)];kernel_rfl)|(rw[Na (by decide+kernel)];exact⟨rfl,rfl⟩))
  (fun os started H enc _ F=>by rw[OpenClaim.pre_eq_preRow];exact lifted os started H enc F)
end Go.Proofs.YtamhhfdcmkbofaaGreatDoor.cssomNames
