/- SheetValid: the row's claim. -/
import Derived.Test.YtpodafkicdifmaaGreatDoorFc
import Derived.Test.YtpodafkicdifmaaGreatDoorFe
import Derived.Test.YtpodafkicdifmaaGreatDoorFf
set_option linter.unusedSimpArgs false
set_option linter.unusedVariables false
namespace Go.Proofs.YtpodafkicdifmaaGreatDoor.sheetValid
open Go.ChangeShapes Go.WideShapes Go.ChangeAt Go.RowKit Go.Lv
set_option maxRecDepth 100000
theorem closed:joinedFacts Tryz.pinned.checked.prog 3 Tryz.f3 (OpenSpec.ofChange Rows.sheetValidSpec).bare Rows.sheetValidRow=true:=by
 unfold joinedFacts;rw[k1,k2,k3,k4]
 kernel_rfl
theorem said:Rows.SheetValidSaid:=
 OpenClaim.holds_of_cond 3 Tryz.f3 rfl rfl rfl rfl rfl rfl rfl ⟨rfl,rfl,rfl,rfl,rfl⟩ rfl rfl rfl rfl rfl (by kernel_rfl) Tryz.func3 closed
  (Fb (by kernel_rfl)) (by unfold Func.isWrapper;first|(rw[Ka (by decide+kernel)];kernel_rfl)|(rw[Ha (by decide+kernel)];exact⟨rfl,rfl⟩))
  (fun os started H enc _ F=>by rw[OpenClaim.pre_eq_preRow];exact lifted os started H enc F)
end Go.Proofs.YtpodafkicdifmaaGreatDoor.sheetValid
