/- SheetOne: the row's claim. -/
import Derived.Test.YtoiadnecjabbeaaGreatDoorFc
import Derived.Test.YtoiadnecjabbeaaGreatDoorFe
import Derived.Test.YtoiadnecjabbeaaGreatDoorFf
set_option linter.unusedSimpArgs false
set_option linter.unusedVariables false
namespace Go.Proofs.YtoiadnecjabbeaaGreatDoor.sheetOne
open Go.ChangeShapes Go.WideShapes Go.ChangeAt Go.RowKit Go.Lv
set_option maxRecDepth 100000
theorem closed:joinedFacts Tryz.pinned.checked.prog 3 Tryz.f3 (OpenSpec.ofChange Rows.sheetOneSpec).bare Rows.sheetOneRow=true:=by
 unfold joinedFacts;rw[k1,k2,k3,k4]
 kernel_rfl
theorem said:Rows.SheetOneSaid:=
 OpenClaim.holds_of_cond 3 Tryz.f3 rfl rfl rfl rfl rfl rfl rfl ⟨rfl,rfl,rfl,rfl,rfl⟩ rfl rfl rfl rfl rfl (by kernel_rfl) Tryz.func3 closed
  (Sb (by kernel_rfl)) (by unfold Func.isWrapper;first|(rw[Ka (by decide+kernel)];kernel_rfl)|(rw[Ia (by decide+kernel)];exact⟨rfl,rfl⟩))
  (fun os started H enc _ F=>by rw[OpenClaim.pre_eq_preRow];exact lifted os started H enc F)
end Go.Proofs.YtoiadnecjabbeaaGreatDoor.sheetOne
