/- DeclMark: the row's claim. -/
import Derived.Test.YtcdeccnjlkkejaaGreatDoorFc
import Derived.Test.YtcdeccnjlkkejaaGreatDoorFe
import Derived.Test.YtcdeccnjlkkejaaGreatDoorFf
set_option linter.unusedSimpArgs false
set_option linter.unusedVariables false
namespace Go.Proofs.YtcdeccnjlkkejaaGreatDoor.declMark
open Go.ChangeShapes Go.WideShapes Go.ChangeAt Go.RowKit Go.Lv
set_option maxRecDepth 100000
theorem closed:joinedFacts Tryz.pinned.checked.prog 13 Tryz.f13 (Rows.OpenSpec.upto Rows.declMarkSpec).bare Rows.declMarkUptoRow=true:=by
 unfold joinedFacts;rw[k1,k2,k3,k4]
 kernel_rfl
theorem said:Rows.DeclMarkUptoSaid:=
 OpenClaim.holds_of_cond 13 Tryz.f13 rfl rfl rfl rfl rfl rfl rfl ⟨rfl,rfl,rfl,rfl,rfl⟩ rfl rfl rfl rfl rfl (by kernel_rfl) Tryz.func13 closed
  (Vb (by kernel_rfl)) (by unfold Func.isWrapper;first|(rw[Ha (by decide+kernel)];kernel_rfl)|(rw[Ga (by decide+kernel)];exact⟨rfl,rfl⟩))
  (fun os started H enc _ F=>by rw[OpenClaim.pre_eq_preRow];exact lifted os started H enc F)
end Go.Proofs.YtcdeccnjlkkejaaGreatDoor.declMark
