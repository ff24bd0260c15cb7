/- DeclNames: the row's claim. -/
import Derived.Test.YtcdeccnjlkkejaaGreatDoorFc
import Derived.Test.YtcdeccnjlkkejaaGreatDoorFe
import Derived.Test.YtcdeccnjlkkejaaGreatDoorFf
set_option linter.unusedSimpArgs false
set_option linter.unusedVariables false
namespace Go.Proofs.YtcdeccnjlkkejaaGreatDoor.declNames
open Go.ChangeShapes Go.WideShapes Go.ChangeAt Go.RowKit Go.Lv
set_option maxRecDepth 100000
theorem closed:joinedFacts Tryz.pinned.checked.prog 12 Tryz.f12 (OpenSpec.ofChange Rows.declNamesSpec).bare Rows.declNamesRow=true:=by
 unfold joinedFacts;rw[k1,k2,k3,k4]
 kernel_rfl
theorem said:Rows.DeclNamesSaid:=
 OpenClaim.holds_of_cond 12 Tryz.f12 rfl rfl rfl rfl rfl rfl rfl ⟨rfl,rfl,rfl,rfl,rfl⟩ rfl rfl rfl rfl rfl (by kernel_rfl) Tryz.func12 closed
  (Ec (by kernel_rfl)) (by unfold Func.isWrapper;first|(rw[Ia (by decide+kernel)];kernel_rfl)|(rw[Fa (by decide+kernel)];exact⟨rfl,rfl⟩))
  (fun os started H enc _ F=>by rw[OpenClaim.pre_eq_preRow];exact lifted os started H enc F)
end Go.Proofs.YtcdeccnjlkkejaaGreatDoor.declNames
