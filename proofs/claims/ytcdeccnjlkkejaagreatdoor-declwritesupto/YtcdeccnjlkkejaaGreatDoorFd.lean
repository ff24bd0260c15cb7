/- DeclWrites: the row's claim. -/
import Derived.Test.YtcdeccnjlkkejaaGreatDoorFc
import Derived.Test.YtcdeccnjlkkejaaGreatDoorFe
import Derived.Test.YtcdeccnjlkkejaaGreatDoorFf
set_option linter.unusedSimpArgs false
set_option linter.unusedVariables false
namespace Go.Proofs.YtcdeccnjlkkejaaGreatDoor.declWrites
open Go.ChangeShapes Go.WideShapes Go.ChangeAt Go.RowKit Go.Lv
set_option maxRecDepth 100000
theorem closed:joinedFacts Tryz.pinned.checked.prog 10 Tryz.f10 (Rows.OpenSpec.upto Rows.declWritesSpec).bare Rows.declWritesUptoRow=true:=by
 unfold joinedFacts;rw[k1,k2,k3,k4]
 kernel_rfl
theorem said:Rows.DeclWritesUptoSaid:=
 OpenClaim.holds_of_cond 10 Tryz.f10 rfl rfl rfl rfl rfl rfl rfl ⟨rfl,rfl,rfl,rfl,rfl⟩ rfl rfl rfl rfl rfl (by kernel_rfl) Tryz.func10 closed
  (Ob (by kernel_rfl)) (by unfold Func.isWrapper;first|(rw[Ka (by decide+kernel)];kernel_rfl)|(rw[Ja (by decide+kernel)];exact⟨rfl,rfl⟩))
  (fun os started H enc _ F=>by rw[OpenClaim.pre_eq_preRow];exact lifted os started H enc F)
end Go.Proofs.YtcdeccnjlkkejaaGreatDoor.declWrites
