import Derived.Test.YtiidaccdmolmkaaGreatDoorFc
import Derived.Test.YtiidaccdmolmkaaGreatDoorFe
import Derived.Test.YtiidaccdmolmkaaGreatDoorFf
set_option linter.all false
namespace Go.Proofs.YtiidaccdmolmkaaGreatDoor.roundWrites
open Go.ChangeShapes Go.WideShapes Go.ChangeAt Go.RowKit Go.Lv
set_option maxRecDepth 100000
def closed:joinedFacts Tryz.pinned.checked.prog 3 Tryz.f3 (Rows.OpenSpec.upto Rows.roundWritesSpec).bare Rows.roundWritesUptoRow=true:=by
 unfold joinedFacts;rw[k1,k2,k3,k4]
 kernel_rfl
def said:Rows.RoundWritesUptoSaid:=
 OpenClaim.holds_of_cond 3 Tryz.f3 rfl rfl rfl rfl rfl rfl rfl ⟨rfl,rfl,rfl,rfl,rfl⟩ rfl rfl rfl rfl rfl (by kernel_rfl) Tryz.func3 closed
  (jb (by kernel_rfl)) (by unfold Func.isWrapper;first|(rw[La (by decide+kernel)];kernel_rfl)|(rw[Ka (by decide+kernel)];exact⟨rfl,rfl⟩))
  (λos a H enc _ F=>by rw[OpenClaim.pre_eq_preRow];exact lifted os a H enc F)
end Go.Proofs.YtiidaccdmolmkaaGreatDoor.roundWrites
