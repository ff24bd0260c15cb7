/- StoreUndo: the row's claim. -/
import Derived.Test.YtagibnnojbolnaaGreatDoorFc
import Derived.Test.YtagibnnojbolnaaGreatDoorFe
import Derived.Test.YtagibnnojbolnaaGreatDoorFf
set_option linter.unusedSimpArgs false
set_option linter.unusedVariables false
namespace Go.Proofs.YtagibnnojbolnaaGreatDoor.storeUndo
open Go.ChangeShapes Go.WideShapes Go.ChangeAt Go.RowKit Go.Lv
set_option maxRecDepth 100000
theorem closed:joinedFacts Tryz.pinned.checked.prog 3 Tryz.f3 (Rows.OpenSpec.upto Rows.storeUndoSpec).bare Rows.storeUndoUptoRow=true:=by
 unfold joinedFacts;rw[k1,k2,k3,k4]
 kernel_rfl
theorem said:Rows.StoreUndoUptoSaid:=
 OpenClaim.holds_of_cond 3 Tryz.f3 rfl rfl rfl rfl rfl rfl rfl ⟨rfl,rfl,rfl,rfl,rfl⟩ rfl rfl rfl rfl rfl (by kernel_rfl) Tryz.func3 closed
  (Ib (by kernel_rfl)) (by unfold Func.isWrapper;first|(rw[Sa (by decide+kernel)];kernel_rfl)|(rw[Oa (by decide+kernel)];exact⟨rfl,rfl⟩))
  (fun os started H enc _ F=>by rw[OpenClaim.pre_eq_preRow];exact lifted os started H enc F)
end Go.Proofs.YtagibnnojbolnaaGreatDoor.storeUndo
