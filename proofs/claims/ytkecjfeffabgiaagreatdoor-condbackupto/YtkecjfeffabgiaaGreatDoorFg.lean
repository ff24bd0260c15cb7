/- CondBack returns true: what is written of a condition is read as the same, and two conditions of one kind have the same text exactly if they are the same. For inputs of bulk at most 1048576; the package-level tables hold what the program's text lays (the card's tie). -/
import Derived.Test.YtkecjfeffabgiaaGreatDoorFd
import Derived.Test.YtkecjfeffabgiaaGreatDoorFh
set_option linter.unusedSimpArgs false
set_option linter.unusedVariables false
namespace Go.Proofs.YtkecjfeffabgiaaGreatDoor.condBack
open Go.ChangeShapes Go.WideShapes Go.ChangeAt Go.RowKit Go.Lv
set_option maxRecDepth 100000
theorem proved:Rows.CondBackUptoCardSaid:=
 Claim7.holds_tied_plain_at .later [] _ _ _ _ said (fun _ h=>by cases h) (by kernel_rfl) (fun _ h=>by cases h) condBackUpto_row_tie rfl ⟨rfl,rfl⟩ (by kernel_rfl) rfl plain (by kernel_rfl)
end Go.Proofs.YtkecjfeffabgiaaGreatDoor.condBack
#print axioms Go.Proofs.YtkecjfeffabgiaaGreatDoor.condBack.proved
