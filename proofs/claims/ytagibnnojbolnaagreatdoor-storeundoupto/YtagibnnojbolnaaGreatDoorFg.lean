/- StoreUndo returns true: a sheet that is put into a store and taken out again leaves all others, and its number is not given again. For inputs of bulk at most 1048576; the package-level tables hold what the program's text lays (the card's tie). -/
import Derived.Test.YtagibnnojbolnaaGreatDoorFd
import Derived.Test.YtagibnnojbolnaaGreatDoorFh
import Derived.Test.YtagibnnojbolnaaGreatDoorFi
import Derived.Test.YtagibnnojbolnaaGreatDoorFj
set_option linter.unusedSimpArgs false
set_option linter.unusedVariables false
namespace Go.Proofs.YtagibnnojbolnaaGreatDoor.storeUndo
open Go.ChangeShapes Go.WideShapes Go.ChangeAt Go.RowKit Go.Lv
set_option maxRecDepth 100000
theorem proved:Rows.StoreUndoUptoCardSaid:=
 Claim7.holds_tied_plain_at .later [] _ _ _ _ said (fun _ h=>by cases h) wf (fun _ h=>by cases h) storeUndoUpto_row_tie rfl ⟨rfl,rfl⟩ (by kernel_rfl) rfl plain goes
end Go.Proofs.YtagibnnojbolnaaGreatDoor.storeUndo
#print axioms Go.Proofs.YtagibnnojbolnaaGreatDoor.storeUndo.proved
