/- RoundUndo returns true: a rule that is put into a valid sheet is taken out again, what is edited is valid, and all other rules keep their order; there is no room exactly if there would be too many. For inputs of bulk at most 1048576; the package-level tables hold what the program's text lays (the card's tie). -/
import Derived.Test.YtanfjibdgcalfaaGreatDoorFd
import Derived.Test.YtanfjibdgcalfaaGreatDoorFh
import Derived.Test.YtanfjibdgcalfaaGreatDoorFi
import Derived.Test.YtanfjibdgcalfaaGreatDoorFj
set_option linter.unusedSimpArgs false
set_option linter.unusedVariables false
namespace Go.Proofs.YtanfjibdgcalfaaGreatDoor.roundUndo
open Go.ChangeShapes Go.WideShapes Go.ChangeAt Go.RowKit Go.Lv
set_option maxRecDepth 100000
theorem proved:Rows.RoundUndoUptoCardSaid:=
 Claim7.holds_tied_plain_at .later [] _ _ _ _ said (fun _ h=>by cases h) wf (fun _ h=>by cases h) roundUndoUpto_row_tie rfl ⟨rfl,rfl⟩ (by kernel_rfl) rfl plain goes
end Go.Proofs.YtanfjibdgcalfaaGreatDoor.roundUndo
#print axioms Go.Proofs.YtanfjibdgcalfaaGreatDoor.roundUndo.proved
