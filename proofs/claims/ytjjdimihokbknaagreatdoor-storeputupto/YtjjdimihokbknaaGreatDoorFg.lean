/- StorePut returns true: other rules change one sheet of a store alone, and the same rules change nothing. For inputs of bulk at most 1048576; the package-level tables hold what the program's text lays (the card's tie). -/
import Derived.Test.YtjjdimihokbknaaGreatDoorFd
import Derived.Test.YtjjdimihokbknaaGreatDoorFh
import Derived.Test.YtjjdimihokbknaaGreatDoorFi
import Derived.Test.YtjjdimihokbknaaGreatDoorFj
set_option linter.unusedSimpArgs false
set_option linter.unusedVariables false
namespace Go.Proofs.YtjjdimihokbknaaGreatDoor.storePut
open Go.ChangeShapes Go.WideShapes Go.ChangeAt Go.RowKit Go.Lv
set_option maxRecDepth 100000
theorem proved:Rows.StorePutUptoCardSaid:=
 Claim7.holds_tied_plain_at .later [] _ _ _ _ said (fun _ h=>by cases h) wf (fun _ h=>by cases h) storePutUpto_row_tie rfl ⟨rfl,rfl⟩ (by kernel_rfl) rfl plain goes
end Go.Proofs.YtjjdimihokbknaaGreatDoor.storePut
#print axioms Go.Proofs.YtjjdimihokbknaaGreatDoor.storePut.proved
