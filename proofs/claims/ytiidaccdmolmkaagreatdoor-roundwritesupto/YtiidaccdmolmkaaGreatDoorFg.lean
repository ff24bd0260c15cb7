/- RoundWrites returns true: the texts of a rule, of the rules of a sheet and of the sheet, and their errors, are those of the reference. For inputs of bulk at most 1048576; the package-level tables hold what the program's text lays (the card's tie). -/
import Derived.Test.YtiidaccdmolmkaaGreatDoorFd
import Derived.Test.YtiidaccdmolmkaaGreatDoorFh
import Derived.Test.YtiidaccdmolmkaaGreatDoorFi
import Derived.Test.YtiidaccdmolmkaaGreatDoorFj
set_option linter.all false
namespace Go.Proofs.YtiidaccdmolmkaaGreatDoor.roundWrites
open Go.ChangeShapes Go.WideShapes Go.ChangeAt Go.RowKit Go.Lv
set_option maxRecDepth 100000
theorem proved:Rows.RoundWritesUptoCardSaid:=
 Claim7.holds_tied_plain_at .later [] _ _ _ _ said (λ_ h=>by cases h) wf (λ_ h=>by cases h) roundWritesUpto_row_tie rfl ⟨rfl,rfl⟩ (by kernel_rfl) rfl plain goes
end Go.Proofs.YtiidaccdmolmkaaGreatDoor.roundWrites
#print axioms Go.Proofs.YtiidaccdmolmkaaGreatDoor.roundWrites.proved
