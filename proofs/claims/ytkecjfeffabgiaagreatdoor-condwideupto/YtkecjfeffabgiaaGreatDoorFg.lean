/- CondWide returns true: a media condition holds if one of its queries does; a wider screen keeps what holds from a width on, a narrower one what holds up to a width. For inputs of bulk at most 1048576; the package-level tables hold what the program's text lays (the card's tie). -/
import Derived.Test.YtkecjfeffabgiaaGreatDoorFd
import Derived.Test.YtkecjfeffabgiaaGreatDoorFh
set_option linter.unusedSimpArgs false
set_option linter.unusedVariables false
namespace Go.Proofs.YtkecjfeffabgiaaGreatDoor.condWide
open Go.ChangeShapes Go.WideShapes Go.ChangeAt Go.RowKit Go.Lv
set_option maxRecDepth 100000
theorem proved:Rows.CondWideUptoCardSaid:=
 Claim7.holds_tied_plain_at .later [] _ _ _ _ said (fun _ h=>by cases h) (by kernel_rfl) (fun _ h=>by cases h) condWideUpto_row_tie rfl ⟨rfl,rfl⟩ (by kernel_rfl) rfl plain (by kernel_rfl)
end Go.Proofs.YtkecjfeffabgiaaGreatDoor.condWide
#print axioms Go.Proofs.YtkecjfeffabgiaaGreatDoor.condWide.proved
