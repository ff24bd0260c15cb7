/- SheetOne returns true for every text: what sheet.Rule and sheet.Read tell of a text of at most 600 bytes agrees, and a rule ahead of it or behind it makes too many. the package-level tables hold what the program's text lays (the card's tie). -/
import Derived.Test.YtoiadnecjabbeaaGreatDoorFd
import Derived.Test.YtoiadnecjabbeaaGreatDoorFh
import Derived.Test.YtoiadnecjabbeaaGreatDoorFi
import Derived.Test.YtoiadnecjabbeaaGreatDoorFj
set_option linter.unusedSimpArgs false
set_option linter.unusedVariables false
namespace Go.Proofs.YtoiadnecjabbeaaGreatDoor.sheetOne
open Go.ChangeShapes Go.WideShapes Go.ChangeAt Go.RowKit Go.Lv
set_option maxRecDepth 100000
theorem proved:Rows.SheetOneCardSaid:=
 Claim7.holds_tied_plain_at .later [] _ _ _ _ said (fun _ h=>by cases h) wf (fun _ h=>by cases h) sheetOne_row_tie rfl ⟨rfl,rfl⟩ (by kernel_rfl) rfl plain goes
end Go.Proofs.YtoiadnecjabbeaaGreatDoor.sheetOne
#print axioms Go.Proofs.YtoiadnecjabbeaaGreatDoor.sheetOne.proved
