/- SheetKept returns true for every three texts: the rules of texts put together, all but the last one closed, are the rules of each, as far as there is room. the package-level tables hold what the program's text lays (the card's tie). -/
import Derived.Test.YtbgmaekmfjhfoaaGreatDoorFd
import Derived.Test.YtbgmaekmfjhfoaaGreatDoorFh
import Derived.Test.YtbgmaekmfjhfoaaGreatDoorFi
import Derived.Test.YtbgmaekmfjhfoaaGreatDoorFj
set_option linter.unusedSimpArgs false
set_option linter.unusedVariables false
namespace Go.Proofs.YtbgmaekmfjhfoaaGreatDoor.sheetKept
open Go.ChangeShapes Go.WideShapes Go.ChangeAt Go.RowKit Go.Lv
set_option maxRecDepth 100000
theorem proved:Rows.SheetKeptCardSaid:=
 Claim7.holds_tied_plain_at .later [] _ _ _ _ said (fun _ h=>by cases h) wf (fun _ h=>by cases h) sheetKept_row_tie rfl ⟨rfl,rfl⟩ (by kernel_rfl) rfl plain goes
end Go.Proofs.YtbgmaekmfjhfoaaGreatDoor.sheetKept
#print axioms Go.Proofs.YtbgmaekmfjhfoaaGreatDoor.sheetKept.proved
