/- SheetValid returns true for every text: what sheet.Read returns of a text of at most 600 bytes is valid, and in a block of a layer a closed text has the same rules. the package-level tables hold what the program's text lays (the card's tie). -/
import Derived.Test.YtpodafkicdifmaaGreatDoorFd
import Derived.Test.YtpodafkicdifmaaGreatDoorFh
import Derived.Test.YtpodafkicdifmaaGreatDoorFi
import Derived.Test.YtpodafkicdifmaaGreatDoorFj
set_option linter.unusedSimpArgs false
set_option linter.unusedVariables false
namespace Go.Proofs.YtpodafkicdifmaaGreatDoor.sheetValid
open Go.ChangeShapes Go.WideShapes Go.ChangeAt Go.RowKit Go.Lv
set_option maxRecDepth 100000
theorem proved:Rows.SheetValidCardSaid:=
 Claim7.holds_tied_plain_at .later [] _ _ _ _ said (fun _ h=>by cases h) wf (fun _ h=>by cases h) sheetValid_row_tie rfl ⟨rfl,rfl⟩ (by kernel_rfl) rfl plain goes
end Go.Proofs.YtpodafkicdifmaaGreatDoor.sheetValid
#print axioms Go.Proofs.YtpodafkicdifmaaGreatDoor.sheetValid.proved
