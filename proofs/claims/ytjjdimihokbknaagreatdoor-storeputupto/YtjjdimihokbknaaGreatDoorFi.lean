/- StorePut: closed facts of the card. -/
import Derived.Test.YtjjdimihokbknaaGreatDoorGl
set_option linter.unusedSimpArgs false
set_option linter.unusedVariables false
namespace Go.Proofs.YtjjdimihokbknaaGreatDoor.storePut
open Go.ChangeShapes Go.WideShapes Go.ChangeAt Go.RowKit Go.Lv
set_option maxRecDepth 100000
theorem wf:Rows.storePutUptoRow.wfByText (Rows.OpenSpec.upto Rows.storePutSpec)=true:=by kernel_rfl
end Go.Proofs.YtjjdimihokbknaaGreatDoor.storePut
