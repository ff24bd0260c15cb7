/- A closed call, evaluated. -/
import Derived.Test.YtanfjibdgcalfaaGreatDoorCo
set_option linter.unusedSimpArgs false
set_option linter.unusedVariables false
namespace Go.Lv.VT
open Go.Proofs
set_option maxRecDepth 100000
noncomputable def RI:Unit->Option Bool:=rz 1000
theorem WT:zg Tryz.prog (KI RI):=sS 1000
theorem eQ:RI ()=some true:=by show rz 1000 ()=some true;decide+kernel
end Go.Lv.VT
