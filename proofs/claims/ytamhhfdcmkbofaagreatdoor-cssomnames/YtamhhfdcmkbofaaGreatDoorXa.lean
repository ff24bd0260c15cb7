/- A closed call, evaluated. -/
import Derived.Test.YtamhhfdcmkbofaaGreatDoorCo
set_option linter.unusedSimpArgs false
set_option linter.unusedVariables false
namespace Go.Lv.VT
open Go.Proofs
set_option maxRecDepth 100000
noncomputable def Kw:Unit->Option Bool:=Rw 1000
theorem SV:zf Tryz.prog (XE Kw):=eU 1000
theorem NQ:Kw ()=some true:=by show Rw 1000 ()=some true;decide+kernel
attribute [irreducible] Kw
end Go.Lv.VT
