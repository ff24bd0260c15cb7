/- Which values may come in. -/
import Derived.Test.YtanfjibdgcalfaaGreatDoorIp
import Derived.Test.YtanfjibdgcalfaaGreatDoorLf
set_option linter.unusedSimpArgs false
set_option linter.unusedVariables false
namespace Go.Lv.VT
set_option maxRecDepth 100000
open Go.Proofs
def gd:List Nat:=[2,3,4,5,6,7,9,11,21,23,25,26,29,30,31,33,34,36,37,39,42,59,63,65,66,68,70,72,77,80,90,131,133,135,151,155,192,242,272,316,326,330,332,335,363]
end Go.Lv.VT
