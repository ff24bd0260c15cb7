/- Which values may come in. -/
import Derived.Test.YthejohdmenffiaaGreatDoorIp
import Derived.Test.YthejohdmenffiaaGreatDoorLf
set_option linter.unusedSimpArgs false
set_option linter.unusedVariables false
namespace Go.Lv.VT
set_option maxRecDepth 100000
open Go.Proofs
def gd:List Nat:=[2,3,4,5,6,7,9,11,21,23,25,26,29,30,31,33,34,36,37,39,42,69,72,74,91,128,130,132,144,146,147,149,151,153,157,161,199,251,281,325,334,368]
end Go.Lv.VT
