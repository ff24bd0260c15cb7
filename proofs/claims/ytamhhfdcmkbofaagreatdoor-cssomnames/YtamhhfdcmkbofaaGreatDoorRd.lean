/- Which values may come in. -/
import Derived.Test.YtamhhfdcmkbofaaGreatDoorIp
import Derived.Test.YtamhhfdcmkbofaaGreatDoorLf
set_option linter.unusedSimpArgs false
set_option linter.unusedVariables false
namespace Go.Lv.VT
set_option maxRecDepth 100000
open Go.Proofs
def gd:List Nat:=[2,3,4,5,6,7,9,11,21,22,24,27,30,34,35,36,37,39,40,42,43,45,49,50,68,69,71,72,74,76,78,92,104,113,129,131,133,167,183,187,230,261,305,324,326,329,331,361,371]
end Go.Lv.VT
