/- Queries: the program's, and the reference's. -/
import Derived.Test.YtkecjfeffabgiaaGreatDoorXi
import Derived.Test.YtkecjfeffabgiaaGreatDoorXb
import Derived.Test.YtkecjfeffabgiaaGreatDoorXc
set_option linter.unusedSimpArgs false
set_option linter.unusedVariables false
namespace Go.Lv.VT
end Go.Lv.VT
