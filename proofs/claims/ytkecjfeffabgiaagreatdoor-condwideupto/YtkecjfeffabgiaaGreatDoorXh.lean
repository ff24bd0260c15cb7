/- What is read of tokens has its shape. -/
import Derived.Test.YtkecjfeffabgiaaGreatDoorXg
import Derived.Test.YtkecjfeffabgiaaGreatDoorXb
import Derived.KernelRfl
import Derived.Test.YtkecjfeffabgiaaGreatDoorXe
set_option linter.unusedSimpArgs false
set_option linter.unusedVariables false
namespace Go.Lv.VT
set_option maxRecDepth 100000
end Go.Lv.VT
