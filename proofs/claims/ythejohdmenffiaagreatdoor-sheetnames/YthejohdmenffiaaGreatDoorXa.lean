/- SheetNames: examples, kinds of rules, what gives none, limits and errors: a closed call. -/
import Derived.Test.YthejohdmenffiaaGreatDoorMo
set_option linter.unusedSimpArgs false
set_option linter.unusedVariables false
namespace Go.Lv.VT
set_option maxRecDepth 100000
theorem vN:uq ()=some true:=xQ 1000 _ _ (by decide+kernel)
end Go.Lv.VT
