/- CondNames: the examples, each form, what is none, limits and errors: a closed call. -/
import Derived.Test.YtkecjfeffabgiaaGreatDoorMo
set_option linter.unusedSimpArgs false
set_option linter.unusedVariables false
namespace Go.Lv.VT
set_option maxRecDepth 100000
theorem uJ:Ep ()=some true:=IM 1000 _ _ (by decide+kernel)
end Go.Lv.VT
