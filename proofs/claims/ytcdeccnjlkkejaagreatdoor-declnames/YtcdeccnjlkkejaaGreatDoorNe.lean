/- The reference's reading, by rests of a text: bytes, escapes, names. -/
import Derived.Test.YtcdeccnjlkkejaaGreatDoorNd
set_option linter.unusedSimpArgs false
set_option linter.unusedVariables false
namespace Go.Lv.VT
set_option maxRecDepth 100000
end Go.Lv.VT
