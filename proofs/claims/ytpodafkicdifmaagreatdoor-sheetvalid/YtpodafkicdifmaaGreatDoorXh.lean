/- What is written piece by piece is there: its tokens, and where each piece begins. -/
import Derived.Test.YtpodafkicdifmaaGreatDoorXg
import Derived.Test.YtpodafkicdifmaaGreatDoorXa
set_option linter.unusedSimpArgs false
set_option linter.unusedVariables false
namespace Go.Lv.VT
set_option maxRecDepth 100000
end Go.Lv.VT
