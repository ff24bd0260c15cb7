/- All given contracts of seat r9. -/
import Derived.Test.YtpcfcdmidhbkmaaGreatDoorGa
import Derived.Test.YtpcfcdmidhbkmaaGreatDoorCd
set_option linter.unusedSimpArgs false
set_option linter.unusedVariables false
namespace Go.Lv
theorem NW:zB Proofs.Tryz.prog (⟨35,⟨[.str],[]⟩,[],⟨[.str, .int .i64],[]⟩,0,Rj⟩:Con VT.I):=CZ
end Go.Lv
