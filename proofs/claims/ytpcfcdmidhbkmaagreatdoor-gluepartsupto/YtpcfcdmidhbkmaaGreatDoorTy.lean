/- Types. -/
import Derived.Test.YtpcfcdmidhbkmaaGreatDoorLf
set_option linter.unusedSimpArgs false
set_option linter.unusedVariables false
namespace Go.Lv.VT
set_option maxRecDepth 100000
structure Qe where
 e0:Str
 e1:Str
 e2:Str
 e3:Str
 e4:Str
 e5:Str
 e6:Str
 e7:Str
 e8:Str
 e9:Str
 e10:Str
 e11:Str
instance:Inhabited Qe:=⟨⟨[],[],[],[],[],[],[],[],[],[],[],[]⟩⟩
structure zb where
 kind:Int
 text:Str
 num:Int
 unit:Str
 flag:Bool
instance:Inhabited zb:=⟨⟨0,[],0,[],false⟩⟩
structure zq where
 token:Int
 at_:Int
instance:Inhabited zq:=⟨⟨0,0⟩⟩
structure za where
 s:Str
 at_:Int
instance:Inhabited za:=⟨⟨[],0⟩⟩
end Go.Lv.VT


