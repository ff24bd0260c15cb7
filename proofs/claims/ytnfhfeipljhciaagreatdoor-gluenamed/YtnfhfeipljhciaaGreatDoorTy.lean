/- Types. -/
import Derived.Test.YtnfhfeipljhciaaGreatDoorLf
namespace Go.Lv.VT
set_option maxRecDepth 100000
structure qf where
 e0 : Str
 e1 : Str
 e2 : Str
 e3 : Str
 e4 : Str
 e5 : Str
 e6 : Str
 e7 : Str
 e8 : Str
 e9 : Str
 e10 : Str
 e11 : Str
instance : Inhabited qf := ⟨⟨[], [], [], [], [], [], [], [], [], [], [], []⟩⟩
structure qD where
 e0 : Int
 e1 : Int
instance : Inhabited qD := ⟨⟨0, 0⟩⟩
structure zh where
 kind : Int
 text : Str
 num : Int
 unit : Str
 flag : Bool
instance : Inhabited zh := ⟨⟨0, [], 0, [], false⟩⟩
structure zq where
 token : Int
 at_ : Int
instance : Inhabited zq := ⟨⟨0, 0⟩⟩
structure za where
 s : Str
 at_ : Int
instance : Inhabited za := ⟨⟨[], 0⟩⟩
end Go.Lv.VT
