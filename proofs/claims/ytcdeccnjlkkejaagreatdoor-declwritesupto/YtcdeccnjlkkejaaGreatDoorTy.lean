/- Types. -/
import Derived.Test.YtcdeccnjlkkejaaGreatDoorLf
import Derived.Lib.Join
set_option linter.unusedSimpArgs false
set_option linter.unusedVariables false
namespace Go.Lv.VT
set_option maxRecDepth 100000
structure QR where
 e0:Str
 e1:Str
 e2:Str
 e3:Str
 e4:Str
 e5:Str
 e6:Str
 e7:Str
 e8:Str
 e9:Str
 e10:Str
 e11:Str
instance:Inhabited QR:=⟨⟨[],[],[],[],[],[],[],[],[],[],[],[]⟩⟩
structure Zl where
 e0:Int
 e1:Int
instance:Inhabited Zl:=⟨⟨0,0⟩⟩
structure ze where
 kind:Int
 text:Str
 num:Int
 unit:Str
 flag:Bool
instance:Inhabited ze:=⟨⟨0,[],0,[],false⟩⟩
structure zg where
 token:ze
 list:List zg
instance:Inhabited zg:=⟨⟨(⟨0,[],0,[],false⟩:ze),[]⟩⟩
structure Zj where
 name:Str
 value:List zg
 important:Bool
instance:Inhabited Zj:=⟨⟨[],[],false⟩⟩
structure zH where
 token:Int
 at_:Int
instance:Inhabited zH:=⟨⟨0,0⟩⟩
structure zT where
 depth:Int
 tokens:Int
 bad:Bool
instance:Inhabited zT:=⟨⟨0,0,false⟩⟩
structure za where
 s:Str
 at_:Int
instance:Inhabited za:=⟨⟨[],0⟩⟩
def ZG(k:Int):Int:=if k=19 then 20 else if k=21\/k=2 then 22 else if k=23 then 24 else 0
end Go.Lv.VT

namespace Go.Lv
def Gm(x:List Str×Str):Option Str:=need (Nat.ble x.1.length 1000000&&Nat.ble (Lib.join x.1 x.2).length 1000000000) (some (Lib.join x.1 x.2))
end Go.Lv
