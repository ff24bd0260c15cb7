/- Types. -/
import Derived.Test.YtkecjfeffabgiaaGreatDoorLf
import Derived.Lib.Join
set_option linter.unusedSimpArgs false
set_option linter.unusedVariables false
namespace Go.Lv.VT
set_option maxRecDepth 100000
structure zaT where
 e0:Str
 e1:Str
 e2:Str
 e3:Str
 e4:Str
 e5:Str
 e6:Str
 e7:Str
 e8:Str
 e9:Str
 e10:Str
 e11:Str
instance:Inhabited zaT:=⟨⟨[],[],[],[],[],[],[],[],[],[],[],[]⟩⟩
structure ZC where
 e0:Int
 e1:Int
instance:Inhabited ZC:=⟨⟨0,0⟩⟩
structure ze where
 kind:Int
 text:Str
 num:Int
 unit:Str
 flag:Bool
instance:Inhabited ze:=⟨⟨0,[],0,[],false⟩⟩
structure zh where
 token:ze
 list:List zh
instance:Inhabited zh:=⟨⟨(⟨0,[],0,[],false⟩:ze),[]⟩⟩
structure z8 where
 name:Str
 value:List zh
 important:Bool
instance:Inhabited z8:=⟨⟨[],[],false⟩⟩
structure zg where
 kind:Int
 name:Str
 num:Int
 decl:z8
 list:List zg
instance:Inhabited zg:=⟨⟨0,[],0,(⟨[],[],false⟩:z8),[]⟩⟩
structure VEnv where
 width:Int
instance:Inhabited VEnv:=⟨⟨0⟩⟩
structure zR where
 token:Int
 at_:Int
instance:Inhabited zR:=⟨⟨0,0⟩⟩
structure Ze where
 depth:Int
 tokens:Int
 bad:Bool
instance:Inhabited Ze:=⟨⟨0,0,false⟩⟩
structure zb where
 s:Str
 at_:Int
instance:Inhabited zb:=⟨⟨[],0⟩⟩
def Z6(k:Int):Int:=if k=19 then 20 else if k=21\/k=2 then 22 else if k=23 then 24 else 0
end Go.Lv.VT

namespace Go.Lv
def Bl(x:List Str×Str):Option Str:=need (Nat.ble x.1.length 1000000&&Nat.ble (Lib.join x.1 x.2).length 1000000000) (some (Lib.join x.1 x.2))
end Go.Lv
