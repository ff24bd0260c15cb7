/- Types. -/
import Derived.Test.YtkecjfeffabgiaaGreatDoorLf
import Derived.Lib.Join
set_option linter.unusedSimpArgs false
set_option linter.unusedVariables false
namespace Go.Lv.VT
set_option maxRecDepth 100000
structure zao where
 e0:Str
 e1:Str
 e2:Str
 e3:Str
 e4:Str
 e5:Str
 e6:Str
 e7:Str
 e8:Str
 e9:Str
 e10:Str
 e11:Str
instance:Inhabited zao:=⟨⟨[],[],[],[],[],[],[],[],[],[],[],[]⟩⟩
structure QS where
 e0:Int
 e1:Int
instance:Inhabited QS:=⟨⟨0,0⟩⟩
structure zk where
 kind:Int
 text:Str
 num:Int
 unit:Str
 flag:Bool
instance:Inhabited zk:=⟨⟨0,[],0,[],false⟩⟩
structure ze where
 token:zk
 list:List ze
instance:Inhabited ze:=⟨⟨(⟨0,[],0,[],false⟩:zk),[]⟩⟩
structure zA where
 name:Str
 value:List ze
 important:Bool
instance:Inhabited zA:=⟨⟨[],[],false⟩⟩
structure zg where
 kind:Int
 name:Str
 num:Int
 decl:zA
 list:List zg
instance:Inhabited zg:=⟨⟨0,[],0,(⟨[],[],false⟩:zA),[]⟩⟩
structure VEnv where
 width:Int
instance:Inhabited VEnv:=⟨⟨0⟩⟩
structure zh where
 v:List ze
instance:Inhabited zh:=⟨⟨[]⟩⟩
structure zO where
 token:Int
 at_:Int
instance:Inhabited zO:=⟨⟨0,0⟩⟩
structure zy where
 depth:Int
 tokens:Int
 bad:Bool
instance:Inhabited zy:=⟨⟨0,0,false⟩⟩
structure za where
 s:Str
 at_:Int
instance:Inhabited za:=⟨⟨[],0⟩⟩
def Zu(k:Int):Int:=if k=19 then 20 else if k=21\/k=2 then 22 else if k=23 then 24 else 0
abbrev PSt:=List ze×List (zk×List ze)
def Yu(st:List (zk×List ze))(t:zk):Bool:=match st with
 |(o,_)::_=>t.kind==Zu o.kind
 |[]=>false
def Ll:PSt->PSt
 |(cur,(o,out)::st)=>(out++[⟨o,cur⟩],st)
 |(cur,[])=>(cur,[])
def wh(s:PSt)(t:zk):Option PSt:=
 if Yu s.2 t=true then some (Ll s)
 else if Zu t.kind≠0 then(if s.2.length=16 then none else some ([],(t,s.1)::s.2))
 else some (s.1++[⟨t,[]⟩],s.2)
def dh:List zk->PSt->Option PSt
 |[],s=>some s
 |t::r,s=>(wh s t).bind (dh r)
def shutAll:List ze->List (zk×List ze)->List ze
 |cur,[]=>cur
 |cur,(o,out)::st=>shutAll (out++[⟨o,cur⟩]) st
def parS(l:List zk):List ze×Int:=
 if 1500<l.length then([],4)else match dh l ([],[])with
  |none=>([],20)
  |some s=>if 1500<l.length+s.2.length then([],4)else(shutAll s.1 s.2,0)
def parseF(l:List zk):Option (List ze×Int):=some (parS l)
end Go.Lv.VT

namespace Go.Lv
def Kh(x:List Str×Str):Option Str:=need (Nat.ble x.1.length 1000000&&Nat.ble (Lib.join x.1 x.2).length 1000000000) (some (Lib.join x.1 x.2))
end Go.Lv
