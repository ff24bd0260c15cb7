/- Types. -/
import Derived.Test.YtcdeccnjlkkejaaGreatDoorLf
import Derived.Lib.Join
set_option linter.unusedSimpArgs false
set_option linter.unusedVariables false
namespace Go.Lv.VT
set_option maxRecDepth 100000
structure QA where
 e0:Str
 e1:Str
 e2:Str
 e3:Str
 e4:Str
 e5:Str
 e6:Str
 e7:Str
 e8:Str
 e9:Str
 e10:Str
 e11:Str
instance:Inhabited QA:=⟨⟨[],[],[],[],[],[],[],[],[],[],[],[]⟩⟩
structure ze where
 kind:Int
 text:Str
 num:Int
 unit:Str
 flag:Bool
instance:Inhabited ze:=⟨⟨0,[],0,[],false⟩⟩
structure zb where
 token:ze
 list:List zb
instance:Inhabited zb:=⟨⟨(⟨0,[],0,[],false⟩:ze),[]⟩⟩
structure zT where
 name:Str
 value:List zb
 important:Bool
instance:Inhabited zT:=⟨⟨[],[],false⟩⟩
structure zu where
 token:Int
 at_:Int
instance:Inhabited zu:=⟨⟨0,0⟩⟩
structure zw where
 depth:Int
 tokens:Int
 bad:Bool
instance:Inhabited zw:=⟨⟨0,0,false⟩⟩
structure za where
 s:Str
 at_:Int
instance:Inhabited za:=⟨⟨[],0⟩⟩
def zJ(k:Int):Int:=if k=19 then 20 else if k=21\/k=2 then 22 else if k=23 then 24 else 0
abbrev PSt:=List zb×List (ze×List zb)
def Nn(st:List (ze×List zb))(t:ze):Bool:=match st with
 |(o,_)::_=>t.kind==zJ o.kind
 |[]=>false
def Oj:PSt->PSt
 |(cur,(o,out)::st)=>(out++[⟨o,cur⟩],st)
 |(cur,[])=>(cur,[])
def bg(s:PSt)(t:ze):Option PSt:=
 if Nn s.2 t=true then some (Oj s)
 else if zJ t.kind≠0 then(if s.2.length=16 then none else some ([],(t,s.1)::s.2))
 else some (s.1++[⟨t,[]⟩],s.2)
def Sg:List ze->PSt->Option PSt
 |[],s=>some s
 |t::r,s=>(bg s t).bind (Sg r)
def shutAll:List zb->List (ze×List zb)->List zb
 |cur,[]=>cur
 |cur,(o,out)::st=>shutAll (out++[⟨o,cur⟩]) st
def parS(l:List ze):List zb×Int:=
 if 1500<l.length then([],4)else match Sg l ([],[])with
  |none=>([],20)
  |some s=>if 1500<l.length+s.2.length then([],4)else(shutAll s.1 s.2,0)
def parseF(l:List ze):Option (List zb×Int):=some (parS l)
end Go.Lv.VT

namespace Go.Lv
def Vj(x:List Str×Str):Option Str:=need (Nat.ble x.1.length 1000000&&Nat.ble (Lib.join x.1 x.2).length 1000000000) (some (Lib.join x.1 x.2))
end Go.Lv
