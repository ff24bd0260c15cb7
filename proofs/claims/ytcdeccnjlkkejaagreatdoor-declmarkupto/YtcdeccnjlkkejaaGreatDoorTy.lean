/- Types. -/
import Derived.Test.YtcdeccnjlkkejaaGreatDoorLf
import Derived.Lib.Join
set_option linter.unusedSimpArgs false
set_option linter.unusedVariables false
namespace Go.Lv.VT
set_option maxRecDepth 100000
structure zai where
 e0:Str
 e1:Str
 e2:Str
 e3:Str
 e4:Str
 e5:Str
 e6:Str
 e7:Str
 e8:Str
 e9:Str
 e10:Str
 e11:Str
instance:Inhabited zai:=⟨⟨[],[],[],[],[],[],[],[],[],[],[],[]⟩⟩
structure ze where
 kind:Int
 text:Str
 num:Int
 unit:Str
 flag:Bool
instance:Inhabited ze:=⟨⟨0,[],0,[],false⟩⟩
structure zf where
 token:ze
 list:List zf
instance:Inhabited zf:=⟨⟨(⟨0,[],0,[],false⟩:ze),[]⟩⟩
structure zJ where
 name:Str
 value:List zf
 important:Bool
instance:Inhabited zJ:=⟨⟨[],[],false⟩⟩
structure zw where
 token:Int
 at_:Int
instance:Inhabited zw:=⟨⟨0,0⟩⟩
structure zx where
 depth:Int
 tokens:Int
 bad:Bool
instance:Inhabited zx:=⟨⟨0,0,false⟩⟩
structure za where
 s:Str
 at_:Int
instance:Inhabited za:=⟨⟨[],0⟩⟩
def zy(k:Int):Int:=if k=19 then 20 else if k=21\/k=2 then 22 else if k=23 then 24 else 0
abbrev PSt:=List zf×List (ze×List zf)
def Rl(st:List (ze×List zf))(t:ze):Bool:=match st with
 |(o,_)::_=>t.kind==zy o.kind
 |[]=>false
def jk:PSt->PSt
 |(cur,(o,out)::st)=>(out++[⟨o,cur⟩],st)
 |(cur,[])=>(cur,[])
def Q6(s:PSt)(t:ze):Option PSt:=
 if Rl s.2 t=true then some (jk s)
 else if zy t.kind≠0 then(if s.2.length=16 then none else some ([],(t,s.1)::s.2))
 else some (s.1++[⟨t,[]⟩],s.2)
def df:List ze->PSt->Option PSt
 |[],s=>some s
 |t::r,s=>(Q6 s t).bind (df r)
def shutAll:List zf->List (ze×List zf)->List zf
 |cur,[]=>cur
 |cur,(o,out)::st=>shutAll (out++[⟨o,cur⟩]) st
def parS(l:List ze):List zf×Int:=
 if 1500<l.length then([],4)else match df l ([],[])with
  |none=>([],20)
  |some s=>if 1500<l.length+s.2.length then([],4)else(shutAll s.1 s.2,0)
def parseF(l:List ze):Option (List zf×Int):=some (parS l)
end Go.Lv.VT

namespace Go.Lv
def Wm(x:List Str×Str):Option Str:=need (Nat.ble x.1.length 1000000&&Nat.ble (Lib.join x.1 x.2).length 1000000000) (some (Lib.join x.1 x.2))
end Go.Lv
