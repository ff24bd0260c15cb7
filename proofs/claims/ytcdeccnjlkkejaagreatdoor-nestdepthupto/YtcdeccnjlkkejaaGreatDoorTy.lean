/- Types. -/
import Derived.Test.YtcdeccnjlkkejaaGreatDoorLf
set_option linter.unusedSimpArgs false
set_option linter.unusedVariables false
namespace Go.Lv.VT
set_option maxRecDepth 100000
structure qV where
 e0:Str
 e1:Str
 e2:Str
 e3:Str
 e4:Str
 e5:Str
 e6:Str
 e7:Str
 e8:Str
 e9:Str
 e10:Str
 e11:Str
instance:Inhabited qV:=⟨⟨[],[],[],[],[],[],[],[],[],[],[],[]⟩⟩
structure qz where
 e0:Int
 e1:Int
instance:Inhabited qz:=⟨⟨0,0⟩⟩
structure ze where
 kind:Int
 text:Str
 num:Int
 unit:Str
 flag:Bool
instance:Inhabited ze:=⟨⟨0,[],0,[],false⟩⟩
structure zg where
 token:ze
 list:List zg
instance:Inhabited zg:=⟨⟨(⟨0,[],0,[],false⟩:ze),[]⟩⟩
structure zdV where
 name:Str
 value:List zg
 important:Bool
instance:Inhabited zdV:=⟨⟨[],[],false⟩⟩
structure zu where
 token:Int
 at_:Int
instance:Inhabited zu:=⟨⟨0,0⟩⟩
structure zm where
 depth:Int
 tokens:Int
 bad:Bool
instance:Inhabited zm:=⟨⟨0,0,false⟩⟩
structure za where
 s:Str
 at_:Int
instance:Inhabited za:=⟨⟨[],0⟩⟩
def zh(k:Int):Int:=if k=19 then 20 else if k=21\/k=2 then 22 else if k=23 then 24 else 0
abbrev PSt:=List zg×List (ze×List zg)
def dh(st:List (ze×List zg))(t:ze):Bool:=match st with
 |(o,_)::_=>t.kind==zh o.kind
 |[]=>false
def lv:PSt->PSt
 |(cur,(o,out)::st)=>(out++[⟨o,cur⟩],st)
 |(cur,[])=>(cur,[])
def ZW(s:PSt)(t:ze):Option PSt:=
 if dh s.2 t=true then some (lv s)
 else if zh t.kind≠0 then(if s.2.length=16 then none else some ([],(t,s.1)::s.2))
 else some (s.1++[⟨t,[]⟩],s.2)
def ZV:List ze->PSt->Option PSt
 |[],s=>some s
 |t::r,s=>(ZW s t).bind (ZV r)
def shutAll:List zg->List (ze×List zg)->List zg
 |cur,[]=>cur
 |cur,(o,out)::st=>shutAll (out++[⟨o,cur⟩]) st
def parS(l:List ze):List zg×Int:=
 if 1500<l.length then([],4)else match ZV l ([],[])with
  |none=>([],20)
  |some s=>if 1500<l.length+s.2.length then([],4)else(shutAll s.1 s.2,0)
def parseF(l:List ze):Option (List zg×Int):=some (parS l)
end Go.Lv.VT
