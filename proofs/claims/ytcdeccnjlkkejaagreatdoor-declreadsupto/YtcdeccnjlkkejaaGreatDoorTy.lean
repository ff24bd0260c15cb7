/- Types. -/
import Derived.Test.YtcdeccnjlkkejaaGreatDoorLf
set_option linter.unusedSimpArgs false
set_option linter.unusedVariables false
namespace Go.Lv.VT
set_option maxRecDepth 100000
structure Zg where
 e0:Int
 e1:Int
instance:Inhabited Zg:=⟨⟨0,0⟩⟩
structure zf where
 kind:Int
 text:Str
 num:Int
 unit:Str
 flag:Bool
instance:Inhabited zf:=⟨⟨0,[],0,[],false⟩⟩
structure zb where
 token:zf
 list:List zb
instance:Inhabited zb:=⟨⟨(⟨0,[],0,[],false⟩:zf),[]⟩⟩
structure z8 where
 name:Str
 value:List zb
 important:Bool
instance:Inhabited z8:=⟨⟨[],[],false⟩⟩
structure zJ where
 depth:Int
 tokens:Int
 bad:Bool
instance:Inhabited zJ:=⟨⟨0,0,false⟩⟩
structure za where
 s:Str
 at_:Int
instance:Inhabited za:=⟨⟨[],0⟩⟩
def zq(k:Int):Int:=if k=19 then 20 else if k=21\/k=2 then 22 else if k=23 then 24 else 0
abbrev PSt:=List zb×List (zf×List zb)
def Pq(st:List (zf×List zb))(t:zf):Bool:=match st with
 |(o,_)::_=>t.kind==zq o.kind
 |[]=>false
def mJ:PSt->PSt
 |(cur,(o,out)::st)=>(out++[⟨o,cur⟩],st)
 |(cur,[])=>(cur,[])
def Qp(s:PSt)(t:zf):Option PSt:=
 if Pq s.2 t=true then some (mJ s)
 else if zq t.kind≠0 then(if s.2.length=16 then none else some ([],(t,s.1)::s.2))
 else some (s.1++[⟨t,[]⟩],s.2)
def qL:List zf->PSt->Option PSt
 |[],s=>some s
 |t::r,s=>(Qp s t).bind (qL r)
def shutAll:List zb->List (zf×List zb)->List zb
 |cur,[]=>cur
 |cur,(o,out)::st=>shutAll (out++[⟨o,cur⟩]) st
def parS(l:List zf):List zb×Int:=
 if 1500<l.length then([],4)else match qL l ([],[])with
  |none=>([],20)
  |some s=>if 1500<l.length+s.2.length then([],4)else(shutAll s.1 s.2,0)
def parseF(l:List zf):Option (List zb×Int):=some (parS l)
end Go.Lv.VT
