/- Types. -/
import Derived.Test.YtcdeccnjlkkejaaGreatDoorLf
set_option linter.unusedSimpArgs false
set_option linter.unusedVariables false
namespace Go.Lv.VT
set_option maxRecDepth 100000
structure Qw where
 e0:Str
 e1:Str
 e2:Str
 e3:Str
 e4:Str
 e5:Str
 e6:Str
 e7:Str
 e8:Str
 e9:Str
 e10:Str
 e11:Str
instance:Inhabited Qw:=⟨⟨[],[],[],[],[],[],[],[],[],[],[],[]⟩⟩
structure Zj where
 e0:Int
 e1:Int
instance:Inhabited Zj:=⟨⟨0,0⟩⟩
structure zb where
 kind:Int
 text:Str
 num:Int
 unit:Str
 flag:Bool
instance:Inhabited zb:=⟨⟨0,[],0,[],false⟩⟩
structure zg where
 token:zb
 list:List zg
instance:Inhabited zg:=⟨⟨(⟨0,[],0,[],false⟩:zb),[]⟩⟩
structure zfV where
 name:Str
 value:List zg
 important:Bool
instance:Inhabited zfV:=⟨⟨[],[],false⟩⟩
structure zC where
 token:Int
 at_:Int
instance:Inhabited zC:=⟨⟨0,0⟩⟩
structure zR where
 depth:Int
 tokens:Int
 bad:Bool
instance:Inhabited zR:=⟨⟨0,0,false⟩⟩
structure za where
 s:Str
 at_:Int
instance:Inhabited za:=⟨⟨[],0⟩⟩
def zw(k:Int):Int:=if k=19 then 20 else if k=21\/k=2 then 22 else if k=23 then 24 else 0
abbrev PSt:=List zg×List (zb×List zg)
def Eo(st:List (zb×List zg))(t:zb):Bool:=match st with
 |(o,_)::_=>t.kind==zw o.kind
 |[]=>false
def Vj:PSt->PSt
 |(cur,(o,out)::st)=>(out++[⟨o,cur⟩],st)
 |(cur,[])=>(cur,[])
def Q9(s:PSt)(t:zb):Option PSt:=
 if Eo s.2 t=true then some (Vj s)
 else if zw t.kind≠0 then(if s.2.length=16 then none else some ([],(t,s.1)::s.2))
 else some (s.1++[⟨t,[]⟩],s.2)
def Bg:List zb->PSt->Option PSt
 |[],s=>some s
 |t::r,s=>(Q9 s t).bind (Bg r)
def shutAll:List zg->List (zb×List zg)->List zg
 |cur,[]=>cur
 |cur,(o,out)::st=>shutAll (out++[⟨o,cur⟩]) st
def parS(l:List zb):List zg×Int:=
 if 1500<l.length then([],4)else match Bg l ([],[])with
  |none=>([],20)
  |some s=>if 1500<l.length+s.2.length then([],4)else(shutAll s.1 s.2,0)
def parseF(l:List zb):Option (List zg×Int):=some (parS l)
end Go.Lv.VT
