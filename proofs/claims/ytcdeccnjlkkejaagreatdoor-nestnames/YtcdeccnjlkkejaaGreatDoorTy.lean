/- Types. -/
import Derived.Test.YtcdeccnjlkkejaaGreatDoorLf
set_option linter.unusedSimpArgs false
set_option linter.unusedVariables false
namespace Go.Lv.VT
set_option maxRecDepth 100000
structure qQ where
 e0:Str
 e1:Str
 e2:Str
 e3:Str
 e4:Str
 e5:Str
 e6:Str
 e7:Str
 e8:Str
 e9:Str
 e10:Str
 e11:Str
instance:Inhabited qQ:=⟨⟨[],[],[],[],[],[],[],[],[],[],[],[]⟩⟩
structure qo where
 e0:Int
 e1:Int
instance:Inhabited qo:=⟨⟨0,0⟩⟩
structure zf where
 kind:Int
 text:Str
 num:Int
 unit:Str
 flag:Bool
instance:Inhabited zf:=⟨⟨0,[],0,[],false⟩⟩
structure zg where
 token:zf
 list:List zg
instance:Inhabited zg:=⟨⟨(⟨0,[],0,[],false⟩:zf),[]⟩⟩
structure zfa where
 name:Str
 value:List zg
 important:Bool
instance:Inhabited zfa:=⟨⟨[],[],false⟩⟩
structure zu where
 token:Int
 at_:Int
instance:Inhabited zu:=⟨⟨0,0⟩⟩
structure zl where
 depth:Int
 tokens:Int
 bad:Bool
instance:Inhabited zl:=⟨⟨0,0,false⟩⟩
structure za where
 s:Str
 at_:Int
instance:Inhabited za:=⟨⟨[],0⟩⟩
def zI(k:Int):Int:=if k=19 then 20 else if k=21\/k=2 then 22 else if k=23 then 24 else 0
abbrev PSt:=List zg×List (zf×List zg)
def ym(st:List (zf×List zg))(t:zf):Bool:=match st with
 |(o,_)::_=>t.kind==zI o.kind
 |[]=>false
def EH:PSt->PSt
 |(cur,(o,out)::st)=>(out++[⟨o,cur⟩],st)
 |(cur,[])=>(cur,[])
def Qz(s:PSt)(t:zf):Option PSt:=
 if ym s.2 t=true then some (EH s)
 else if zI t.kind≠0 then(if s.2.length=16 then none else some ([],(t,s.1)::s.2))
 else some (s.1++[⟨t,[]⟩],s.2)
def Qa:List zf->PSt->Option PSt
 |[],s=>some s
 |t::r,s=>(Qz s t).bind (Qa r)
def shutAll:List zg->List (zf×List zg)->List zg
 |cur,[]=>cur
 |cur,(o,out)::st=>shutAll (out++[⟨o,cur⟩]) st
def parS(l:List zf):List zg×Int:=
 if 1500<l.length then([],4)else match Qa l ([],[])with
  |none=>([],20)
  |some s=>if 1500<l.length+s.2.length then([],4)else(shutAll s.1 s.2,0)
def parseF(l:List zf):Option (List zg×Int):=some (parS l)
abbrev parseFo(l:List zf):Option (List zg×Int):=parseF l
end Go.Lv.VT
