/- Types. -/
import Derived.Test.YtcdeccnjlkkejaaGreatDoorLf
set_option linter.unusedSimpArgs false
set_option linter.unusedVariables false
namespace Go.Lv.VT
set_option maxRecDepth 100000
structure Q3 where
 e0:Str
 e1:Str
 e2:Str
 e3:Str
 e4:Str
 e5:Str
 e6:Str
 e7:Str
 e8:Str
 e9:Str
 e10:Str
 e11:Str
instance:Inhabited Q3:=⟨⟨[],[],[],[],[],[],[],[],[],[],[],[]⟩⟩
structure Zl where
 e0:Int
 e1:Int
instance:Inhabited Zl:=⟨⟨0,0⟩⟩
structure zb where
 kind:Int
 text:Str
 num:Int
 unit:Str
 flag:Bool
instance:Inhabited zb:=⟨⟨0,[],0,[],false⟩⟩
structure zg where
 token:zb
 list:List zg
instance:Inhabited zg:=⟨⟨(⟨0,[],0,[],false⟩:zb),[]⟩⟩
structure zhn where
 name:Str
 value:List zg
 important:Bool
instance:Inhabited zhn:=⟨⟨[],[],false⟩⟩
structure zC where
 token:Int
 at_:Int
instance:Inhabited zC:=⟨⟨0,0⟩⟩
structure zN where
 depth:Int
 tokens:Int
 bad:Bool
instance:Inhabited zN:=⟨⟨0,0,false⟩⟩
structure za where
 s:Str
 at_:Int
instance:Inhabited za:=⟨⟨[],0⟩⟩
def zt(k:Int):Int:=if k=19 then 20 else if k=21\/k=2 then 22 else if k=23 then 24 else 0
abbrev PSt:=List zg×List (zb×List zg)
def Ou(st:List (zb×List zg))(t:zb):Bool:=match st with
 |(o,_)::_=>t.kind==zt o.kind
 |[]=>false
def KN:PSt->PSt
 |(cur,(o,out)::st)=>(out++[⟨o,cur⟩],st)
 |(cur,[])=>(cur,[])
def Qu(s:PSt)(t:zb):Option PSt:=
 if Ou s.2 t=true then some (KN s)
 else if zt t.kind≠0 then(if s.2.length=16 then none else some ([],(t,s.1)::s.2))
 else some (s.1++[⟨t,[]⟩],s.2)
def Qa:List zb->PSt->Option PSt
 |[],s=>some s
 |t::r,s=>(Qu s t).bind (Qa r)
def shutAll:List zg->List (zb×List zg)->List zg
 |cur,[]=>cur
 |cur,(o,out)::st=>shutAll (out++[⟨o,cur⟩]) st
def parS(l:List zb):List zg×Int:=
 if 1500<l.length then([],4)else match Qa l ([],[])with
  |none=>([],20)
  |some s=>if 1500<l.length+s.2.length then([],4)else(shutAll s.1 s.2,0)
def parseF(l:List zb):Option (List zg×Int):=some (parS l)
end Go.Lv.VT
