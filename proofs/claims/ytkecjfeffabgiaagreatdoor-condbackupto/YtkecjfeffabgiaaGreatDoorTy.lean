/- Types. -/
import Derived.Test.YtkecjfeffabgiaaGreatDoorLf
import Derived.Lib.Join
set_option linter.unusedSimpArgs false
set_option linter.unusedVariables false
namespace Go.Lv.VT
set_option maxRecDepth 100000
structure zaC where
 e0:Str
 e1:Str
 e2:Str
 e3:Str
 e4:Str
 e5:Str
 e6:Str
 e7:Str
 e8:Str
 e9:Str
 e10:Str
 e11:Str
instance:Inhabited zaC:=⟨⟨[],[],[],[],[],[],[],[],[],[],[],[]⟩⟩
structure Q7 where
 e0:Int
 e1:Int
instance:Inhabited Q7:=⟨⟨0,0⟩⟩
structure zg where
 kind:Int
 text:Str
 num:Int
 unit:Str
 flag:Bool
instance:Inhabited zg:=⟨⟨0,[],0,[],false⟩⟩
structure zb where
 token:zg
 list:List zb
instance:Inhabited zb:=⟨⟨(⟨0,[],0,[],false⟩:zg),[]⟩⟩
structure zD where
 name:Str
 value:List zb
 important:Bool
instance:Inhabited zD:=⟨⟨[],[],false⟩⟩
structure zf where
 kind:Int
 name:Str
 num:Int
 decl:zD
 list:List zf
instance:Inhabited zf:=⟨⟨0,[],0,(⟨[],[],false⟩:zD),[]⟩⟩
structure VEnv where
 width:Int
instance:Inhabited VEnv:=⟨⟨0⟩⟩
structure zk where
 v:List zb
instance:Inhabited zk:=⟨⟨[]⟩⟩
structure zU where
 token:Int
 at_:Int
instance:Inhabited zU:=⟨⟨0,0⟩⟩
structure Zc where
 depth:Int
 tokens:Int
 bad:Bool
instance:Inhabited Zc:=⟨⟨0,0,false⟩⟩
structure za where
 s:Str
 at_:Int
instance:Inhabited za:=⟨⟨[],0⟩⟩
def zC(k:Int):Int:=if k=19 then 20 else if k=21\/k=2 then 22 else if k=23 then 24 else 0
abbrev PSt:=List zb×List (zg×List zb)
def Pp(st:List (zg×List zb))(t:zg):Bool:=match st with
 |(o,_)::_=>t.kind==zC o.kind
 |[]=>false
def Hr:PSt->PSt
 |(cur,(o,out)::st)=>(out++[⟨o,cur⟩],st)
 |(cur,[])=>(cur,[])
def Xi(s:PSt)(t:zg):Option PSt:=
 if Pp s.2 t=true then some (Hr s)
 else if zC t.kind≠0 then(if s.2.length=16 then none else some ([],(t,s.1)::s.2))
 else some (s.1++[⟨t,[]⟩],s.2)
def Fh:List zg->PSt->Option PSt
 |[],s=>some s
 |t::r,s=>(Xi s t).bind (Fh r)
def shutAll:List zb->List (zg×List zb)->List zb
 |cur,[]=>cur
 |cur,(o,out)::st=>shutAll (out++[⟨o,cur⟩]) st
def parS(l:List zg):List zb×Int:=
 if 1500<l.length then([],4)else match Fh l ([],[])with
  |none=>([],20)
  |some s=>if 1500<l.length+s.2.length then([],4)else(shutAll s.1 s.2,0)
def parseF(l:List zg):Option (List zb×Int):=some (parS l)
end Go.Lv.VT

namespace Go.Lv
def jl(x:List Str×Str):Option Str:=need (Nat.ble x.1.length 1000000&&Nat.ble (Lib.join x.1 x.2).length 1000000000) (some (Lib.join x.1 x.2))
end Go.Lv
