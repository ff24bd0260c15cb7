/- Types. -/
import Derived.Test.YtkecjfeffabgiaaGreatDoorLf
import Derived.Lib.Join
set_option linter.unusedSimpArgs false
set_option linter.unusedVariables false
namespace Go.Lv.VT
set_option maxRecDepth 100000
structure zaO where
 e0:Str
 e1:Str
 e2:Str
 e3:Str
 e4:Str
 e5:Str
 e6:Str
 e7:Str
 e8:Str
 e9:Str
 e10:Str
 e11:Str
instance:Inhabited zaO:=⟨⟨[],[],[],[],[],[],[],[],[],[],[],[]⟩⟩
structure zah where
 e0:Int
 e1:Int
instance:Inhabited zah:=⟨⟨0,0⟩⟩
structure zf where
 kind:Int
 text:Str
 num:Int
 unit:Str
 flag:Bool
instance:Inhabited zf:=⟨⟨0,[],0,[],false⟩⟩
structure ze where
 token:zf
 list:List ze
instance:Inhabited ze:=⟨⟨(⟨0,[],0,[],false⟩:zf),[]⟩⟩
structure zA where
 name:Str
 value:List ze
 important:Bool
instance:Inhabited zA:=⟨⟨[],[],false⟩⟩
structure zh where
 kind:Int
 name:Str
 num:Int
 decl:zA
 list:List zh
instance:Inhabited zh:=⟨⟨0,[],0,(⟨[],[],false⟩:zA),[]⟩⟩
structure VEnv where
 width:Int
instance:Inhabited VEnv:=⟨⟨0⟩⟩
structure zk where
 v:List ze
instance:Inhabited zk:=⟨⟨[]⟩⟩
structure zP where
 token:Int
 at_:Int
instance:Inhabited zP:=⟨⟨0,0⟩⟩
structure zB where
 depth:Int
 tokens:Int
 bad:Bool
instance:Inhabited zB:=⟨⟨0,0,false⟩⟩
structure za where
 s:Str
 at_:Int
instance:Inhabited za:=⟨⟨[],0⟩⟩
def Zm(k:Int):Int:=if k=19 then 20 else if k=21\/k=2 then 22 else if k=23 then 24 else 0
abbrev PSt:=List ze×List (zf×List ze)
def Fw(st:List (zf×List ze))(t:zf):Bool:=match st with
 |(o,_)::_=>t.kind==Zm o.kind
 |[]=>false
def Tm:PSt->PSt
 |(cur,(o,out)::st)=>(out++[⟨o,cur⟩],st)
 |(cur,[])=>(cur,[])
def Ni(s:PSt)(t:zf):Option PSt:=
 if Fw s.2 t=true then some (Tm s)
 else if Zm t.kind≠0 then(if s.2.length=16 then none else some ([],(t,s.1)::s.2))
 else some (s.1++[⟨t,[]⟩],s.2)
def Ki:List zf->PSt->Option PSt
 |[],s=>some s
 |t::r,s=>(Ni s t).bind (Ki r)
def shutAll:List ze->List (zf×List ze)->List ze
 |cur,[]=>cur
 |cur,(o,out)::st=>shutAll (out++[⟨o,cur⟩]) st
def parS(l:List zf):List ze×Int:=
 if 1500<l.length then([],4)else match Ki l ([],[])with
  |none=>([],20)
  |some s=>if 1500<l.length+s.2.length then([],4)else(shutAll s.1 s.2,0)
def parseF(l:List zf):Option (List ze×Int):=some (parS l)
end Go.Lv.VT

namespace Go.Lv
def lh(x:List Str×Str):Option Str:=need (Nat.ble x.1.length 1000000&&Nat.ble (Lib.join x.1 x.2).length 1000000000) (some (Lib.join x.1 x.2))
end Go.Lv
