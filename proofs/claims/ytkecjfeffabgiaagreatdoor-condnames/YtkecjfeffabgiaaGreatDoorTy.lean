/- Types. -/
import Derived.Test.YtkecjfeffabgiaaGreatDoorLf
import Derived.Lib.Join
set_option linter.unusedSimpArgs false
set_option linter.unusedVariables false
namespace Go.Lv.VT
set_option maxRecDepth 100000
structure QQ where
 e0:Str
 e1:Str
 e2:Str
 e3:Str
 e4:Str
 e5:Str
 e6:Str
 e7:Str
 e8:Str
 e9:Str
 e10:Str
 e11:Str
instance:Inhabited QQ:=⟨⟨[],[],[],[],[],[],[],[],[],[],[],[]⟩⟩
structure Qv where
 e0:Int
 e1:Int
instance:Inhabited Qv:=⟨⟨0,0⟩⟩
structure zk where
 kind:Int
 text:Str
 num:Int
 unit:Str
 flag:Bool
instance:Inhabited zk:=⟨⟨0,[],0,[],false⟩⟩
structure zg where
 token:zk
 list:List zg
instance:Inhabited zg:=⟨⟨(⟨0,[],0,[],false⟩:zk),[]⟩⟩
structure zF where
 name:Str
 value:List zg
 important:Bool
instance:Inhabited zF:=⟨⟨[],[],false⟩⟩
structure zh where
 kind:Int
 name:Str
 num:Int
 decl:zF
 list:List zh
instance:Inhabited zh:=⟨⟨0,[],0,(⟨[],[],false⟩:zF),[]⟩⟩
structure VEnv where
 width:Int
instance:Inhabited VEnv:=⟨⟨0⟩⟩
structure zf where
 v:List zg
instance:Inhabited zf:=⟨⟨[]⟩⟩
structure zM where
 token:Int
 at_:Int
instance:Inhabited zM:=⟨⟨0,0⟩⟩
structure zD where
 depth:Int
 tokens:Int
 bad:Bool
instance:Inhabited zD:=⟨⟨0,0,false⟩⟩
structure za where
 s:Str
 at_:Int
instance:Inhabited za:=⟨⟨[],0⟩⟩
def Bg(k:Int):Int:=if k=19 then 20 else if k=21\/k=2 then 22 else if k=23 then 24 else 0
abbrev PSt:=List zg×List (zk×List zg)
def Gm(st:List (zk×List zg))(t:zk):Bool:=match st with
 |(o,_)::_=>t.kind==Bg o.kind
 |[]=>false
def Dh:PSt->PSt
 |(cur,(o,out)::st)=>(out++[⟨o,cur⟩],st)
 |(cur,[])=>(cur,[])
def Nf(s:PSt)(t:zk):Option PSt:=
 if Gm s.2 t=true then some (Dh s)
 else if Bg t.kind≠0 then(if s.2.length=16 then none else some ([],(t,s.1)::s.2))
 else some (s.1++[⟨t,[]⟩],s.2)
def Ff:List zk->PSt->Option PSt
 |[],s=>some s
 |t::r,s=>(Nf s t).bind (Ff r)
def shutAll:List zg->List (zk×List zg)->List zg
 |cur,[]=>cur
 |cur,(o,out)::st=>shutAll (out++[⟨o,cur⟩]) st
def parS(l:List zk):List zg×Int:=
 if 1500<l.length then([],4)else match Ff l ([],[])with
  |none=>([],20)
  |some s=>if 1500<l.length+s.2.length then([],4)else(shutAll s.1 s.2,0)
def parseF(l:List zk):Option (List zg×Int):=some (parS l)
end Go.Lv.VT

namespace Go.Lv
def ve(x:List Str×Str):Option Str:=need (Nat.ble x.1.length 1000000&&Nat.ble (Lib.join x.1 x.2).length 1000000000) (some (Lib.join x.1 x.2))
end Go.Lv
