/- Types. -/
import Derived.Test.YtanfjibdgcalfaaGreatDoorLf
import Derived.Lib.Join
set_option linter.unusedSimpArgs false
set_option linter.unusedVariables false
namespace Go.Lv.VT
set_option maxRecDepth 100000
structure VAnb where
 a:Int
 b:Int
instance:Inhabited VAnb:=⟨⟨0,0⟩⟩
structure za7 where
 e0:Str
 e1:Str
 e2:Str
 e3:Str
 e4:Str
 e5:Str
 e6:Str
 e7:Str
 e8:Str
 e9:Str
 e10:Str
 e11:Str
instance:Inhabited za7:=⟨⟨[],[],[],[],[],[],[],[],[],[],[],[]⟩⟩
structure zgG where
 e0:Str
 e1:Str
instance:Inhabited zgG:=⟨⟨[],[]⟩⟩
structure zgH where
 e0:Str
 e1:Str
 e2:Str
 e3:Str
 e4:Str
instance:Inhabited zgH:=⟨⟨[],[],[],[],[]⟩⟩
structure zgI where
 e0:Str
 e1:Str
 e2:Str
 e3:Str
 e4:Str
 e5:Str
 e6:Str
instance:Inhabited zgI:=⟨⟨[],[],[],[],[],[],[]⟩⟩
mutual
structure zg where
 lead:Int
 parts:List zy
 combs:List UInt8
structure zy where
 tag:Str
 simples:List zx
structure zx where
 kind:Int
 name:Str
 op:Int
 value:Str
 fold:Bool
 anb:VAnb
 of_:Bool
 list:List zg
end
instance:Inhabited zg:=⟨⟨0,[],[]⟩⟩
instance:Inhabited zy:=⟨⟨[],[]⟩⟩
instance:Inhabited zx:=⟨⟨0,[],0,[],false,(⟨0,0⟩:VAnb),false,[]⟩⟩
structure zk where
 kind:Int
 text:Str
 num:Int
 unit:Str
 flag:Bool
instance:Inhabited zk:=⟨⟨0,[],0,[],false⟩⟩
structure ze where
 token:zk
 list:List ze
instance:Inhabited ze:=⟨⟨(⟨0,[],0,[],false⟩:zk),[]⟩⟩
structure Za where
 name:Str
 value:List ze
 important:Bool
instance:Inhabited Za:=⟨⟨[],[],false⟩⟩
structure zm where
 kind:Int
 name:Str
 num:Int
 decl:Za
 list:List zm
instance:Inhabited zm:=⟨⟨0,[],0,(⟨[],[],false⟩:Za),[]⟩⟩
structure zC where
 kind:Int
 selectors:List zg
 decls:List Za
 cond:zm
 names:List (List Str)
 rules:List zC
instance:Inhabited zC:=⟨⟨0,[],[],(⟨0,[],0,(⟨[],[],false⟩:Za),[]⟩:zm),[],[]⟩⟩
structure ZN where
 rules:List zC
instance:Inhabited ZN:=⟨⟨[]⟩⟩
structure zB where
 v:List ze
instance:Inhabited zB:=⟨⟨[]⟩⟩
structure Zz where
 token:Int
 at_:Int
instance:Inhabited Zz:=⟨⟨0,0⟩⟩
structure zU where
 depth:Int
 tokens:Int
 bad:Bool
instance:Inhabited zU:=⟨⟨0,0,false⟩⟩
structure QB where
 kind:Int
 name:Str
 op:Int
 value:Str
 fold:Bool
 anb:VAnb
 of_:Bool
instance:Inhabited QB:=⟨⟨0,[],0,[],false,(⟨0,0⟩:VAnb),false⟩⟩
structure zX where
 deep:Int
 has:Bool
instance:Inhabited zX:=⟨⟨0,false⟩⟩
structure ZR where
 x:Int
 y:Int
 signed:Bool
 code:Int
instance:Inhabited ZR:=⟨⟨0,0,false,0⟩⟩
structure zh where
 deep:Int
 has:Bool
instance:Inhabited zh:=⟨⟨0,false⟩⟩
structure zw where
 v:List ze
 at_:Int
instance:Inhabited zw:=⟨⟨[],0⟩⟩
structure zq where
 rules:Int
 depth:Int
 bad:Bool
instance:Inhabited zq:=⟨⟨0,0,false⟩⟩
structure zJ where
 room:Int
 constructs:Int
instance:Inhabited zJ:=⟨⟨0,0⟩⟩
structure zb where
 s:Str
 at_:Int
instance:Inhabited zb:=⟨⟨[],0⟩⟩
def ZP(k:Int):Int:=if k=19 then 20 else if k=21\/k=2 then 22 else if k=23 then 24 else 0
abbrev PSt:=List ze×List (zk×List ze)
def yD(st:List (zk×List ze))(t:zk):Bool:=match st with
 |(o,_)::_=>t.kind==ZP o.kind
 |[]=>false
def uq:PSt->PSt
 |(cur,(o,out)::st)=>(out++[⟨o,cur⟩],st)
 |(cur,[])=>(cur,[])
def Ej(s:PSt)(t:zk):Option PSt:=
 if yD s.2 t=true then some (uq s)
 else if ZP t.kind≠0 then(if s.2.length=16 then none else some ([],(t,s.1)::s.2))
 else some (s.1++[⟨t,[]⟩],s.2)
def di:List zk->PSt->Option PSt
 |[],s=>some s
 |t::r,s=>(Ej s t).bind (di r)
def shutAll:List ze->List (zk×List ze)->List ze
 |cur,[]=>cur
 |cur,(o,out)::st=>shutAll (out++[⟨o,cur⟩]) st
def parS(l:List zk):List ze×Int:=
 if 1500<l.length then([],4)else match di l ([],[])with
  |none=>([],20)
  |some s=>if 1500<l.length+s.2.length then([],4)else(shutAll s.1 s.2,0)
def parseF(l:List zk):Option (List ze×Int):=some (parS l)
end Go.Lv.VT

namespace Go.Lv
def Rl(x:List Str×Str):Option Str:=need (Nat.ble x.1.length 1000000&&Nat.ble (Lib.join x.1 x.2).length 1000000000) (some (Lib.join x.1 x.2))
def LJ(x:Bool×Str):Option Bool:=some x.1
def strW(x:Bool×Str):Option Str:=bif x.2.isEmpty then none else some x.2
def copyV(_:Str):Option Unit:=some ()
def strV(x:Str):Option Str:=bif x.isEmpty then none else some x
def TK(x:Bool):Option Bool:=some x
end Go.Lv
