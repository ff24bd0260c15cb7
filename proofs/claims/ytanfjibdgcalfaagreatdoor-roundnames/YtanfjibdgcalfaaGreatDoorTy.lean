/- Types. -/
import Derived.Test.YtanfjibdgcalfaaGreatDoorLf
import Derived.Lib.Join
set_option linter.unusedSimpArgs false
set_option linter.unusedVariables false
namespace Go.Lv.VT
set_option maxRecDepth 100000
structure VAnb where
 a:Int
 b:Int
instance:Inhabited VAnb:=⟨⟨0,0⟩⟩
structure zaq where
 e0:Str
 e1:Str
 e2:Str
 e3:Str
 e4:Str
 e5:Str
 e6:Str
 e7:Str
 e8:Str
 e9:Str
 e10:Str
 e11:Str
instance:Inhabited zaq:=⟨⟨[],[],[],[],[],[],[],[],[],[],[],[]⟩⟩
structure zek where
 e0:Str
 e1:Str
instance:Inhabited zek:=⟨⟨[],[]⟩⟩
structure zel where
 e0:Str
 e1:Str
 e2:Str
 e3:Str
 e4:Str
instance:Inhabited zel:=⟨⟨[],[],[],[],[]⟩⟩
structure zem where
 e0:Str
 e1:Str
 e2:Str
 e3:Str
 e4:Str
 e5:Str
 e6:Str
instance:Inhabited zem:=⟨⟨[],[],[],[],[],[],[]⟩⟩
mutual
structure zu where
 lead:Int
 parts:List zA
 combs:List UInt8
structure zA where
 tag:Str
 simples:List zC
structure zC where
 kind:Int
 name:Str
 op:Int
 value:Str
 fold:Bool
 anb:VAnb
 of_:Bool
 list:List zu
end
instance:Inhabited zu:=⟨⟨0,[],[]⟩⟩
instance:Inhabited zA:=⟨⟨[],[]⟩⟩
instance:Inhabited zC:=⟨⟨0,[],0,[],false,(⟨0,0⟩:VAnb),false,[]⟩⟩
structure zt where
 kind:Int
 text:Str
 num:Int
 unit:Str
 flag:Bool
instance:Inhabited zt:=⟨⟨0,[],0,[],false⟩⟩
structure ze where
 token:zt
 list:List ze
instance:Inhabited ze:=⟨⟨(⟨0,[],0,[],false⟩:zt),[]⟩⟩
structure z8 where
 name:Str
 value:List ze
 important:Bool
instance:Inhabited z8:=⟨⟨[],[],false⟩⟩
structure zq where
 kind:Int
 name:Str
 num:Int
 decl:z8
 list:List zq
instance:Inhabited zq:=⟨⟨0,[],0,(⟨[],[],false⟩:z8),[]⟩⟩
structure zD where
 kind:Int
 selectors:List zu
 decls:List z8
 cond:zq
 names:List (List Str)
 rules:List zD
instance:Inhabited zD:=⟨⟨0,[],[],(⟨0,[],0,(⟨[],[],false⟩:z8),[]⟩:zq),[],[]⟩⟩
structure ZL where
 rules:List zD
instance:Inhabited ZL:=⟨⟨[]⟩⟩
structure zo where
 v:List ze
instance:Inhabited zo:=⟨⟨[]⟩⟩
structure Zi where
 token:Int
 at_:Int
instance:Inhabited Zi:=⟨⟨0,0⟩⟩
structure Zj where
 depth:Int
 tokens:Int
 bad:Bool
instance:Inhabited Zj:=⟨⟨0,0,false⟩⟩
structure ZF where
 x:Int
 y:Int
 signed:Bool
 code:Int
instance:Inhabited ZF:=⟨⟨0,0,false,0⟩⟩
structure zh where
 deep:Int
 has:Bool
instance:Inhabited zh:=⟨⟨0,false⟩⟩
structure zm where
 v:List ze
 at_:Int
instance:Inhabited zm:=⟨⟨[],0⟩⟩
structure zK where
 rules:Int
 depth:Int
 bad:Bool
instance:Inhabited zK:=⟨⟨0,0,false⟩⟩
structure zy where
 room:Int
 constructs:Int
instance:Inhabited zy:=⟨⟨0,0⟩⟩
structure zb where
 s:Str
 at_:Int
instance:Inhabited zb:=⟨⟨[],0⟩⟩
def bg(k:Int):Int:=if k=19 then 20 else if k=21\/k=2 then 22 else if k=23 then 24 else 0
abbrev PSt:=List ze×List (zt×List ze)
def Tn(st:List (zt×List ze))(t:zt):Bool:=match st with
 |(o,_)::_=>t.kind==bg o.kind
 |[]=>false
def lh:PSt->PSt
 |(cur,(o,out)::st)=>(out++[⟨o,cur⟩],st)
 |(cur,[])=>(cur,[])
def Bg(s:PSt)(t:zt):Option PSt:=
 if Tn s.2 t=true then some (lh s)
 else if bg t.kind≠0 then(if s.2.length=16 then none else some ([],(t,s.1)::s.2))
 else some (s.1++[⟨t,[]⟩],s.2)
def mf:List zt->PSt->Option PSt
 |[],s=>some s
 |t::r,s=>(Bg s t).bind (mf r)
def shutAll:List ze->List (zt×List ze)->List ze
 |cur,[]=>cur
 |cur,(o,out)::st=>shutAll (out++[⟨o,cur⟩]) st
def parS(l:List zt):List ze×Int:=
 if 1500<l.length then([],4)else match mf l ([],[])with
  |none=>([],20)
  |some s=>if 1500<l.length+s.2.length then([],4)else(shutAll s.1 s.2,0)
def parseF(l:List zt):Option (List ze×Int):=some (parS l)
end Go.Lv.VT

namespace Go.Lv
def Ue(x:List Str×Str):Option Str:=need (Nat.ble x.1.length 1000000&&Nat.ble (Lib.join x.1 x.2).length 1000000000) (some (Lib.join x.1 x.2))
def Kn(x:Bool×Str):Option Bool:=some x.1
def strW(x:Bool×Str):Option Str:=bif x.2.isEmpty then none else some x.2
def copyV(_:Str):Option Unit:=some ()
def strV(x:Str):Option Str:=bif x.isEmpty then none else some x
def bn(x:Bool):Option Bool:=some x
end Go.Lv
