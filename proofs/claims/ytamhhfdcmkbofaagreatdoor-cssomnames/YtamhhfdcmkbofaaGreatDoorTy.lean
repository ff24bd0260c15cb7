/- Types. -/
import Derived.Test.YtamhhfdcmkbofaaGreatDoorLf
import Derived.Lib.Join
set_option linter.unusedSimpArgs false
set_option linter.unusedVariables false
namespace Go.Lv.VT
set_option maxRecDepth 100000
structure VAnb where
 a:Int
 b:Int
instance:Inhabited VAnb:=⟨⟨0,0⟩⟩
structure qX where
 e0:Str
 e1:Str
 e2:Str
 e3:Str
 e4:Str
 e5:Str
 e6:Str
 e7:Str
 e8:Str
 e9:Str
 e10:Str
 e11:Str
instance:Inhabited qX:=⟨⟨[],[],[],[],[],[],[],[],[],[],[],[]⟩⟩
structure zcz where
 e0:Str
 e1:Str
instance:Inhabited zcz:=⟨⟨[],[]⟩⟩
structure zcA where
 e0:Str
 e1:Str
 e2:Str
 e3:Str
 e4:Str
instance:Inhabited zcA:=⟨⟨[],[],[],[],[]⟩⟩
structure zcB where
 e0:Str
 e1:Str
 e2:Str
 e3:Str
 e4:Str
 e5:Str
 e6:Str
instance:Inhabited zcB:=⟨⟨[],[],[],[],[],[],[]⟩⟩
mutual
structure zh where
 lead:Int
 parts:List zB
 combs:List UInt8
structure zB where
 tag:Str
 simples:List zy
structure zy where
 kind:Int
 name:Str
 op:Int
 value:Str
 fold:Bool
 anb:VAnb
 of_:Bool
 list:List zh
end
instance:Inhabited zh:=⟨⟨0,[],[]⟩⟩
instance:Inhabited zB:=⟨⟨[],[]⟩⟩
instance:Inhabited zy:=⟨⟨0,[],0,[],false,(⟨0,0⟩:VAnb),false,[]⟩⟩
structure zt where
 kind:Int
 text:Str
 num:Int
 unit:Str
 flag:Bool
instance:Inhabited zt:=⟨⟨0,[],0,[],false⟩⟩
structure ze where
 token:zt
 list:List ze
instance:Inhabited ze:=⟨⟨(⟨0,[],0,[],false⟩:zt),[]⟩⟩
structure zQ where
 name:Str
 value:List ze
 important:Bool
instance:Inhabited zQ:=⟨⟨[],[],false⟩⟩
structure zm where
 kind:Int
 name:Str
 num:Int
 decl:zQ
 list:List zm
instance:Inhabited zm:=⟨⟨0,[],0,(⟨[],[],false⟩:zQ),[]⟩⟩
structure zA where
 kind:Int
 selectors:List zh
 decls:List zQ
 cond:zm
 names:List (List Str)
 rules:List zA
instance:Inhabited zA:=⟨⟨0,[],[],(⟨0,[],0,(⟨[],[],false⟩:zQ),[]⟩:zm),[],[]⟩⟩
structure Zi where
 rules:List zA
instance:Inhabited Zi:=⟨⟨[]⟩⟩
structure qE where
 number:Int
 origin:Int
 site:Str
 sheet:Zi
instance:Inhabited qE:=⟨⟨0,0,[],(⟨[]⟩:Zi)⟩⟩
structure zZ where
 sheets:List qE
 next:Int
instance:Inhabited zZ:=⟨⟨[],0⟩⟩
structure zo where
 v:List ze
instance:Inhabited zo:=⟨⟨[]⟩⟩
structure Zc where
 token:Int
 at_:Int
instance:Inhabited Zc:=⟨⟨0,0⟩⟩
structure Zd where
 depth:Int
 tokens:Int
 bad:Bool
instance:Inhabited Zd:=⟨⟨0,0,false⟩⟩
structure qF where
 kind:Int
 name:Str
 op:Int
 value:Str
 fold:Bool
 anb:VAnb
 of_:Bool
instance:Inhabited qF:=⟨⟨0,[],0,[],false,(⟨0,0⟩:VAnb),false⟩⟩
structure Zu where
 x:Int
 y:Int
 signed:Bool
 code:Int
instance:Inhabited Zu:=⟨⟨0,0,false,0⟩⟩
structure zg where
 deep:Int
 has:Bool
instance:Inhabited zg:=⟨⟨0,false⟩⟩
structure zk where
 v:List ze
 at_:Int
instance:Inhabited zk:=⟨⟨[],0⟩⟩
structure zK where
 rules:Int
 depth:Int
 bad:Bool
instance:Inhabited zK:=⟨⟨0,0,false⟩⟩
structure zx where
 room:Int
 constructs:Int
instance:Inhabited zx:=⟨⟨0,0⟩⟩
structure zb where
 s:Str
 at_:Int
instance:Inhabited zb:=⟨⟨[],0⟩⟩
def Ag(k:Int):Int:=if k=19 then 20 else if k=21\/k=2 then 22 else if k=23 then 24 else 0
abbrev PSt:=List ze×List (zt×List ze)
def Sk(st:List (zt×List ze))(t:zt):Bool:=match st with
 |(o,_)::_=>t.kind==Ag o.kind
 |[]=>false
def pg:PSt->PSt
 |(cur,(o,out)::st)=>(out++[⟨o,cur⟩],st)
 |(cur,[])=>(cur,[])
def Mf(s:PSt)(t:zt):Option PSt:=
 if Sk s.2 t=true then some (pg s)
 else if Ag t.kind≠0 then(if s.2.length=16 then none else some ([],(t,s.1)::s.2))
 else some (s.1++[⟨t,[]⟩],s.2)
def Jf:List zt->PSt->Option PSt
 |[],s=>some s
 |t::r,s=>(Mf s t).bind (Jf r)
def shutAll:List ze->List (zt×List ze)->List ze
 |cur,[]=>cur
 |cur,(o,out)::st=>shutAll (out++[⟨o,cur⟩]) st
def parS(l:List zt):List ze×Int:=
 if 1500<l.length then([],4)else match Jf l ([],[])with
  |none=>([],20)
  |some s=>if 1500<l.length+s.2.length then([],4)else(shutAll s.1 s.2,0)
def parseF(l:List zt):Option (List ze×Int):=some (parS l)
end Go.Lv.VT

namespace Go.Lv
def Jg(x:List Str×Str):Option Str:=need (Nat.ble x.1.length 1000000&&Nat.ble (Lib.join x.1 x.2).length 1000000000) (some (Lib.join x.1 x.2))
def dn(x:Bool×Str):Option Bool:=some x.1
def strW(x:Bool×Str):Option Str:=bif x.2.isEmpty then none else some x.2
def copyV(_:Str):Option Unit:=some ()
def strV(x:Str):Option Str:=bif x.isEmpty then none else some x
def Np(x:Bool):Option Bool:=some x
end Go.Lv
