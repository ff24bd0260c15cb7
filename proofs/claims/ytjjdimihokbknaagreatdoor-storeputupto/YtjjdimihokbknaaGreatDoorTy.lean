/- Types. -/
import Derived.Test.YtjjdimihokbknaaGreatDoorLf
set_option linter.unusedSimpArgs false
set_option linter.unusedVariables false
namespace Go.Lv.VT
set_option maxRecDepth 100000
structure VAnb where
 a:Int
 b:Int
instance:Inhabited VAnb:=⟨⟨0,0⟩⟩
mutual
structure zf where
 lead:Int
 parts:List zI
 combs:List UInt8
structure zI where
 tag:Str
 simples:List zw
structure zw where
 kind:Int
 name:Str
 op:Int
 value:Str
 fold:Bool
 anb:VAnb
 of_:Bool
 list:List zf
end
instance:Inhabited zf:=⟨⟨0,[],[]⟩⟩
instance:Inhabited zI:=⟨⟨[],[]⟩⟩
instance:Inhabited zw:=⟨⟨0,[],0,[],false,(⟨0,0⟩:VAnb),false,[]⟩⟩
structure zk where
 kind:Int
 text:Str
 num:Int
 unit:Str
 flag:Bool
instance:Inhabited zk:=⟨⟨0,[],0,[],false⟩⟩
structure ze where
 token:zk
 list:List ze
instance:Inhabited ze:=⟨⟨(⟨0,[],0,[],false⟩:zk),[]⟩⟩
structure Zd where
 name:Str
 value:List ze
 important:Bool
instance:Inhabited Zd:=⟨⟨[],[],false⟩⟩
structure zo where
 kind:Int
 name:Str
 num:Int
 decl:Zd
 list:List zo
instance:Inhabited zo:=⟨⟨0,[],0,(⟨[],[],false⟩:Zd),[]⟩⟩
structure zK where
 kind:Int
 selectors:List zf
 decls:List Zd
 cond:zo
 names:List (List Str)
 rules:List zK
instance:Inhabited zK:=⟨⟨0,[],[],(⟨0,[],0,(⟨[],[],false⟩:Zd),[]⟩:zo),[],[]⟩⟩
structure ZI where
 rules:List zK
instance:Inhabited ZI:=⟨⟨[]⟩⟩
structure Zr where
 number:Int
 origin:Int
 site:Str
 sheet:ZI
instance:Inhabited Zr:=⟨⟨0,0,[],(⟨[]⟩:ZI)⟩⟩
structure Ze where
 sheets:List Zr
 next:Int
instance:Inhabited Ze:=⟨⟨[],0⟩⟩
structure zx where
 v:List ze
instance:Inhabited zx:=⟨⟨[]⟩⟩
structure zS where
 depth:Int
 tokens:Int
 bad:Bool
instance:Inhabited zS:=⟨⟨0,0,false⟩⟩
structure Qp where
 kind:Int
 name:Str
 op:Int
 value:Str
 fold:Bool
 anb:VAnb
 of_:Bool
instance:Inhabited Qp:=⟨⟨0,[],0,[],false,(⟨0,0⟩:VAnb),false⟩⟩
structure zV where
 deep:Int
 has:Bool
instance:Inhabited zV:=⟨⟨0,false⟩⟩
structure ZM where
 x:Int
 y:Int
 signed:Bool
 code:Int
instance:Inhabited ZM:=⟨⟨0,0,false,0⟩⟩
structure zg where
 deep:Int
 has:Bool
instance:Inhabited zg:=⟨⟨0,false⟩⟩
structure zt where
 v:List ze
 at_:Int
instance:Inhabited zt:=⟨⟨[],0⟩⟩
structure zq where
 rules:Int
 depth:Int
 bad:Bool
instance:Inhabited zq:=⟨⟨0,0,false⟩⟩
structure zJ where
 room:Int
 constructs:Int
instance:Inhabited zJ:=⟨⟨0,0⟩⟩
structure zb where
 s:Str
 at_:Int
instance:Inhabited zb:=⟨⟨[],0⟩⟩
def ZK(k:Int):Int:=if k=19 then 20 else if k=21\/k=2 then 22 else if k=23 then 24 else 0
abbrev PSt:=List ze×List (zk×List ze)
def dD(st:List (zk×List ze))(t:zk):Bool:=match st with
 |(o,_)::_=>t.kind==ZK o.kind
 |[]=>false
def Xq:PSt->PSt
 |(cur,(o,out)::st)=>(out++[⟨o,cur⟩],st)
 |(cur,[])=>(cur,[])
def Aj(s:PSt)(t:zk):Option PSt:=
 if dD s.2 t=true then some (Xq s)
 else if ZK t.kind≠0 then(if s.2.length=16 then none else some ([],(t,s.1)::s.2))
 else some (s.1++[⟨t,[]⟩],s.2)
def ai:List zk->PSt->Option PSt
 |[],s=>some s
 |t::r,s=>(Aj s t).bind (ai r)
def shutAll:List ze->List (zk×List ze)->List ze
 |cur,[]=>cur
 |cur,(o,out)::st=>shutAll (out++[⟨o,cur⟩]) st
def parS(l:List zk):List ze×Int:=
 if 1500<l.length then([],4)else match ai l ([],[])with
  |none=>([],20)
  |some s=>if 1500<l.length+s.2.length then([],4)else(shutAll s.1 s.2,0)
def parseF(l:List zk):Option (List ze×Int):=some (parS l)
end Go.Lv.VT

namespace Go.Lv
def delK{α:Type}(x:(Int×Int)×List α):Option (List α):=bif decide (0<=x.1.1)&&(decide (x.1.1<x.1.2)&&decide (x.1.2<=(x.2.length:Int)))then some (x.2.take x.1.1.toNat++x.2.drop x.1.2.toNat)else none
end Go.Lv
