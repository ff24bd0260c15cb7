/- Types. -/
import Derived.Test.YtagibnnojbolnaaGreatDoorLf
set_option linter.unusedSimpArgs false
set_option linter.unusedVariables false
namespace Go.Lv.VT
set_option maxRecDepth 100000
structure VAnb where
 a:Int
 b:Int
instance:Inhabited VAnb:=⟨⟨0,0⟩⟩
mutual
structure zm where
 lead:Int
 parts:List zQ
 combs:List UInt8
structure zQ where
 tag:Str
 simples:List zJ
structure zJ where
 kind:Int
 name:Str
 op:Int
 value:Str
 fold:Bool
 anb:VAnb
 of_:Bool
 list:List zm
end
instance:Inhabited zm:=⟨⟨0,[],[]⟩⟩
instance:Inhabited zQ:=⟨⟨[],[]⟩⟩
instance:Inhabited zJ:=⟨⟨0,[],0,[],false,(⟨0,0⟩:VAnb),false,[]⟩⟩
structure zg where
 kind:Int
 text:Str
 num:Int
 unit:Str
 flag:Bool
instance:Inhabited zg:=⟨⟨0,[],0,[],false⟩⟩
structure zb where
 token:zg
 list:List zb
instance:Inhabited zb:=⟨⟨(⟨0,[],0,[],false⟩:zg),[]⟩⟩
structure Zu where
 name:Str
 value:List zb
 important:Bool
instance:Inhabited Zu:=⟨⟨[],[],false⟩⟩
structure zu where
 kind:Int
 name:Str
 num:Int
 decl:Zu
 list:List zu
instance:Inhabited zu:=⟨⟨0,[],0,(⟨[],[],false⟩:Zu),[]⟩⟩
structure zN where
 kind:Int
 selectors:List zm
 decls:List Zu
 cond:zu
 names:List (List Str)
 rules:List zN
instance:Inhabited zN:=⟨⟨0,[],[],(⟨0,[],0,(⟨[],[],false⟩:Zu),[]⟩:zu),[],[]⟩⟩
structure zbj where
 rules:List zN
instance:Inhabited zbj:=⟨⟨[]⟩⟩
structure qE where
 number:Int
 origin:Int
 site:Str
 sheet:zbj
instance:Inhabited qE:=⟨⟨0,0,[],(⟨[]⟩:zbj)⟩⟩
structure ZJ where
 sheets:List qE
 next:Int
instance:Inhabited ZJ:=⟨⟨[],0⟩⟩
structure Za where
 l:List zg
instance:Inhabited Za:=⟨⟨[]⟩⟩
structure zx where
 v:List zb
instance:Inhabited zx:=⟨⟨[]⟩⟩
structure ZH where
 depth:Int
 tokens:Int
 bad:Bool
instance:Inhabited ZH:=⟨⟨0,0,false⟩⟩
structure zba where
 kind:Int
 name:Str
 op:Int
 value:Str
 fold:Bool
 anb:VAnb
 of_:Bool
instance:Inhabited zba:=⟨⟨0,[],0,[],false,(⟨0,0⟩:VAnb),false⟩⟩
structure Zq where
 deep:Int
 has:Bool
instance:Inhabited Zq:=⟨⟨0,false⟩⟩
structure qj where
 x:Int
 y:Int
 signed:Bool
 code:Int
instance:Inhabited qj:=⟨⟨0,0,false,0⟩⟩
structure zh where
 deep:Int
 has:Bool
instance:Inhabited zh:=⟨⟨0,false⟩⟩
structure zw where
 v:List zb
 at_:Int
instance:Inhabited zw:=⟨⟨[],0⟩⟩
structure zH where
 rules:Int
 depth:Int
 bad:Bool
instance:Inhabited zH:=⟨⟨0,0,false⟩⟩
structure zt where
 room:Int
 constructs:Int
instance:Inhabited zt:=⟨⟨0,0⟩⟩
structure ze where
 s:Str
 at_:Int
instance:Inhabited ze:=⟨⟨[],0⟩⟩
def Zn(k:Int):Int:=if k=19 then 20 else if k=21\/k=2 then 22 else if k=23 then 24 else 0
abbrev PSt:=List zb×List (zg×List zb)
def Rs(st:List (zg×List zb))(t:zg):Bool:=match st with
 |(o,_)::_=>t.kind==Zn o.kind
 |[]=>false
def Gp:PSt->PSt
 |(cur,(o,out)::st)=>(out++[⟨o,cur⟩],st)
 |(cur,[])=>(cur,[])
def xh(s:PSt)(t:zg):Option PSt:=
 if Rs s.2 t=true then some (Gp s)
 else if Zn t.kind≠0 then(if s.2.length=16 then none else some ([],(t,s.1)::s.2))
 else some (s.1++[⟨t,[]⟩],s.2)
def ah:List zg->PSt->Option PSt
 |[],s=>some s
 |t::r,s=>(xh s t).bind (ah r)
def shutAll:List zb->List (zg×List zb)->List zb
 |cur,[]=>cur
 |cur,(o,out)::st=>shutAll (out++[⟨o,cur⟩]) st
def parS(l:List zg):List zb×Int:=
 if 1500<l.length then([],4)else match ah l ([],[])with
  |none=>([],20)
  |some s=>if 1500<l.length+s.2.length then([],4)else(shutAll s.1 s.2,0)
def parseF(l:List zg):Option (List zb×Int):=some (parS l)
end Go.Lv.VT

namespace Go.Lv
def delK{α:Type}(x:(Int×Int)×List α):Option (List α):=bif decide (0<=x.1.1)&&(decide (x.1.1<x.1.2)&&decide (x.1.2<=(x.2.length:Int)))then some (x.2.take x.1.1.toNat++x.2.drop x.1.2.toNat)else none
end Go.Lv
