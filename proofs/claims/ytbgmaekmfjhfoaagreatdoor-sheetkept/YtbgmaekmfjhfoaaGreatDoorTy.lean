/- Types. -/
import Derived.Test.YtbgmaekmfjhfoaaGreatDoorLf
set_option linter.unusedSimpArgs false
set_option linter.unusedVariables false
namespace Go.Lv.VT
set_option maxRecDepth 100000
structure VAnb where
 a:Int
 b:Int
instance:Inhabited VAnb:=⟨⟨0,0⟩⟩
structure ZG where
 e0:Int
 e1:Int
instance:Inhabited ZG:=⟨⟨0,0⟩⟩
mutual
structure zu where
 lead:Int
 parts:List zU
 combs:List UInt8
structure zU where
 tag:Str
 simples:List zH
structure zH where
 kind:Int
 name:Str
 op:Int
 value:Str
 fold:Bool
 anb:VAnb
 of_:Bool
 list:List zu
end
instance:Inhabited zu:=⟨⟨0,[],[]⟩⟩
instance:Inhabited zU:=⟨⟨[],[]⟩⟩
instance:Inhabited zH:=⟨⟨0,[],0,[],false,(⟨0,0⟩:VAnb),false,[]⟩⟩
structure zk where
 kind:Int
 text:Str
 num:Int
 unit:Str
 flag:Bool
instance:Inhabited zk:=⟨⟨0,[],0,[],false⟩⟩
structure za where
 token:zk
 list:List za
instance:Inhabited za:=⟨⟨(⟨0,[],0,[],false⟩:zk),[]⟩⟩
structure Zm where
 name:Str
 value:List za
 important:Bool
instance:Inhabited Zm:=⟨⟨[],[],false⟩⟩
structure zt where
 kind:Int
 name:Str
 num:Int
 decl:Zm
 list:List zt
instance:Inhabited zt:=⟨⟨0,[],0,(⟨[],[],false⟩:Zm),[]⟩⟩
structure zJ where
 kind:Int
 selectors:List zu
 decls:List Zm
 cond:zt
 names:List (List Str)
 rules:List zJ
instance:Inhabited zJ:=⟨⟨0,[],[],(⟨0,[],0,(⟨[],[],false⟩:Zm),[]⟩:zt),[],[]⟩⟩
structure zdy where
 rules:List zJ
instance:Inhabited zdy:=⟨⟨[]⟩⟩
structure zN where
 l:List zk
instance:Inhabited zN:=⟨⟨[]⟩⟩
structure zh where
 v:List za
instance:Inhabited zh:=⟨⟨[]⟩⟩
structure ZA where
 depth:Int
 tokens:Int
 bad:Bool
instance:Inhabited ZA:=⟨⟨0,0,false⟩⟩
structure zaa where
 kind:Int
 name:Str
 op:Int
 value:Str
 fold:Bool
 anb:VAnb
 of_:Bool
instance:Inhabited zaa:=⟨⟨0,[],0,[],false,(⟨0,0⟩:VAnb),false⟩⟩
structure Z7 where
 x:Int
 y:Int
 signed:Bool
 code:Int
instance:Inhabited Z7:=⟨⟨0,0,false,0⟩⟩
structure zg where
 deep:Int
 has:Bool
instance:Inhabited zg:=⟨⟨0,false⟩⟩
structure zq where
 v:List za
 at_:Int
instance:Inhabited zq:=⟨⟨[],0⟩⟩
structure Zg where
 rules:Int
 depth:Int
 bad:Bool
instance:Inhabited Zg:=⟨⟨0,0,false⟩⟩
structure zo where
 room:Int
 constructs:Int
instance:Inhabited zo:=⟨⟨0,0⟩⟩
structure zb where
 s:Str
 at_:Int
instance:Inhabited zb:=⟨⟨[],0⟩⟩
def Zb(k:Int):Int:=if k=19 then 20 else if k=21\/k=2 then 22 else if k=23 then 24 else 0
abbrev PSt:=List za×List (zk×List za)
def ak(st:List (zk×List za))(t:zk):Bool:=match st with
 |(o,_)::_=>t.kind==Zb o.kind
 |[]=>false
def Ik:PSt->PSt
 |(cur,(o,out)::st)=>(out++[⟨o,cur⟩],st)
 |(cur,[])=>(cur,[])
def Qy(s:PSt)(t:zk):Option PSt:=
 if ak s.2 t=true then some (Ik s)
 else if Zb t.kind≠0 then(if s.2.length=16 then none else some ([],(t,s.1)::s.2))
 else some (s.1++[⟨t,[]⟩],s.2)
def qz:List zk->PSt->Option PSt
 |[],s=>some s
 |t::r,s=>(Qy s t).bind (qz r)
def shutAll:List za->List (zk×List za)->List za
 |cur,[]=>cur
 |cur,(o,out)::st=>shutAll (out++[⟨o,cur⟩]) st
def parS(l:List zk):List za×Int:=
 if 1500<l.length then([],4)else match qz l ([],[])with
  |none=>([],20)
  |some s=>if 1500<l.length+s.2.length then([],4)else(shutAll s.1 s.2,0)
def parseF(l:List zk):Option (List za×Int):=some (parS l)
end Go.Lv.VT
