/- Types. -/
import Derived.Test.YtoiadnecjabbeaaGreatDoorLf
set_option linter.unusedSimpArgs false
set_option linter.unusedVariables false
namespace Go.Lv.VT
set_option maxRecDepth 100000
structure VAnb where
 a:Int
 b:Int
instance:Inhabited VAnb:=⟨⟨0,0⟩⟩
structure Zu where
 e0:Int
 e1:Int
instance:Inhabited Zu:=⟨⟨0,0⟩⟩
mutual
structure zq where
 lead:Int
 parts:List zO
 combs:List UInt8
structure zO where
 tag:Str
 simples:List zF
structure zF where
 kind:Int
 name:Str
 op:Int
 value:Str
 fold:Bool
 anb:VAnb
 of_:Bool
 list:List zq
end
instance:Inhabited zq:=⟨⟨0,[],[]⟩⟩
instance:Inhabited zO:=⟨⟨[],[]⟩⟩
instance:Inhabited zF:=⟨⟨0,[],0,[],false,(⟨0,0⟩:VAnb),false,[]⟩⟩
structure zk where
 kind:Int
 text:Str
 num:Int
 unit:Str
 flag:Bool
instance:Inhabited zk:=⟨⟨0,[],0,[],false⟩⟩
structure za where
 token:zk
 list:List za
instance:Inhabited za:=⟨⟨(⟨0,[],0,[],false⟩:zk),[]⟩⟩
structure Zh where
 name:Str
 value:List za
 important:Bool
instance:Inhabited Zh:=⟨⟨[],[],false⟩⟩
structure zt where
 kind:Int
 name:Str
 num:Int
 decl:Zh
 list:List zt
instance:Inhabited zt:=⟨⟨0,[],0,(⟨[],[],false⟩:Zh),[]⟩⟩
structure z8 where
 kind:Int
 selectors:List zq
 decls:List Zh
 cond:zt
 names:List (List Str)
 rules:List z8
instance:Inhabited z8:=⟨⟨0,[],[],(⟨0,[],0,(⟨[],[],false⟩:Zh),[]⟩:zt),[],[]⟩⟩
structure zbr where
 rules:List z8
instance:Inhabited zbr:=⟨⟨[]⟩⟩
structure zM where
 l:List zk
instance:Inhabited zM:=⟨⟨[]⟩⟩
structure zh where
 v:List za
instance:Inhabited zh:=⟨⟨[]⟩⟩
structure Zq where
 depth:Int
 tokens:Int
 bad:Bool
instance:Inhabited Zq:=⟨⟨0,0,false⟩⟩
structure Qp where
 kind:Int
 name:Str
 op:Int
 value:Str
 fold:Bool
 anb:VAnb
 of_:Bool
instance:Inhabited Qp:=⟨⟨0,[],0,[],false,(⟨0,0⟩:VAnb),false⟩⟩
structure ZT where
 x:Int
 y:Int
 signed:Bool
 code:Int
instance:Inhabited ZT:=⟨⟨0,0,false,0⟩⟩
structure zf where
 deep:Int
 has:Bool
instance:Inhabited zf:=⟨⟨0,false⟩⟩
structure zm where
 v:List za
 at_:Int
instance:Inhabited zm:=⟨⟨[],0⟩⟩
structure zZ where
 rules:Int
 depth:Int
 bad:Bool
instance:Inhabited zZ:=⟨⟨0,0,false⟩⟩
structure zx where
 room:Int
 constructs:Int
instance:Inhabited zx:=⟨⟨0,0⟩⟩
structure zb where
 s:Str
 at_:Int
instance:Inhabited zb:=⟨⟨[],0⟩⟩
def Zf(k:Int):Int:=if k=19 then 20 else if k=21\/k=2 then 22 else if k=23 then 24 else 0
abbrev PSt:=List za×List (zk×List za)
def Al(st:List (zk×List za))(t:zk):Bool:=match st with
 |(o,_)::_=>t.kind==Zf o.kind
 |[]=>false
def Nk:PSt->PSt
 |(cur,(o,out)::st)=>(out++[⟨o,cur⟩],st)
 |(cur,[])=>(cur,[])
def QB(s:PSt)(t:zk):Option PSt:=
 if Al s.2 t=true then some (Nk s)
 else if Zf t.kind≠0 then(if s.2.length=16 then none else some ([],(t,s.1)::s.2))
 else some (s.1++[⟨t,[]⟩],s.2)
def qy:List zk->PSt->Option PSt
 |[],s=>some s
 |t::r,s=>(QB s t).bind (qy r)
def shutAll:List za->List (zk×List za)->List za
 |cur,[]=>cur
 |cur,(o,out)::st=>shutAll (out++[⟨o,cur⟩]) st
def parS(l:List zk):List za×Int:=
 if 1500<l.length then([],4)else match qy l ([],[])with
  |none=>([],20)
  |some s=>if 1500<l.length+s.2.length then([],4)else(shutAll s.1 s.2,0)
def parseF(l:List zk):Option (List za×Int):=some (parS l)
end Go.Lv.VT
