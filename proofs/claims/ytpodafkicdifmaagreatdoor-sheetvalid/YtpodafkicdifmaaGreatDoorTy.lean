/- Types. -/
import Derived.Test.YtpodafkicdifmaaGreatDoorLf
set_option linter.unusedSimpArgs false
set_option linter.unusedVariables false
namespace Go.Lv.VT
set_option maxRecDepth 100000
structure VAnb where
 a:Int
 b:Int
instance:Inhabited VAnb:=⟨⟨0,0⟩⟩
structure ZK where
 e0:Int
 e1:Int
instance:Inhabited ZK:=⟨⟨0,0⟩⟩
mutual
structure zm where
 lead:Int
 parts:List zO
 combs:List UInt8
structure zO where
 tag:Str
 simples:List zI
structure zI where
 kind:Int
 name:Str
 op:Int
 value:Str
 fold:Bool
 anb:VAnb
 of_:Bool
 list:List zm
end
instance:Inhabited zm:=⟨⟨0,[],[]⟩⟩
instance:Inhabited zO:=⟨⟨[],[]⟩⟩
instance:Inhabited zI:=⟨⟨0,[],0,[],false,(⟨0,0⟩:VAnb),false,[]⟩⟩
structure zf where
 kind:Int
 text:Str
 num:Int
 unit:Str
 flag:Bool
instance:Inhabited zf:=⟨⟨0,[],0,[],false⟩⟩
structure zb where
 token:zf
 list:List zb
instance:Inhabited zb:=⟨⟨(⟨0,[],0,[],false⟩:zf),[]⟩⟩
structure Zx where
 name:Str
 value:List zb
 important:Bool
instance:Inhabited Zx:=⟨⟨[],[],false⟩⟩
structure zw where
 kind:Int
 name:Str
 num:Int
 decl:Zx
 list:List zw
instance:Inhabited zw:=⟨⟨0,[],0,(⟨[],[],false⟩:Zx),[]⟩⟩
structure zM where
 kind:Int
 selectors:List zm
 decls:List Zx
 cond:zw
 names:List (List Str)
 rules:List zM
instance:Inhabited zM:=⟨⟨0,[],[],(⟨0,[],0,(⟨[],[],false⟩:Zx),[]⟩:zw),[],[]⟩⟩
structure zc1 where
 rules:List zM
instance:Inhabited zc1:=⟨⟨[]⟩⟩
structure zY where
 l:List zf
instance:Inhabited zY:=⟨⟨[]⟩⟩
structure zx where
 v:List zb
instance:Inhabited zx:=⟨⟨[]⟩⟩
structure ZG where
 depth:Int
 tokens:Int
 bad:Bool
instance:Inhabited ZG:=⟨⟨0,0,false⟩⟩
structure za5 where
 kind:Int
 name:Str
 op:Int
 value:Str
 fold:Bool
 anb:VAnb
 of_:Bool
instance:Inhabited za5:=⟨⟨0,[],0,[],false,(⟨0,0⟩:VAnb),false⟩⟩
structure Zo where
 deep:Int
 has:Bool
instance:Inhabited Zo:=⟨⟨0,false⟩⟩
structure qg where
 x:Int
 y:Int
 signed:Bool
 code:Int
instance:Inhabited qg:=⟨⟨0,0,false,0⟩⟩
structure zg where
 deep:Int
 has:Bool
instance:Inhabited zg:=⟨⟨0,false⟩⟩
structure zu where
 v:List zb
 at_:Int
instance:Inhabited zu:=⟨⟨[],0⟩⟩
structure zG where
 rules:Int
 depth:Int
 bad:Bool
instance:Inhabited zG:=⟨⟨0,0,false⟩⟩
structure zq where
 room:Int
 constructs:Int
instance:Inhabited zq:=⟨⟨0,0⟩⟩
structure ze where
 s:Str
 at_:Int
instance:Inhabited ze:=⟨⟨[],0⟩⟩
def Zf(k:Int):Int:=if k=19 then 20 else if k=21\/k=2 then 22 else if k=23 then 24 else 0
abbrev PSt:=List zb×List (zf×List zb)
def Jj(st:List (zf×List zb))(t:zf):Bool:=match st with
 |(o,_)::_=>t.kind==Zf o.kind
 |[]=>false
def Un:PSt->PSt
 |(cur,(o,out)::st)=>(out++[⟨o,cur⟩],st)
 |(cur,[])=>(cur,[])
def qL(s:PSt)(t:zf):Option PSt:=
 if Jj s.2 t=true then some (Un s)
 else if Zf t.kind≠0 then(if s.2.length=16 then none else some ([],(t,s.1)::s.2))
 else some (s.1++[⟨t,[]⟩],s.2)
def qi:List zf->PSt->Option PSt
 |[],s=>some s
 |t::r,s=>(qL s t).bind (qi r)
def shutAll:List zb->List (zf×List zb)->List zb
 |cur,[]=>cur
 |cur,(o,out)::st=>shutAll (out++[⟨o,cur⟩]) st
def parS(l:List zf):List zb×Int:=
 if 1500<l.length then([],4)else match qi l ([],[])with
  |none=>([],20)
  |some s=>if 1500<l.length+s.2.length then([],4)else(shutAll s.1 s.2,0)
def parseF(l:List zf):Option (List zb×Int):=some (parS l)
end Go.Lv.VT
