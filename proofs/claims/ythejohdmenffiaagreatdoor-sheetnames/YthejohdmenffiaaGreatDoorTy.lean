/- Types. -/
import Derived.Test.YthejohdmenffiaaGreatDoorLf
set_option linter.unusedSimpArgs false
set_option linter.unusedVariables false
namespace Go.Lv.VT
set_option maxRecDepth 100000
structure VAnb where
 a:Int
 b:Int
instance:Inhabited VAnb:=⟨⟨0,0⟩⟩
mutual
structure zw where
 lead:Int
 parts:List zy
 combs:List UInt8
structure zy where
 tag:Str
 simples:List zA
structure zA where
 kind:Int
 name:Str
 op:Int
 value:Str
 fold:Bool
 anb:VAnb
 of_:Bool
 list:List zw
end
instance:Inhabited zw:=⟨⟨0,[],[]⟩⟩
instance:Inhabited zy:=⟨⟨[],[]⟩⟩
instance:Inhabited zA:=⟨⟨0,[],0,[],false,(⟨0,0⟩:VAnb),false,[]⟩⟩
structure zq where
 kind:Int
 text:Str
 num:Int
 unit:Str
 flag:Bool
instance:Inhabited zq:=⟨⟨0,[],0,[],false⟩⟩
structure ze where
 token:zq
 list:List ze
instance:Inhabited ze:=⟨⟨(⟨0,[],0,[],false⟩:zq),[]⟩⟩
structure zV where
 name:Str
 value:List ze
 important:Bool
instance:Inhabited zV:=⟨⟨[],[],false⟩⟩
structure zt where
 kind:Int
 name:Str
 num:Int
 decl:zV
 list:List zt
instance:Inhabited zt:=⟨⟨0,[],0,(⟨[],[],false⟩:zV),[]⟩⟩
structure zL where
 kind:Int
 selectors:List zw
 decls:List zV
 cond:zt
 names:List (List Str)
 rules:List zL
instance:Inhabited zL:=⟨⟨0,[],[],(⟨0,[],0,(⟨[],[],false⟩:zV),[]⟩:zt),[],[]⟩⟩
structure Qi where
 rules:List zL
instance:Inhabited Qi:=⟨⟨[]⟩⟩
structure zm where
 v:List ze
instance:Inhabited zm:=⟨⟨[]⟩⟩
structure zP where
 depth:Int
 tokens:Int
 bad:Bool
instance:Inhabited zP:=⟨⟨0,0,false⟩⟩
structure ZM where
 x:Int
 y:Int
 signed:Bool
 code:Int
instance:Inhabited ZM:=⟨⟨0,0,false,0⟩⟩
structure zf where
 deep:Int
 has:Bool
instance:Inhabited zf:=⟨⟨0,false⟩⟩
structure zh where
 v:List ze
 at_:Int
instance:Inhabited zh:=⟨⟨[],0⟩⟩
structure zB where
 rules:Int
 depth:Int
 bad:Bool
instance:Inhabited zB:=⟨⟨0,0,false⟩⟩
structure zo where
 room:Int
 constructs:Int
instance:Inhabited zo:=⟨⟨0,0⟩⟩
structure za where
 s:Str
 at_:Int
instance:Inhabited za:=⟨⟨[],0⟩⟩
def Bg(k:Int):Int:=if k=19 then 20 else if k=21\/k=2 then 22 else if k=23 then 24 else 0
abbrev PSt:=List ze×List (zq×List ze)
def dn(st:List (zq×List ze))(t:zq):Bool:=match st with
 |(o,_)::_=>t.kind==Bg o.kind
 |[]=>false
def dh:PSt->PSt
 |(cur,(o,out)::st)=>(out++[⟨o,cur⟩],st)
 |(cur,[])=>(cur,[])
def Lf(s:PSt)(t:zq):Option PSt:=
 if dn s.2 t=true then some (dh s)
 else if Bg t.kind≠0 then(if s.2.length=16 then none else some ([],(t,s.1)::s.2))
 else some (s.1++[⟨t,[]⟩],s.2)
def Hf:List zq->PSt->Option PSt
 |[],s=>some s
 |t::r,s=>(Lf s t).bind (Hf r)
def shutAll:List ze->List (zq×List ze)->List ze
 |cur,[]=>cur
 |cur,(o,out)::st=>shutAll (out++[⟨o,cur⟩]) st
def parS(l:List zq):List ze×Int:=
 if 1500<l.length then([],4)else match Hf l ([],[])with
  |none=>([],20)
  |some s=>if 1500<l.length+s.2.length then([],4)else(shutAll s.1 s.2,0)
def parseF(l:List zq):Option (List ze×Int):=some (parS l)
end Go.Lv.VT
