import Derived.Test.YtiidaccdmolmkaaGreatDoorLf
import Derived.Lib.Join
set_option linter.all false
namespace Go.Lv.VT
set_option maxRecDepth 100000
structure fj where
 a:Int
 b:Int
instance:Inhabited fj:=⟨⟨0,0⟩⟩
structure zbW where
 e0:aE
 e1:aE
 e2:aE
 e3:aE
 e4:aE
 e5:aE
 e6:aE
 e7:aE
 e8:aE
 e9:aE
 e10:aE
 e11:aE
instance:Inhabited zbW:=⟨⟨[],[],[],[],[],[],[],[],[],[],[],[]⟩⟩
structure qA where
 e0:Int
 e1:Int
instance:Inhabited qA:=⟨⟨0,0⟩⟩
structure zgc where
 e0:aE
 e1:aE
instance:Inhabited zgc:=⟨⟨[],[]⟩⟩
structure zgd where
 e0:aE
 e1:aE
 e2:aE
 e3:aE
 e4:aE
instance:Inhabited zgd:=⟨⟨[],[],[],[],[]⟩⟩
structure zge where
 e0:aE
 e1:aE
 e2:aE
 e3:aE
 e4:aE
 e5:aE
 e6:aE
instance:Inhabited zge:=⟨⟨[],[],[],[],[],[],[]⟩⟩
mutual
structure zm where
 lf:Int
 kc:List zU
 kj:List UInt8
structure zU where
 lg:aE
 ka:List zH
structure zH where
 u:Int
 q:aE
 op:Int
 i:aE
 ld:Bool
 lc:fj
 of_:Bool
 w:List zm
end
instance:Inhabited zm:=⟨⟨0,[],[]⟩⟩
instance:Inhabited zU:=⟨⟨[],[]⟩⟩
instance:Inhabited zH:=⟨⟨0,[],0,[],false,(⟨0,0⟩:fj),false,[]⟩⟩
structure ze where
 u:Int
 kb:aE
 kg:Int
 ki:aE
 la:Bool
instance:Inhabited ze:=⟨⟨0,[],0,[],false⟩⟩
structure zo where
 kd:ze
 w:List zo
instance:Inhabited zo:=⟨⟨(⟨0,[],0,[],false⟩:ze),[]⟩⟩
structure Zv where
 q:aE
 i:List zo
 lb:Bool
instance:Inhabited Zv:=⟨⟨[],[],false⟩⟩
structure zh where
 u:Int
 q:aE
 kg:Int
 decl:Zv
 w:List zh
instance:Inhabited zh:=⟨⟨0,[],0,(⟨[],[],false⟩:Zv),[]⟩⟩
structure zP where
 u:Int
 ke:List zm
 kh:List Zv
 cond:zh
 kf:List (List aE)
 j:List zP
instance:Inhabited zP:=⟨⟨0,[],[],(⟨0,[],0,(⟨[],[],false⟩:Zv),[]⟩:zh),[],[]⟩⟩
structure lj where
 j:List zP
instance:Inhabited lj:=⟨⟨[]⟩⟩
structure Zq where
 kd:Int
 at_:Int
instance:Inhabited Zq:=⟨⟨0,0⟩⟩
structure ZM where
 depth:Int
 tokens:Int
 bad:Bool
instance:Inhabited ZM:=⟨⟨0,0,false⟩⟩
structure za2 where
 u:Int
 q:aE
 op:Int
 i:aE
 ld:Bool
 lc:fj
 of_:Bool
instance:Inhabited za2:=⟨⟨0,[],0,[],false,(⟨0,0⟩:fj),false⟩⟩
structure Zg where
 deep:Int
 has:Bool
instance:Inhabited Zg:=⟨⟨0,false⟩⟩
structure qi where
 x:Int
 y:Int
 signed:Bool
 code:Int
instance:Inhabited qi:=⟨⟨0,0,false,0⟩⟩
structure zB where
 deep:Int
 has:Bool
instance:Inhabited zB:=⟨⟨0,false⟩⟩
structure zy where
 j:Int
 depth:Int
 bad:Bool
instance:Inhabited zy:=⟨⟨0,0,false⟩⟩
structure zb where
 s:aE
 at_:Int
instance:Inhabited zb:=⟨⟨[],0⟩⟩
def qm(k:Int):Int:=if k=19 then 20 else if k=21\/k=2 then 22 else if k=23 then 24 else 0
end Go.Lv.VT

namespace Go.Lv
def Rk(x:List aE×aE):Option aE:=ck (Nat.ble x.1.length 1000000&&Nat.ble (Lib.join x.1 x.2).length 1000000000) (some (Lib.join x.1 x.2))
def oK(x:Bool×aE):Option Bool:=some x.1
def strW(x:Bool×aE):Option aE:=bif x.2.isEmpty then none else some x.2
def copyV(_:aE):Option Unit:=some ()
def strV(x:aE):Option aE:=bif x.isEmpty then none else some x
def JR(x:Bool):Option Bool:=some x
end Go.Lv
