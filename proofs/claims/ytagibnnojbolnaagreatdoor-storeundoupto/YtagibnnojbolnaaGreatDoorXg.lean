/- What is read of a text, and of a longer one. -/
import Derived.Test.YtagibnnojbolnaaGreatDoorXf
import Derived.Test.YtagibnnojbolnaaGreatDoorXe
import Derived.Test.YtagibnnojbolnaaGreatDoorXa
set_option linter.unusedSimpArgs false
set_option linter.unusedVariables false
namespace Go.Lv.VT
set_option maxRecDepth 100000
structure zOB (q x:Str):Prop where
 e:qM (q++x)=((qM q).1++x,(qM q).2)
 p:numP (q++x)=numP q
 n:nmS ((qM q).1++x)=nmS (qM q).1
def run:Str->List zg->Str->Prop
 |q,[],R=>q=R
 |q,t::a,R=> ∃c r,cmtS q=c::r/\(vg (c::r)).1=t/\run (vg (c::r)).2 a R
def encB(p:UInt8->Bool):Str->Str
 |[]=>[]
 |c::r=>(bif p c then escC c else [c])++encB p r
def quoB(c:UInt8):Bool:=c==10||c==12||c==13||c==34||c==92
def urB(c:UInt8):Bool:=decide (c.toNat<=32)||c==34||c==39||c==40||c==41||c==92||c==127
def zOH:Str->Bool
 |[]=>false
 |c::r=>(c==101||c==69)&&numS r&& !(List.isPrefixOf [45,45] r)
def zO0:Str->Str
 |[]=>[]
 |c::r=>bif zOH (c::r)then escC c++encW false 0 r else Gw (c::r)
def zOL(k:Int):Str:=
 bif k==13 then [32]else bif k==14 then [60,33,45,45]else bif k==15 then [45,45,62]else bif k==16 then [58]else bif k==17 then [59]else bif k==18 then [44]else
 bif k==19 then [91]else bif k==20 then [93]else bif k==21 then [40]else bif k==22 then [41]else bif k==23 then [123]else [125]
def txS(t:zg):Str:=
 bif t.kind==1 then Gw t.text
 else bif t.kind==2 then Gw t.text++[40]
 else bif t.kind==3 then 64::Gw t.text
 else bif t.kind==4 then 35::(bif t.flag then Gw t.text else encW false 0 t.text)
 else bif t.kind==5 then 34::(encB quoB t.text++[34])
 else bif t.kind==7 then [117,114,108,40]++(encB urB t.text++[41])
 else bif t.kind==9 then t.text
 else bif t.kind==10 then numT t.num (!t.flag)
 else bif t.kind==11 then numT t.num false++[37]
 else bif t.kind==12 then numT t.num (!t.flag)++zO0 t.unit
 else zOL t.kind
inductive zqk:zg->Prop
 |cId (l:Str) (h0:l≠[]) (h:Qs l=true):zqk ⟨1,l,0,[],false⟩
 |cFn (l:Str) (h0:l≠[]) (h:Qs l=true):zqk ⟨2,l,0,[],false⟩
 |cAt (l:Str) (h0:l≠[]) (h:Qs l=true):zqk ⟨3,l,0,[],false⟩
 |cHash (l:Str) (f:Bool) (h0:l≠[]) (h:Qs l=true) (hb:f=true\/Lm l=true):zqk ⟨4,l,0,[],f⟩
 |cStr (l:Str) (h:Qs l=true):zqk ⟨5,l,0,[],false⟩
 |cUrl (l:Str) (h:Qs l=true):zqk ⟨7,l,0,[],false⟩
 |cDel (c:UInt8) (h:dn c.toNat=true):zqk ⟨9,[c],0,[],false⟩
 |cNum (n:Int) (f:Bool) (h1: -1000000000000<=n) (h2:n<=1000000000000) (hf:f=true->Int.tmod n 1000=0):zqk ⟨10,[],n,[],f⟩
 |cPct (n:Int) (h1: -1000000000000<=n) (h2:n<=1000000000000):zqk ⟨11,[],n,[],false⟩
 |cDim (n:Int) (u:Str) (f:Bool) (h1: -1000000000000<=n) (h2:n<=1000000000000) (hf:f=true->Int.tmod n 1000=0) (h0:u≠[]) (h:Qs u=true):zqk ⟨12,[],n,u,f⟩
 |cMark (k:Int) (h1:13<=k) (h2:k<=24):zqk ⟨k,[],0,[],false⟩
end Go.Lv.VT
