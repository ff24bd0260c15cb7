/- What is read of a text, and of a longer one. -/
import Derived.Test.YtcdeccnjlkkejaaGreatDoorNb
import Derived.Test.YtcdeccnjlkkejaaGreatDoorLaw
import Derived.Test.YtcdeccnjlkkejaaGreatDoorNam
set_option linter.unusedSimpArgs false
set_option linter.unusedVariables false
namespace Go.Lv.VT
set_option maxRecDepth 100000
def ky(q:Str):Str:=past digB (unsign q)
theorem FX(q:Str):Zb q=(match expS (QD (ky q)).1 with|some r=>(r,false)|none=>QD (ky q)):=rfl
def brS(c:UInt8)(r:Str):Nat:=
 if spB c then 0
 else if c==34||c==39 then 1
 else if c==35&&(letB (atS r 0)||escS r)then 2
 else if nbS (c::r)then 3
 else if [45,45,62].isPrefixOf (c::r)then 4
 else if [60,33,45,45].isPrefixOf (c::r)then 5
 else if c==64&&nmS r then 6
 else if nmS (c::r)then 7
 else if Ih c==0 then 8
 else 9
def nxB:Nat->UInt8->Str->zf×Str
 |0,c,r=>(Og 13,past spB (c::r))
 |1,c,r=>(Jn (zR c r).1,(zR c r).2)
 |2,_,r=>(⟨4,(zF r).1,0,[],nmS r⟩,(zF r).2)
 |3,c,r=>Xi (c::r)
 |4,c,r=>(Og 15,(c::r).drop 3)
 |5,c,r=>(Og 14,(c::r).drop 4)
 |6,_,r=>(⟨3,(zF r).1,0,[],false⟩,(zF r).2)
 |7,c,r=>Mi (c::r)
 |8,c,r=>(⟨9,[c],0,[],false⟩,r)
 |_+9,c,r=>(Og (Ih c),r)
theorem zC7(c:UInt8)(r:Str):nxB 0 c r=(Og 13,past spB (c::r)):=by rw[nxB]
theorem zC8(c:UInt8)(r:Str):nxB 1 c r=(Jn (zR c r).1,(zR c r).2):=by rw[nxB]
theorem zC9(c:UInt8)(r:Str):nxB 2 c r=(⟨4,(zF r).1,0,[],nmS r⟩,(zF r).2):=by rw[nxB]
theorem zDa(c:UInt8)(r:Str):nxB 3 c r=Xi (c::r):=by rw[nxB]
theorem zDb(c:UInt8)(r:Str):nxB 4 c r=(Og 15,(c::r).drop 3):=by rw[nxB]
theorem zDc(c:UInt8)(r:Str):nxB 5 c r=(Og 14,(c::r).drop 4):=by rw[nxB]
theorem zDd(c:UInt8)(r:Str):nxB 6 c r=(⟨3,(zF r).1,0,[],false⟩,(zF r).2):=by rw[nxB]
theorem zDe(c:UInt8)(r:Str):nxB 7 c r=Mi (c::r):=by rw[nxB]
theorem zDf(c:UInt8)(r:Str):nxB 8 c r=(⟨9,[c],0,[],false⟩,r):=by rw[nxB]
theorem zDg(c:UInt8)(r:Str):nxB 9 c r=(Og (Ih c),r):=rfl
theorem zBl(c:UInt8)(r:Str):mf (c::r)=nxB (brS c r) c r:=by
 rw[bH];unfold brS;split
 ·rfl
 ·split
  ·rfl
  ·split
   ·rfl
   ·split
    ·rfl
    ·split
     ·rfl
     ·split
      ·rfl
      ·split
       ·rfl
       ·split
        ·rfl
        ·split<;>rfl
structure zCV (q x:Str):Prop where
 e:Zb (q++x)=((Zb q).1++x,(Zb q).2)
 p:numP (q++x)=numP q
 n:nmS ((Zb q).1++x)=nmS (Zb q).1
def run:Str->List zf->Str->Prop
 |q,[],R=>q=R
 |q,t::a,R=> ∃c r,cmtS q=c::r/\(mf (c::r)).1=t/\run (mf (c::r)).2 a R
def encB(p:UInt8->Bool):Str->Str
 |[]=>[]
 |c::r=>(bif p c then escC c else [c])++encB p r
def quoB(c:UInt8):Bool:=c==10||c==12||c==13||c==34||c==92
def urB(c:UInt8):Bool:=decide (c.toNat<=32)||c==34||c==39||c==40||c==41||c==92||c==127
def zC1:Str->Bool
 |[]=>false
 |c::r=>(c==101||c==69)&&numS r&& !(List.isPrefixOf [45,45] r)
def zDz:Str->Str
 |[]=>[]
 |c::r=>bif zC1 (c::r)then escC c++encW false 0 r else Vp (c::r)
def zC5(k:Int):Str:=
 bif k==13 then [32]else bif k==14 then [60,33,45,45]else bif k==15 then [45,45,62]else bif k==16 then [58]else bif k==17 then [59]else bif k==18 then [44]else
 bif k==19 then [91]else bif k==20 then [93]else bif k==21 then [40]else bif k==22 then [41]else bif k==23 then [123]else [125]
def txS(t:zf):Str:=
 bif t.kind==1 then Vp t.text
 else bif t.kind==2 then Vp t.text++[40]
 else bif t.kind==3 then 64::Vp t.text
 else bif t.kind==4 then 35::(bif t.flag then Vp t.text else encW false 0 t.text)
 else bif t.kind==5 then 34::(encB quoB t.text++[34])
 else bif t.kind==7 then [117,114,108,40]++(encB urB t.text++[41])
 else bif t.kind==9 then t.text
 else bif t.kind==10 then numT t.num (!t.flag)
 else bif t.kind==11 then numT t.num false++[37]
 else bif t.kind==12 then numT t.num (!t.flag)++zDz t.unit
 else zC5 t.kind
inductive zj7:zf->Prop
 |cId (l:Str) (h0:l≠[]) (h:QE l=true):zj7 ⟨1,l,0,[],false⟩
 |cFn (l:Str) (h0:l≠[]) (h:QE l=true):zj7 ⟨2,l,0,[],false⟩
 |cAt (l:Str) (h0:l≠[]) (h:QE l=true):zj7 ⟨3,l,0,[],false⟩
 |cHash (l:Str) (f:Bool) (h0:l≠[]) (h:QE l=true) (hb:f=true\/ek l=true):zj7 ⟨4,l,0,[],f⟩
 |cStr (l:Str) (h:QE l=true):zj7 ⟨5,l,0,[],false⟩
 |cUrl (l:Str) (h:QE l=true):zj7 ⟨7,l,0,[],false⟩
 |cDel (c:UInt8) (h:yl c.toNat=true):zj7 ⟨9,[c],0,[],false⟩
 |cNum (n:Int) (f:Bool) (h1: -1000000000000<=n) (h2:n<=1000000000000) (hf:f=true->Int.tmod n 1000=0):zj7 ⟨10,[],n,[],f⟩
 |cPct (n:Int) (h1: -1000000000000<=n) (h2:n<=1000000000000):zj7 ⟨11,[],n,[],false⟩
 |cDim (n:Int) (u:Str) (f:Bool) (h1: -1000000000000<=n) (h2:n<=1000000000000) (hf:f=true->Int.tmod n 1000=0) (h0:u≠[]) (h:QE u=true):zj7 ⟨12,[],n,u,f⟩
 |cMark (k:Int) (h1:13<=k) (h2:k<=24):zj7 ⟨k,[],0,[],false⟩
theorem zAP{q:Str}(h:q≠[]): ∃c r,q=c::r:=by
 cases q with
 |nil=>grind
 |cons c r=>grind
end Go.Lv.VT
