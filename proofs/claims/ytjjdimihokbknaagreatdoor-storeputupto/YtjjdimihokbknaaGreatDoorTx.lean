/- Texts. -/
import Derived.Test.YtjjdimihokbknaaGreatDoorTy
import Derived.Test.YtjjdimihokbknaaGreatDoorLf
noncomputable section
set_option linter.unusedSimpArgs false
set_option linter.unusedVariables false
namespace Go.Lv.VT
set_option maxRecDepth 100000
def VS(_:List zk):Option (VAnb×Int):=none
def strings_IndexByte(x:Str×Int):Option Int:=
 za (Ew (x.1,x.2)) fun y1=>
 some y1
def Cq(x:Str):Option Bool:=
 za (zA (!(bif x==[]then true else decide ((x.length:Int)>64))) (strings_IndexByte (x,0)) (default:Int)) fun y1=>
 some (bif bif x==[]then true else decide ((x.length:Int)>64)then true else decide (y1>=0))
def GQ(fu:Nat)(x:List Str):Option Int:=
 ZH fu (fun(s1:Int)=>
   bif decide (s1<(x.length:Int))then
    za (geti x s1) fun y2=>
    za (Cq y2) fun y3=>
    bif y3 then
     some (LO.ret s1)
    else
     some (LO.again (w64 (s1+1)))
   else
    some (LO.out ()):Int->Option (LO (Int) (Unit) _)) 0 fun o4=>
 some (-1)
def MQ(fu:Nat)(x:List Str):Option Bool:=
 za (GQ fu x) fun y1=>
 some (decide (y1>=0))
def UL(fu:Nat)(x:List Str):Option Bool:=
 za (zA (bif decide ((x.length:Int)>0)then decide ((x.length:Int)<=16)else false) (MQ fu x) (default:Bool)) fun y1=>
 some (bif bif decide ((x.length:Int)>0)then decide ((x.length:Int)<=16)else false then !y1 else false)
def IM(fu:Nat)(x:List Str):Option Bool:=
 za (UL fu x) fun y1=>
 some (!y1)
def BQ(fu:Nat)(x:List (List Str)):Option Int:=
 ZH fu (fun(s1:Int)=>
   bif decide (s1<(x.length:Int))then
    za (geti x s1) fun y2=>
    za (IM fu y2) fun y3=>
    bif y3 then
     some (LO.ret s1)
    else
     some (LO.again (w64 (s1+1)))
   else
    some (LO.out ()):Int->Option (LO (Int) (Unit) _)) 0 fun o4=>
 some (-1)
def EQ(fu:Nat)(x:List (List Str)):Option Bool:=
 za (BQ fu x) fun y1=>
 some (decide (y1>=0))
def bH(fu:Nat)(qR:List zf->Option Int)(x:List zf):Option Int:=
 ZH fu (fun(s1:Int×Int)=>
   bif decide (s1.2<(x.length:Int))then
    za (geti x s1.2) fun y2=>
    ZH fu (fun(s3:Int×Int)=>
      bif decide (s3.2<(y2.parts.length:Int))then
       za (geti y2.parts s3.2) fun y4=>
       ZH fu (fun(s5:Int×Int)=>
         bif decide (s5.2<(y4.simples.length:Int))then
          zW (X:=Int×Int) (
            za (geti y4.simples s5.2) fun y6=>
            bif bif y6.kind==3 then true else bif decide (y6.kind>=9)then !(bif bif bif y6.kind==9 then true else y6.kind==10 then !y6.of_ else false then y6.anb.a==0&&(y6.anb.b==1&&true)else false)else false then
             za (qR y6.list) fun y7=>
             some (LX.out (if w64 (y7+1)>s5.1 then w64 (y7+1)else s5.1,s5.2))
            else
             some (LX.out (s5.1,s5.2))) fun j8=>
          some (LO.again (j8.1,w64 (j8.2+1)))
         else
          some (LO.out s5.1):Int×Int->Option (LO (Int×Int) (Int) _)) (s3.1,0) fun o9=>
       some (LO.again (o9,w64 (s3.2+1)))
      else
       some (LO.out s3.1):Int×Int->Option (LO (Int×Int) (Int) _)) (s1.1,0) fun o10=>
    some (LO.again (o10,w64 (s1.2+1)))
   else
    some (LO.out s1.1):Int×Int->Option (LO (Int×Int) (Int) _)) (0,0) fun o11=>
 some o11
def qR(fu:Nat):List zf->Option Int:=Re (bH fu) fu
def Em(x:Str×Int):Option Bool:=
 za (zA (!(decide ((x.1.length:Int)>x.2))) (strings_IndexByte (x.1,0)) (default:Int)) fun y1=>
 some (bif decide ((x.1.length:Int)>x.2)then true else decide (y1>=0))
def QU(x:Str):Option Bool:=
 za (zA (!(x==[])) (Em (x,64)) (default:Bool)) fun y1=>
 some (bif !(x==[])then !y1 else false)
def Z6(fu:Nat)(x:Str):Option Str:=
 need (decide (x.length<=maxLen))<|
 ZH fu (fun(s1:Int×List UInt8)=>
   bif decide (s1.1<(x.length:Int))then
    zW (X:=Int×List UInt8) (
      need (decide (0<=s1.1)&&decide (s1.1<(s1.2.length:Int)))<|
      za s1.2[s1.1.toNat]? fun y2=>
      bif bif decide (65<=(y2.toNat:Int))then decide ((y2.toNat:Int)<=90)else false then
       need (decide (0<=s1.1)&&decide (s1.1<(s1.2.length:Int)))<|
       za s1.2[s1.1.toNat]? fun y3=>
       need (decide (0<=s1.1)&&decide (s1.1<(s1.2.length:Int)))<|
       za s1.2[s1.1.toNat]? fun y4=>
       za (Qc (ibOr IntKind.u8 (y3.toNat:Int) 32)) fun y5=>
       some (LX.out (s1.1,List.set s1.2 s1.1.toNat y5))
      else
       some (LX.out (s1.1,s1.2))) fun j6=>
    some (LO.again (w64 (j6.1+1),j6.2))
   else
    some (LO.out s1.2):Int×List UInt8->Option (LO (Int×List UInt8) (List UInt8) _)) (0,x) fun o7=>
 some o7
def pG(fu:Nat)(x:Str):Option Bool:=
 za (QU x) fun y1=>
 za (zA y1 (Z6 fu x) (default:Str)) fun y2=>
 some (bif y1 then y2==x else false)
def Vu(x:zw):Option (Bool×Bool):=
 zW (X:=Bool) (
   bif x.kind==9 then
    some (LX.out (x.kind==9))
   else
    some (LX.out (x.kind==10))) fun j1=>
 bif j1 then
  some (x.of_,false)
 else
  zW (X:=Bool) (
    bif x.kind==11 then
     some (LX.out (x.kind==11))
    else
     some (LX.out (x.kind==12))) fun j2=>
  bif j2 then
   some (true,true)
  else
   zW (X:=Bool) (
     bif x.kind==13 then
      some (LX.out (x.kind==13))
     else
      some (LX.out (x.kind==14))) fun j3=>
   bif j3 then
    some (true,false)
   else
    some (false,true)
def Qa(x:zg×Int):Option (zg×Bool):=
 bif bif x.1.deep==3 then true else bif x.1.has then x.2==14 else false then
  some ((⟨0,false⟩:zg),false)
 else
  some ((⟨w64 (x.1.deep+1),bif x.1.has then true else x.2==14⟩:zg),true)
def Yy(x:Int):Option Bool:=
 some (bif decide ((-1000000000)<=x)then decide (x<=1000000000)else false)
def Vo(x:VAnb):Option Int:=
 za (Yy x.a) fun y1=>
 za (zA (!(!y1)) (Yy x.b) (default:Bool)) fun y2=>
 bif bif !y1 then true else !y2 then
  some 8
 else
  some 0
def oO(fu:Nat)(zy:zf×zg×Bool->Option Bool)(x:zf×zg×zw):Option Bool:=
 za (zy ((⟨x.1.lead,x.1.parts,x.1.combs⟩:zf),x.2.1,x.2.2.kind==14)) fun y1=>
 some (!y1)
def CQ(fu:Nat)(zy:zf×zg×Bool->Option Bool)(x:List zf×zg×zw):Option Int:=
 ZH fu (fun(s1:Int)=>
   bif decide (s1<(x.1.length:Int))then
    za (geti x.1 s1) fun y2=>
    za (oO fu zy ((⟨y2.lead,y2.parts,y2.combs⟩:zf),x.2.1,(⟨x.2.2.kind,x.2.2.name,x.2.2.op,x.2.2.value,x.2.2.fold,x.2.2.anb,x.2.2.of_,x.2.2.list⟩:zw))) fun y3=>
    bif y3 then
     some (LO.ret s1)
    else
     some (LO.again (w64 (s1+1)))
   else
    some (LO.out ()):Int->Option (LO (Int) (Unit) _)) 0 fun o4=>
 some (-1)
def KQ(fu:Nat)(zy:zf×zg×Bool->Option Bool)(x:List zf×zg×zw):Option Bool:=
 za (CQ fu zy (x.1,x.2.1,(⟨x.2.2.kind,x.2.2.name,x.2.2.op,x.2.2.value,x.2.2.fold,x.2.2.anb,x.2.2.of_,x.2.2.list⟩:zw))) fun y1=>
 some (decide (y1>=0))
def FO(fu:Nat)(zy:zf×zg×Bool->Option Bool)(x:zw×zg):Option Bool:=
 za (Vu (⟨x.1.kind,x.1.name,x.1.op,x.1.value,x.1.fold,x.1.anb,x.1.of_,x.1.list⟩:zw)) fun y1=>
 zW (X:=Unit) (
   bif y1.1 then
    za (Qa (x.2,x.1.kind)) fun y2=>
    za (zA (!(bif !y2.2 then true else bif !y1.2 then(x.1.list.length:Int)==0 else false)) (KQ fu zy (x.1.list,y2.1,(⟨x.1.kind,x.1.name,x.1.op,x.1.value,x.1.fold,x.1.anb,x.1.of_,x.1.list⟩:zw))) (default:Bool)) fun y3=>
    bif bif bif !y2.2 then true else bif !y1.2 then(x.1.list.length:Int)==0 else false then true else y3 then
     some (LX.ret false)
    else
     some (LX.out ())
   else
    bif decide ((x.1.list.length:Int)>0)then
     some (LX.ret false)
    else
     some (LX.out ())) fun j4=>
 bif bif bif !(x.1.kind==3)then bif bif x.1.op != 0 then true else !(x.1.value==[])then true else x.1.fold else false then true else bif !(bif x.1.kind==9 then true else x.1.kind==10)then bif x.1.of_ then true else !(x.1.anb.a==0&&(x.1.anb.b==0&&true))else false then
  some false
 else
  zW (X:=Bool) (
    bif x.1.kind==1 then
     some (LX.out (x.1.kind==1))
    else
     some (LX.out (x.1.kind==2))) fun j5=>
  bif j5 then
   za (QU x.1.name) fun y6=>
   some y6
  else
   bif x.1.kind==3 then
    za (pG fu x.1.name) fun y7=>
    za (zA (bif y7 then decide (x.1.op<=6)else false) (Em (x.1.value,400)) (default:Bool)) fun y8=>
    some (bif bif bif y7 then decide (x.1.op<=6)else false then !y8 else false then bif x.1.op != 0 then true else bif x.1.value==[]then !x.1.fold else false else false)
   else
    za (zA (!(!(bif x.1.kind==9 then true else x.1.kind==10))&&(bif bif x.1.name==[]then decide (x.1.kind>=4)else false then decide (x.1.kind<=14)else false)) (Vo x.1.anb) (default:Int)) fun y9=>
    some (bif bif bif x.1.name==[]then decide (x.1.kind>=4)else false then decide (x.1.kind<=14)else false then bif !(bif x.1.kind==9 then true else x.1.kind==10)then true else y9==0 else false)
def dH(fu:Nat)(zy:zf×zg×Bool->Option Bool)(x:zI×zg):Option Bool:=
 za (zA (bif !(x.1.tag==[])then !(x.1.tag==[42])else false) (pG fu x.1.tag) (default:Bool)) fun y1=>
 bif bif bif bif !(x.1.tag==[])then !(x.1.tag==[42])else false then !y1 else false then true else decide ((x.1.simples.length:Int)>64)then
  some false
 else
  ZH fu (fun(s2:Int)=>
    bif decide (s2<(x.1.simples.length:Int))then
     za (geti x.1.simples s2) fun y3=>
     za (FO fu zy ((⟨y3.kind,y3.name,y3.op,y3.value,y3.fold,y3.anb,y3.of_,y3.list⟩:zw),x.2)) fun y4=>
     bif !y4 then
      some (LO.ret false)
     else
      some (LO.again (w64 (s2+1)))
    else
     some (LO.out ()):Int->Option (LO (Int) (Unit) _)) 0 fun o5=>
  some (bif !(x.1.tag==[])then true else decide ((x.1.simples.length:Int)>0))
def UO(fu:Nat)(zy:zf×zg×Bool->Option Bool)(x:zI×zg):Option Bool:=
 za (dH fu zy ((⟨x.1.tag,x.1.simples⟩:zI),x.2)) fun y1=>
 some (!y1)
def IQ(fu:Nat)(zy:zf×zg×Bool->Option Bool)(x:List zI×zg):Option Int:=
 ZH fu (fun(s1:Int)=>
   bif decide (s1<(x.1.length:Int))then
    za (geti x.1 s1) fun y2=>
    za (UO fu zy ((⟨y2.tag,y2.simples⟩:zI),x.2)) fun y3=>
    bif y3 then
     some (LO.ret s1)
    else
     some (LO.again (w64 (s1+1)))
   else
    some (LO.out ()):Int->Option (LO (Int) (Unit) _)) 0 fun o4=>
 some (-1)
def NQ(fu:Nat)(zy:zf×zg×Bool->Option Bool)(x:List zI×zg):Option Bool:=
 za (IQ fu zy (x.1,x.2)) fun y1=>
 some (decide (y1>=0))
def TH(fu:Nat)(zy:zf×zg×Bool->Option Bool)(x:zf×zg×Bool):Option Bool:=
 bif bif bif bif !(x.2.2==(x.1.lead != 0))then true else decide (x.1.lead>4)then true else w64 ((x.1.combs.length:Int)+1) != (x.1.parts.length:Int)then true else decide ((x.1.parts.length:Int)>64)then
  some false
 else
  ZH fu (fun(s1:Int)=>
    bif decide (s1<(x.1.combs.length:Int))then
     za (geti x.1.combs s1) fun y2=>
     bif bif decide ((y2.toNat:Int)<1)then true else decide ((y2.toNat:Int)>4)then
      some (LO.ret false)
     else
      some (LO.again (w64 (s1+1)))
    else
     some (LO.out ()):Int->Option (LO (Int) (Unit) _)) 0 fun o3=>
  za (NQ fu zy (x.1.parts,x.2.1)) fun y4=>
  some (!y4)
def zy(fu:Nat):zf×zg×Bool->Option Bool:=Re (TH fu) fu
def VO(fu:Nat)(x:zf):Option Bool:=
 za (zy fu ((⟨x.lead,x.parts,x.combs⟩:zf),(⟨0,false⟩:zg),false)) fun y1=>
 some (!y1)
def wP(fu:Nat)(x:List zf):Option Int:=
 ZH fu (fun(s1:Int)=>
   bif decide (s1<(x.length:Int))then
    za (geti x s1) fun y2=>
    za (VO fu (⟨y2.lead,y2.parts,y2.combs⟩:zf)) fun y3=>
    bif y3 then
     some (LO.ret s1)
    else
     some (LO.again (w64 (s1+1)))
   else
    some (LO.out ()):Int->Option (LO (Int) (Unit) _)) 0 fun o4=>
 some (-1)
def PQ(fu:Nat)(x:List zf):Option Bool:=
 za (wP fu x) fun y1=>
 some (decide (y1>=0))
def WH(fu:Nat)(qL:List zf->Option Int)(x:List zf):Option Int:=
 ZH fu (fun(s1:Int×Int)=>
   bif decide (s1.2<(x.length:Int))then
    za (geti x s1.2) fun y2=>
    ZH fu (fun(s3:Int×Int)=>
      bif decide (s3.2<(y2.parts.length:Int))then
       za (geti y2.parts s3.2) fun y4=>
       ZH fu (fun(s5:Int×Int)=>
         bif decide (s5.2<(y4.simples.length:Int))then
          za (geti y4.simples s5.2) fun y6=>
          za (qL y6.list) fun y7=>
          some (LO.again (w64 (s5.1+y7),w64 (s5.2+1)))
         else
          some (LO.out s5.1):Int×Int->Option (LO (Int×Int) (Int) _)) (s3.1,0) fun o8=>
       some (LO.again (o8,w64 (s3.2+1)))
      else
       some (LO.out s3.1):Int×Int->Option (LO (Int×Int) (Int) _)) (s1.1,0) fun o9=>
    some (LO.again (o9,w64 (s1.2+1)))
   else
    some (LO.out s1.1):Int×Int->Option (LO (Int×Int) (Int) _)) ((x.length:Int),0) fun o10=>
 some o10
def qL(fu:Nat):List zf->Option Int:=Re (WH fu) fu
def uM(fu:Nat)(x:List zf):Option Int:=
 za (zA (!((x.length:Int)==0)) (PQ fu x) (default:Bool)) fun y1=>
 bif bif (x.length:Int)==0 then true else y1 then
  some 8
 else
  za (qL fu x) fun y2=>
  bif decide (y2>64)then
   some 4
  else
   some 0
def Rj(x:zo):Option Bool:=
 some (bif bif bif bif bif bif x.kind==0 then x.name==[]else false then x.num==0 else false then(x.list.length:Int)==0 else false then x.decl.name==[]else false then(x.decl.value.length:Int)==0 else false then !x.decl.important else false)
def Pj(x:Int):Option Int:=
 bif x==2 then
  some 22
 else
  zW (X:=Bool) (
    bif x==19 then
     some (LX.out (x==19))
    else
     bif x==21 then
      some (LX.out (x==21))
     else
      some (LX.out (x==23))) fun j1=>
  bif j1 then
   some (wu8 (x+1))
  else
   some 0
def OG(fu:Nat)(Nj:List ze×Int->Option zS)(x:List ze×Int):Option zS:=
 ZH fu (fun(s1:Int×zS)=>
   bif decide (s1.1<(x.1.length:Int))then
    zW (X:=Int×zS) (
      za (geti x.1 s1.1) fun y2=>
      za (Pj y2.token.kind) fun y3=>
      zW (X:=zS) (
        bif bif bif x.2 != 0 then y2.token.kind==x.2 else false then true else bif y3==0 then decide ((y2.list.length:Int)>0)else false then
         some (LX.out (⟨s1.2.depth,w64 (s1.2.tokens+1),true⟩:zS))
        else
         some (LX.out (⟨s1.2.depth,w64 (s1.2.tokens+1),s1.2.bad⟩:zS))) fun j4=>
      bif y3==0 then
       some (LX.out (s1.1,j4))
      else
       za (Nj (y2.list,y3)) fun y5=>
       some (LX.out (s1.1,(⟨if w64 (y5.depth+1)>j4.depth then w64 (y5.depth+1)else j4.depth,w64 (w64 (j4.tokens+y5.tokens)+1),bif j4.bad then true else y5.bad⟩:zS)))) fun j6=>
    some (LO.again (w64 (j6.1+1),j6.2))
   else
    some (LO.out s1.2):Int×zS->Option (LO (Int×zS) (zS) _)) (0,(⟨0,0,false⟩:zS)) fun o7=>
 some o7
def Nj(fu:Nat):List ze×Int->Option zS:=Re (OG fu) fu
def Xk(fu:Nat)(x:List ze):Option Int:=
 za (Nj fu (x,0)) fun y1=>
 bif decide (y1.depth>16)then
  some 20
 else
  bif decide (y1.tokens>1500)then
   some 4
  else
   bif y1.bad then
    some 8
   else
    some 0
def ny(fu:Nat)(x:List ze):Option (Int×Int):=
 za (Xk fu x) fun y1=>
 bif y1 != 0 then
  some (0,y1)
 else
  za (Nj fu (x,0)) fun y2=>
  some (y2.depth,0)
def BH(fu:Nat)(ik:List ze×List zk->Option (List zk))(x:List ze×List zk):Option (List zk):=
 ZH fu (fun(s1:Int×List zk)=>
   bif decide (s1.1<(x.1.length:Int))then
    zW (X:=Int×List zk) (
      za (geti x.1 s1.1) fun y2=>
      need (Zo s1.2.length 1 56)<|
      za (Pj y2.token.kind) fun y3=>
      bif y3 != 0 then
       za (ik (y2.list,s1.2++[y2.token])) fun y4=>
       need (Zo y4.length 1 56)<|
       some (LX.out (s1.1,y4++[(⟨y3,[],0,[],false⟩:zk)]))
      else
       some (LX.out (s1.1,s1.2++[y2.token]))) fun j5=>
    some (LO.again (w64 (j5.1+1),j5.2))
   else
    some (LO.out s1.2):Int×List zk->Option (LO (Int×List zk) (List zk) _)) (0,x.2) fun o6=>
 some o6
def ik(fu:Nat):List ze×List zk->Option (List zk):=Re (BH fu) fu
def BM(fu:Nat)(x:List ze):Option (List zk):=
 ZH fu (fun(s1:Int×List zk)=>
   bif decide (s1.1<(x.length:Int))then
    zW (X:=Int×List zk) (
      za (geti x s1.1) fun y2=>
      need (Zo s1.2.length 1 56)<|
      za (Pj y2.token.kind) fun y3=>
      bif y3 != 0 then
       za (ik fu (y2.list,s1.2++[y2.token])) fun y4=>
       need (Zo y4.length 1 56)<|
       some (LX.out (s1.1,y4++[(⟨y3,[],0,[],false⟩:zk)]))
      else
       some (LX.out (s1.1,s1.2++[y2.token]))) fun j5=>
    some (LO.again (w64 (j5.1+1),j5.2))
   else
    some (LO.out s1.2):Int×List zk->Option (LO (Int×List zk) (List zk) _)) (0,[]) fun o6=>
 some o6
def aF(fu:Nat)(x:List ze):Option (List zk×Int):=
 za (Xk fu x) fun y1=>
 bif y1 != 0 then
  some ([],y1)
 else
  za (BM fu x) fun y2=>
  some (y2,0)
def stringslite_HasPrefix(x:Str×Str):Option Bool:=
 need (decide (0<=(x.2.length:Int))&&decide ((x.2.length:Int)<=(x.1.length:Int))|| !(decide ((x.1.length:Int)>=(x.2.length:Int))))<|
 some (bif decide ((x.1.length:Int)>=(x.2.length:Int))then List.take x.2.length x.1==x.2 else false)
def strings_HasPrefix(x:Str×Str):Option Bool:=
 za (stringslite_HasPrefix (x.1,x.2)) fun y1=>
 some y1
def NL(fu:Nat)(x:Str):Option Bool:=
 za (zA (!(bif x==[]then true else decide ((x.length:Int)>64))) (strings_IndexByte (x,0)) (default:Int)) fun y1=>
 bif bif bif x==[]then true else decide ((x.length:Int)>64)then true else decide (y1>=0)then
  some false
 else
  za (strings_HasPrefix (x,[45,45])) fun y2=>
  bif y2 then
   some (!(x==[45,45]))
  else
   za (Z6 fu x) fun y3=>
   some (x==y3)
def stringslite_TrimPrefix(x:Str×Str):Option Str:=
 za (stringslite_HasPrefix (x.1,x.2)) fun y1=>
 bif y1 then
  need (decide (0<=(x.2.length:Int))&&decide ((x.2.length:Int)<=(x.1.length:Int)))<|
  some (List.drop x.2.length x.1)
 else
  some x.1
def strings_TrimPrefix(x:Str×Str):Option Str:=
 za (stringslite_TrimPrefix (x.1,x.2)) fun y1=>
 some y1
def uo(x:Int):Option Bool:=
 some (bif decide (48<=x)then decide (x<=57)else false)
def rz(x:Str):Option Bool:=
 za (strings_TrimPrefix (x,[45])) fun y1=>
 za (zA (!(y1==[])) (geti y1 0) 0) fun y2=>
 za (zA (!(y1==[])) (uo (y2.toNat:Int)) (default:Bool)) fun y3=>
 some (bif !(y1==[])then y3 else false)
def CL(x:Int):Option Bool:=
 some (bif bif decide (97<=ibOr IntKind.u8 x 32)then decide (ibOr IntKind.u8 x 32<=122)else false then decide (x<128)else false)
def Ty(x:Int):Option Bool:=
 za (CL x) fun y1=>
 za (zA (!y1) (uo x) (default:Bool)) fun y2=>
 some (bif bif bif bif y1 then true else y2 then true else x==95 then true else x==45 then true else decide (x>=128))
def strings_Contains(x:Str×Str):Option Bool:=
 za (om (x.1,x.2)) fun y1=>
 some (decide (y1>=0))
def Rs(x:zk):Option Bool:=
 need (Tf x.text.length x.unit.length)<|
 za (strings_IndexByte (x.text++x.unit,0)) fun y1=>
 zW (X:=Bool×Bool×Bool×Bool×Bool) (
   zW (X:=Bool×Bool×Bool×Bool×Bool×Bool) (
     bif x.kind==1 then
      some (LX.out (false,false,false,false,decide (y1<0),x.kind==1))
     else
      bif x.kind==2 then
       some (LX.out (false,false,false,false,decide (y1<0),x.kind==2))
      else
       some (LX.out (false,false,false,false,decide (y1<0),x.kind==3))) fun j2=>
   bif j2.2.2.2.2.2 then
    some (LX.out (true,j2.2.1,j2.2.2.1,j2.2.2.2.1,bif j2.2.2.2.2.1 then !(x.text==[])else false))
   else
    bif x.kind==4 then
     za (zA (!x.flag&&(bif j2.2.2.2.2.1 then !(x.text==[])else false)) (rz x.text) (default:Bool)) fun y3=>
     za (zA (y3&&(!x.flag&&(bif j2.2.2.2.2.1 then !(x.text==[])else false))) (strings_HasPrefix (x.text,[45,45])) (default:Bool)) fun y4=>
     some (LX.out (true,j2.2.1,j2.2.2.1,true,bif bif j2.2.2.2.2.1 then !(x.text==[])else false then bif bif x.flag then true else bif y3 then !y4 else false then true else x.text==[45]else false))
    else
     zW (X:=Bool×Bool×Bool×Bool×Bool×Bool) (
       bif x.kind==5 then
        some (LX.out (j2.1,j2.2.1,j2.2.2.1,j2.2.2.2.1,j2.2.2.2.2.1,x.kind==5))
       else
        some (LX.out (j2.1,j2.2.1,j2.2.2.1,j2.2.2.2.1,j2.2.2.2.2.1,x.kind==7))) fun j5=>
     bif j5.2.2.2.2.2 then
      some (LX.out (true,j5.2.1,j5.2.2.1,j5.2.2.2.1,j5.2.2.2.2.1))
     else
      bif x.kind==9 then
       za (zA (bif j5.2.2.2.2.1 then(x.text.length:Int)==1 else false) (geti x.text 0) 0) fun y6=>
       za (zA (bif j5.2.2.2.2.1 then(x.text.length:Int)==1 else false) (Ty (y6.toNat:Int)) (default:Bool)) fun y7=>
       za (zA (bif bif bif j5.2.2.2.2.1 then(x.text.length:Int)==1 else false then !y7 else false then true else x.text==[45]) (strings_Contains ([32,9,10,12,13,34,39,58,59,44,91,93,40,41,123,125],x.text)) (default:Bool)) fun y8=>
       some (LX.out (true,j5.2.1,j5.2.2.1,j5.2.2.2.1,bif bif bif bif j5.2.2.2.2.1 then(x.text.length:Int)==1 else false then !y7 else false then true else x.text==[45]then !y8 else false))
      else
       zW (X:=Bool×Bool×Bool×Bool×Bool) (
         bif x.kind==10 then
          some (LX.out (j5.2.1,j5.2.2.1,j5.2.2.2.1,j5.2.2.2.2.1,x.kind==10))
         else
          bif x.kind==11 then
           some (LX.out (j5.2.1,j5.2.2.1,j5.2.2.2.1,j5.2.2.2.2.1,x.kind==11))
          else
           some (LX.out (j5.2.1,j5.2.2.1,j5.2.2.2.1,j5.2.2.2.2.1,x.kind==12))) fun j9=>
       bif j9.2.2.2.2 then
        some (LX.out (j5.1,x.kind==12,true,x.kind != 11,bif bif bif bif j9.2.2.2.1 then decide (x.num>=(-1000000000000))else false then decide (x.num<=1000000000000)else false then bif !x.flag then true else Int.tmod x.num 1000==0 else false then bif !(x.kind==12)then true else !(x.unit==[])else false))
       else
        some (LX.out (j5.1,j9.1,j9.2.1,j9.2.2.1,bif decide (x.kind>=13)then decide (x.kind<=24)else false))) fun j10=>
 some (bif bif bif bif j10.2.2.2.2 then bif j10.1 then true else x.text==[]else false then bif j10.2.1 then true else x.unit==[]else false then bif j10.2.2.1 then true else x.num==0 else false then bif j10.2.2.2.1 then true else !x.flag else false)
def qP(x:(Int×Int)×List zk):Option Bool:=
 za (zA (decide (x.1.1<(x.2.length:Int))) (geti x.2 x.1.1) (default:zk)) fun y1=>
 some (bif decide (x.1.1<(x.2.length:Int))then y1.kind==x.1.2 else false)
def QM(fu:Nat)(x:Str×Str):Option Bool:=
 za (Z6 fu x.1) fun y1=>
 za (Z6 fu x.2) fun y2=>
 some (y1==y2)
def BL(fu:Nat)(x:List zk):Option Int:=
 za (geti x 0) fun y1=>
 bif bif y1.kind==9 then y1.text==[92]else false then
  za (qP ((1,13),x)) fun y2=>
  bif !y2 then
   some 0
  else
   some 2
 else
  za (zA (y1.kind==2) (QM fu (y1.text,[117,114,108])) (default:Bool)) fun y3=>
  bif bif y1.kind==2 then y3 else false then
   zW (X:=Int) (
     za (qP ((1,13),x)) fun y4=>
     bif y4 then
      some (LX.out 2)
     else
      some (LX.out 1)) fun j5=>
   za (qP ((j5,5),x)) fun y6=>
   bif !y6 then
    some 0
   else
    some (w64 (j5+1))
  else
   some 1
def DL(fu:Nat)(x:List zk):Option Int:=
 bif decide ((x.length:Int)>1500)then
  some 4
 else
  ZH fu (fun(s1:Int)=>
    bif decide (s1<(x.length:Int))then
     za (geti x s1) fun y2=>
     za (Rs y2) fun y3=>
     need (decide (0<=s1)&&decide (s1<=(x.length:Int))|| !(!(!y3)))<|
     za (zA (!(!y3)) (BL fu (List.drop s1.toNat x)) (default:Int)) fun y4=>
     bif bif !y3 then true else y4==0 then
      some (LO.ret 8)
     else
      some (LO.again (w64 (s1+1)))
    else
     some (LO.out ()):Int->Option (LO (Int) (Unit) _)) 0 fun o5=>
  some 0
def Qs(x:ze×Int):Option Bool:=
 some (x.1.token.kind==x.2)
def BO(fu:Nat)(Zf:List ze->Option Bool)(x:ze):Option Bool:=
 za (Qs ((⟨x.token,x.list⟩:ze),20)) fun y1=>
 za (zA (!y1) (Qs ((⟨x.token,x.list⟩:ze),22)) (default:Bool)) fun y2=>
 za (zA (!(bif y1 then true else y2)) (Qs ((⟨x.token,x.list⟩:ze),24)) (default:Bool)) fun y3=>
 za (zA (!(bif bif y1 then true else y2 then true else y3)) (Zf x.list) (default:Bool)) fun y4=>
 some (bif bif bif y1 then true else y2 then true else y3 then true else y4)
def RP(fu:Nat)(Zf:List ze->Option Bool)(x:List ze):Option Int:=
 ZH fu (fun(s1:Int)=>
   bif decide (s1<(x.length:Int))then
    za (geti x s1) fun y2=>
    za (BO fu Zf (⟨y2.token,y2.list⟩:ze)) fun y3=>
    bif y3 then
     some (LO.ret s1)
    else
     some (LO.again (w64 (s1+1)))
   else
    some (LO.out ()):Int->Option (LO (Int) (Unit) _)) 0 fun o4=>
 some (-1)
def JQ(fu:Nat)(Zf:List ze->Option Bool)(x:List ze):Option Bool:=
 za (RP fu Zf x) fun y1=>
 some (decide (y1>=0))
def OH(fu:Nat)(Zf:List ze->Option Bool)(x:List ze):Option Bool:=
 za (JQ fu Zf x) fun y1=>
 some y1
def Zf(fu:Nat):List ze->Option Bool:=Re (OH fu) fu
def Tx(x:ze):Option Bool:=
 za (Qs ((⟨x.token,x.list⟩:ze),9)) fun y1=>
 some (bif y1 then x.token.text==[33]else false)
def Su(x:ze):Option Bool:=
 za (Qs ((⟨x.token,x.list⟩:ze),17)) fun y1=>
 za (zA (!y1) (Tx (⟨x.token,x.list⟩:ze)) (default:Bool)) fun y2=>
 some (bif y1 then true else y2)
def vP(fu:Nat)(x:List ze):Option Int:=
 ZH fu (fun(s1:Int)=>
   bif decide (s1<(x.length:Int))then
    za (geti x s1) fun y2=>
    za (Su (⟨y2.token,y2.list⟩:ze)) fun y3=>
    bif y3 then
     some (LO.ret s1)
    else
     some (LO.again (w64 (s1+1)))
   else
    some (LO.out ()):Int->Option (LO (Int) (Unit) _)) 0 fun o4=>
 some (-1)
def OQ(fu:Nat)(x:List ze):Option Bool:=
 za (vP fu x) fun y1=>
 some (decide (y1>=0))
def xy(fu:Nat)(x:Zd):Option Int:=
 za (aF fu x.value) fun y1=>
 za (NL fu x.name) fun y2=>
 za (zA (!(bif !y2 then true else y1.2 != 0)) (DL fu y1.1) (default:Int)) fun y3=>
 za (zA (!(bif bif !y2 then true else y1.2 != 0 then true else y3 != 0)) (Zf fu x.value) (default:Bool)) fun y4=>
 bif bif bif bif !y2 then true else y1.2 != 0 then true else y3 != 0 then true else y4 then
  some 8
 else
  za (OQ fu x.value) fun y5=>
  bif y5 then
   some 8
  else
   za (zA ((x.value.length:Int)==0) (strings_HasPrefix (x.name,[45,45])) (default:Bool)) fun y6=>
   za (zA (decide ((x.value.length:Int)>0)&& !(bif (x.value.length:Int)==0 then !y6 else false)) (geti x.value 0) (default:ze)) fun y7=>
   za (zA (decide ((x.value.length:Int)>0)&& !(bif (x.value.length:Int)==0 then !y6 else false)) (Qs ((⟨y7.token,y7.list⟩:ze),13)) (default:Bool)) fun y8=>
   za (zA (!y8&&(decide ((x.value.length:Int)>0)&& !(bif (x.value.length:Int)==0 then !y6 else false))) (geti x.value (w64 ((x.value.length:Int) - 1))) (default:ze)) fun y9=>
   za (zA (!y8&&(decide ((x.value.length:Int)>0)&& !(bif (x.value.length:Int)==0 then !y6 else false))) (Qs ((⟨y9.token,y9.list⟩:ze),13)) (default:Bool)) fun y10=>
   bif bif bif (x.value.length:Int)==0 then !y6 else false then true else bif decide ((x.value.length:Int)>0)then bif y8 then true else y10 else false then
    some 8
   else
    some 0
def oG(fu:Nat)(ak:zo->Option Int)(x:zo):Option Int:=
 zW (X:=Int) (
   bif bif x.kind==5 then true else x.kind==6 then
    some (LX.out 1)
   else
    some (LX.out 0)) fun j1=>
 ZH fu (fun(s2:Int×Int)=>
   bif decide (s2.2<(x.list.length:Int))then
    za (geti x.list s2.2) fun y3=>
    za (ak (⟨y3.kind,y3.name,y3.num,y3.decl,y3.list⟩:zo)) fun y4=>
    some (LO.again (if y4>s2.1 then y4 else s2.1,w64 (s2.2+1)))
   else
    some (LO.out s2.1):Int×Int->Option (LO (Int×Int) (Int) _)) (j1,0) fun o5=>
 some o5
def ak(fu:Nat):zo->Option Int:=Re (oG fu) fu
def Qe(x:zo):Option Bool:=
 some (bif bif bif bif x.name==[]then x.num==0 else false then x.decl.name==[]else false then(x.decl.value.length:Int)==0 else false then !x.decl.important else false)
def oC(fu:Nat)(x:List Str×Str):Option Int:=
 ZH fu (fun(s1:Int)=>
   bif decide (s1<(x.1.length:Int))then
    za (geti x.1 s1) fun y2=>
    bif x.2==y2 then
     some (LO.ret s1)
    else
     some (LO.again (w64 (s1+1)))
   else
    some (LO.out ()):Int->Option (LO (Int) (Unit) _)) 0 fun o3=>
 some (-1)
def VP(fu:Nat)(x:List Str×Str):Option Bool:=
 za (oC fu (x.1,x.2)) fun y1=>
 some (decide (y1>=0))
def aG(fu:Nat)(x:Str):Option Bool:=
 za (VP fu ([[],[97,110,100],[111,114],[110,111,116],[111,110,108,121]],x)) fun y1=>
 za (zA (bif !y1 then decide ((x.length:Int)<=64)else false) (Z6 fu x) (default:Str)) fun y2=>
 za (zA (bif bif !y1 then decide ((x.length:Int)<=64)else false then y2==x else false) (strings_IndexByte (x,0)) (default:Int)) fun y3=>
 some (bif bif bif !y1 then decide ((x.length:Int)<=64)else false then y2==x else false then decide (y3<0)else false)
def FM(fu:Nat)(x:List Int):Option Int:=
 ZH fu (fun(s1:Int)=>
   bif decide (s1<(x.length:Int))then
    za (geti x s1) fun y2=>
    bif bif decide (y2<(-1000000000000))then true else decide (y2>1000000000000)then
     some (LO.ret 8)
    else
     some (LO.again (w64 (s1+1)))
   else
    some (LO.out ()):Int->Option (LO (Int) (Unit) _)) 0 fun o3=>
 some 0
def PG(fu:Nat)(x:Int):Option Int:=
 za (FM fu [x]) fun y1=>
 some y1
def GG(fu:Nat)(x:zo):Option Bool:=
 za (zA (!(x.kind != 1)) (Qe (⟨x.kind,x.name,x.num,x.decl,x.list⟩:zo)) (default:Bool)) fun y1=>
 bif bif bif x.kind != 1 then true else !y1 then true else(x.list.length:Int)==0 then
  some false
 else
  ZH fu (fun(s2:Int)=>
    bif decide (s2<(x.list.length:Int))then
     zW (X:=Int) (
       za (geti x.list s2) fun y3=>
       za (zA (!(decide ((y3.list.length:Int)>0))) (Qe (⟨y3.kind,[],0,y3.decl,y3.list⟩:zo)) (default:Bool)) fun y4=>
       bif bif decide ((y3.list.length:Int)>0)then true else !y4 then
        some (LX.ret (LO.ret false))
       else
        bif y3.kind==4 then
         za (zA (!(bif decide (s2>0)then true else y3.num != 0)) (aG fu y3.name) (default:Bool)) fun y5=>
         bif bif bif decide (s2>0)then true else y3.num != 0 then true else !y5 then
          some (LX.ret (LO.ret false))
         else
          some (LX.out s2)
        else
         zW (X:=Bool) (
           bif y3.kind==5 then
            some (LX.out (y3.kind==5))
           else
            some (LX.out (y3.kind==6))) fun j6=>
         bif j6 then
          za (zA (!(bif !(y3.name==[])then true else decide (y3.num<0))) (PG fu y3.num) (default:Int)) fun y7=>
          bif bif bif !(y3.name==[])then true else decide (y3.num<0)then true else y7 != 0 then
           some (LX.ret (LO.ret false))
          else
           some (LX.out s2)
         else
          some (LX.ret (LO.ret false))) fun j8=>
     some (LO.again (w64 (j8+1)))
    else
     some (LO.out ()):Int->Option (LO (Int) (Unit) _)) 0 fun o9=>
  some true
def Mt(x:zo):Option Bool:=
 za (zA (decide ((x.list.length:Int)>0)) (geti x.list 0) (default:zo)) fun y1=>
 some (bif decide ((x.list.length:Int)>0)then y1.kind==4 else false)
def YK(fu:Nat)(x:zo):Option Bool:=
 bif x.kind==3 then
  za (Qe (⟨x.kind,x.name,x.num,x.decl,x.list⟩:zo)) fun y1=>
  za (zA (bif y1 then(x.list.length:Int)==1 else false) (geti x.list 0) (default:zo)) fun y2=>
  za (zA (bif y1 then(x.list.length:Int)==1 else false) (GG fu (⟨y2.kind,y2.name,y2.num,y2.decl,y2.list⟩:zo)) (default:Bool)) fun y3=>
  za (zA (bif bif y1 then(x.list.length:Int)==1 else false then y3 else false) (geti x.list 0) (default:zo)) fun y4=>
  za (zA (bif bif y1 then(x.list.length:Int)==1 else false then y3 else false) (Mt (⟨y4.kind,y4.name,y4.num,y4.decl,y4.list⟩:zo)) (default:Bool)) fun y5=>
  some (bif bif bif y1 then(x.list.length:Int)==1 else false then y3 else false then y5 else false)
 else
  za (GG fu (⟨x.kind,x.name,x.num,x.decl,x.list⟩:zo)) fun y6=>
  some y6
def sO(fu:Nat)(x:zo):Option Bool:=
 za (YK fu (⟨x.kind,x.name,x.num,x.decl,x.list⟩:zo)) fun y1=>
 some (!y1)
def bP(fu:Nat)(x:List zo):Option Int:=
 ZH fu (fun(s1:Int)=>
   bif decide (s1<(x.length:Int))then
    za (geti x s1) fun y2=>
    za (sO fu (⟨y2.kind,y2.name,y2.num,y2.decl,y2.list⟩:zo)) fun y3=>
    bif y3 then
     some (LO.ret s1)
    else
     some (LO.again (w64 (s1+1)))
   else
    some (LO.out ()):Int->Option (LO (Int) (Unit) _)) 0 fun o4=>
 some (-1)
def xP(fu:Nat)(x:List zo):Option Bool:=
 za (bP fu x) fun y1=>
 some (decide (y1>=0))
def cO(fu:Nat)(x:zo):Option Int:=
 za (zA (bif bif x.kind==2 then decide ((x.list.length:Int)>0)else false then decide ((x.list.length:Int)<=64)else false) (xP fu x.list) (default:Bool)) fun y1=>
 za (Qe (⟨x.kind,x.name,x.num,x.decl,x.list⟩:zo)) fun y2=>
 bif bif !y2 then true else bif !(bif x.kind==1 then(x.list.length:Int)==0 else false)then !(bif bif bif x.kind==2 then decide ((x.list.length:Int)>0)else false then decide ((x.list.length:Int)<=64)else false then !y1 else false)else false then
  some 8
 else
  some 0
def iG(fu:Nat)(Sk:zo->Option Int)(x:zo):Option Int:=
 bif x.kind==7 then
  za (ny fu x.decl.value) fun y1=>
  some (w64 (y1.1+1))
 else
  bif x.kind==8 then
   some 1
  else
   ZH fu (fun(s2:Int×Int)=>
     bif decide (s2.2<(x.list.length:Int))then
      za (geti x.list s2.2) fun y3=>
      za (Sk (⟨y3.kind,y3.name,y3.num,y3.decl,y3.list⟩:zo)) fun y4=>
      zW (X:=Int×Int) (
        bif bif y3.kind != 7 then y3.kind != 8 else false then
         some (LX.out (s2.1,w64 (y4+1)))
        else
         some (LX.out (s2.1,y4))) fun j5=>
      some (LO.again (if j5.2>j5.1 then j5.2 else j5.1,w64 (s2.2+1)))
     else
      some (LO.out s2.1):Int×Int->Option (LO (Int×Int) (Int) _)) (0,0) fun o6=>
   some o6
def Sk(fu:Nat):zo->Option Int:=Re (iG fu) fu
def Ht(x:zo):Option Bool:=
 some (bif x.kind==7 then true else x.kind==8)
def bG(fu:Nat)(Rk:zo×Int->Option ((Int×Bool)×Int))(x:zo×Int):Option ((Int×Bool)×Int):=
 bif decide (w64 (x.2+1)>1500)then
  some ((0,false),w64 (x.2+1))
 else
  bif x.1.kind==7 then
   za (ny fu x.1.decl.value) fun y1=>
   za (zA (bif bif bif (x.1.list.length:Int)==0 then x.1.name==[]else false then x.1.num==0 else false then y1.2==0 else false) (xy fu x.1.decl) (default:Int)) fun y2=>
   some ((w64 (y1.1+1),bif bif bif bif (x.1.list.length:Int)==0 then x.1.name==[]else false then x.1.num==0 else false then y1.2==0 else false then y2==0 else false),w64 (x.2+1))
  else
   bif x.1.kind==8 then
    za (zA ((x.1.list.length:Int)==0) (Qe (⟨x.1.kind,x.1.name,x.1.num,x.1.decl,x.1.list⟩:zo)) (default:Bool)) fun y3=>
    some ((1,bif (x.1.list.length:Int)==0 then y3 else false),w64 (x.2+1))
   else
    zW (X:=Bool) (
      bif x.1.kind==3 then
       some (LX.out (x.1.kind==3))
      else
       bif x.1.kind==1 then
        some (LX.out (x.1.kind==1))
       else
        some (LX.out (x.1.kind==2))) fun j4=>
    bif j4 then
     za (Qe (⟨x.1.kind,x.1.name,x.1.num,x.1.decl,x.1.list⟩:zo)) fun y5=>
     bif bif bif !y5 then true else bif x.1.kind==3 then(x.1.list.length:Int) != 1 else false then true else bif x.1.kind != 3 then decide ((x.1.list.length:Int)<2)else false then
      some ((0,false),w64 (x.2+1))
     else
      ZH fu (fun(s6:(Int×Int)×Int)=>
        bif decide (s6.1.2<(x.1.list.length:Int))then
         za (geti x.1.list s6.1.2) fun y7=>
         za (Rk ((⟨y7.kind,y7.name,y7.num,y7.decl,y7.list⟩:zo),s6.2)) fun y8=>
         bif !y8.1.2 then
          some (LO.ret ((0,false),y8.2))
         else
          zW (X:=Int×Int) (
            za (Ht (⟨y7.kind,y7.name,y7.num,y7.decl,y7.list⟩:zo)) fun y9=>
            bif !y9 then
             some (LX.out (s6.1.1,w64 (y8.1.1+1)))
            else
             some (LX.out (s6.1.1,y8.1.1))) fun j10=>
          some (LO.again ((if j10.2>j10.1 then j10.2 else j10.1,w64 (s6.1.2+1)),y8.2))
        else
         some (LO.out (s6.1.1,s6.2)):(Int×Int)×Int->Option (LO ((Int×Int)×Int) (Int×Int) _)) ((0,0),w64 (x.2+1)) fun o11=>
      some ((o11.1,true),o11.2)
    else
     some ((0,false),w64 (x.2+1))
def Rk(fu:Nat):zo×Int->Option ((Int×Bool)×Int):=Re (bG fu) fu
def mH(fu:Nat)(x:zo):Option Int:=
 za (Rk fu ((⟨x.kind,x.name,x.num,x.decl,x.list⟩:zo),0)) fun y1=>
 bif bif !y1.1.2 then true else decide (y1.1.1>16)then
  some 8
 else
  some 0
def jG(fu:Nat)(Tk:List zK->Option zq)(x:List zK):Option zq:=
 ZH fu (fun(s1:Int×zq)=>
   bif decide (s1.1<(x.length:Int))then
    za (geti x s1.1) fun y2=>
    za (Tk y2.rules) fun y3=>
    za (EQ fu y2.names) fun y4=>
    zW (X:=(Int×Bool)×zq×zq) (
      bif y2.kind==1 then
       za (qR fu y2.selectors) fun y5=>
       za (zA (!(bif y3.bad then true else y4)) (uM fu y2.selectors) (default:Int)) fun y6=>
       za (zA (!(bif bif bif y3.bad then true else y4 then true else y6 != 0 then true else decide ((y2.decls.length:Int)>32))) (Rj (⟨y2.cond.kind,y2.cond.name,y2.cond.num,y2.cond.decl,y2.cond.list⟩:zo)) (default:Bool)) fun y7=>
       ZH fu (fun(s8:(Bool×Int)×zq)=>
         bif decide (s8.1.2<(y2.decls.length:Int))then
          za (geti y2.decls s8.1.2) fun y9=>
          za (ny fu y9.value) fun y10=>
          za (zA (!(bif s8.1.1 then true else y10.2 != 0)) (xy fu y9) (default:Int)) fun y11=>
          some (LO.again ((bif bif s8.1.1 then true else y10.2 != 0 then true else y11 != 0,w64 (s8.1.2+1)),(⟨s8.2.rules,if y10.1>s8.2.depth then y10.1 else s8.2.depth,s8.2.bad⟩:zq)))
         else
          some (LO.out (s8.1.1,s8.2)):(Bool×Int)×zq->Option (LO ((Bool×Int)×zq) (Bool×zq) _)) ((bif bif bif bif bif y3.bad then true else y4 then true else y6 != 0 then true else decide ((y2.decls.length:Int)>32)then true else !y7 then true else decide (w64 ((y2.names.length:Int)+(y2.rules.length:Int))>0),0),y3) fun o12=>
       some (LX.out ((y5,o12.1),(⟨w64 (s1.2.rules+w64 (y3.rules+1)),s1.2.depth,s1.2.bad⟩:zq),o12.2))
      else
       bif y2.kind==2 then
        za (ak fu (⟨y2.cond.kind,y2.cond.name,y2.cond.num,y2.cond.decl,y2.cond.list⟩:zo)) fun y13=>
        za (zA (!(bif bif bif y3.bad then true else y4 then true else decide (w64 ((y2.selectors.length:Int)+(y2.decls.length:Int))>0)then true else decide ((y2.names.length:Int)>0))) (cO fu (⟨y2.cond.kind,y2.cond.name,y2.cond.num,y2.cond.decl,y2.cond.list⟩:zo)) (default:Int)) fun y14=>
        some (LX.out ((y13,bif bif bif bif y3.bad then true else y4 then true else decide (w64 ((y2.selectors.length:Int)+(y2.decls.length:Int))>0)then true else decide ((y2.names.length:Int)>0)then true else y14 != 0),(⟨w64 (s1.2.rules+w64 (y3.rules+1)),s1.2.depth,s1.2.bad⟩:zq),y3))
       else
        bif y2.kind==3 then
         za (Sk fu (⟨y2.cond.kind,y2.cond.name,y2.cond.num,y2.cond.decl,y2.cond.list⟩:zo)) fun y15=>
         za (zA (!(bif bif bif y3.bad then true else y4 then true else decide (w64 ((y2.selectors.length:Int)+(y2.decls.length:Int))>0)then true else decide ((y2.names.length:Int)>0))) (mH fu (⟨y2.cond.kind,y2.cond.name,y2.cond.num,y2.cond.decl,y2.cond.list⟩:zo)) (default:Int)) fun y16=>
         some (LX.out ((y15,bif bif bif bif y3.bad then true else y4 then true else decide (w64 ((y2.selectors.length:Int)+(y2.decls.length:Int))>0)then true else decide ((y2.names.length:Int)>0)then true else y16 != 0),(⟨w64 (s1.2.rules+w64 (y3.rules+1)),s1.2.depth,s1.2.bad⟩:zq),y3))
        else
         bif y2.kind==4 then
          za (zA (!(bif bif bif y3.bad then true else y4 then true else decide (w64 ((y2.selectors.length:Int)+(y2.decls.length:Int))>0)then true else decide ((y2.names.length:Int)>1))) (Rj (⟨y2.cond.kind,y2.cond.name,y2.cond.num,y2.cond.decl,y2.cond.list⟩:zo)) (default:Bool)) fun y17=>
          some (LX.out ((0,bif bif bif bif y3.bad then true else y4 then true else decide (w64 ((y2.selectors.length:Int)+(y2.decls.length:Int))>0)then true else decide ((y2.names.length:Int)>1)then true else !y17),(⟨w64 (s1.2.rules+w64 (y3.rules+1)),s1.2.depth,s1.2.bad⟩:zq),y3))
         else
          bif y2.kind==5 then
           za (zA (!(bif bif bif bif bif y3.bad then true else y4 then true else decide (w64 ((y2.selectors.length:Int)+(y2.decls.length:Int))>0)then true else decide ((y2.names.length:Int)<1)then true else decide ((y2.names.length:Int)>64)then true else decide ((y2.rules.length:Int)>0))) (Rj (⟨y2.cond.kind,y2.cond.name,y2.cond.num,y2.cond.decl,y2.cond.list⟩:zo)) (default:Bool)) fun y18=>
           some (LX.out ((0,bif bif bif bif bif bif y3.bad then true else y4 then true else decide (w64 ((y2.selectors.length:Int)+(y2.decls.length:Int))>0)then true else decide ((y2.names.length:Int)<1)then true else decide ((y2.names.length:Int)>64)then true else decide ((y2.rules.length:Int)>0)then true else !y18),(⟨w64 (s1.2.rules+w64 (y3.rules+1)),s1.2.depth,s1.2.bad⟩:zq),(⟨y3.rules,(-1),y3.bad⟩:zq)))
          else
           some (LX.out ((0,true),(⟨w64 (s1.2.rules+w64 (y3.rules+1)),s1.2.depth,s1.2.bad⟩:zq),y3))) fun j19=>
    some (LO.again (w64 (s1.1+1),(⟨j19.2.1.rules,if j19.1.1>(if w64 (j19.2.2.depth+1)>j19.2.1.depth then w64 (j19.2.2.depth+1)else j19.2.1.depth)then j19.1.1 else if w64 (j19.2.2.depth+1)>j19.2.1.depth then w64 (j19.2.2.depth+1)else j19.2.1.depth,bif j19.2.1.bad then true else j19.1.2⟩:zq)))
   else
    some (LO.out s1.2):Int×zq->Option (LO (Int×zq) (zq) _)) (0,(⟨0,0,false⟩:zq)) fun o20=>
 some o20
def Tk(fu:Nat):List zK->Option zq:=Re (jG fu) fu
def WL(fu:Nat)(x:List zK):Option Int:=
 za (Tk fu x) fun y1=>
 bif bif bif y1.bad then true else decide (y1.rules>64)then true else decide (y1.depth>16)then
  some 8
 else
  some 0
def XL(fu:Nat)(x:ZI):Option Int:=
 za (WL fu x.rules) fun y1=>
 some y1
def RG(fu:Nat)(x:Ze):Option Int:=
 bif bif bif decide ((x.sheets.length:Int)>8)then true else decide (x.next<0)then true else decide (x.next>1000)then
  some 8
 else
  ZH fu (fun(s1:Int×Int)=>
    bif decide (s1.2<(x.sheets.length:Int))then
     za (geti x.sheets s1.2) fun y2=>
     za (zA (!(bif bif bif bif decide (y2.number<s1.1)then true else decide (y2.number>=x.next)then true else decide (y2.origin<1)then true else decide (y2.origin>3)then true else decide ((y2.site.length:Int)>64))) (XL fu y2.sheet) (default:Int)) fun y3=>
     bif bif bif bif bif bif decide (y2.number<s1.1)then true else decide (y2.number>=x.next)then true else decide (y2.origin<1)then true else decide (y2.origin>3)then true else decide ((y2.site.length:Int)>64)then true else y3 != 0 then
      some (LO.ret 8)
     else
      some (LO.again (w64 (y2.number+1),w64 (s1.2+1)))
    else
     some (LO.out ()):Int×Int->Option (LO (Int×Int) (Unit) _)) (0,0) fun o4=>
  some 0
def MI(fu:Nat)(x:zb):Option zb:=
 ZH fu (fun(s1:zb)=>
   need (decide (0<=s1.at_)&&decide (s1.at_<=(s1.s.length:Int)))<|
   za (strings_HasPrefix (List.drop s1.at_.toNat s1.s,[47,42])) fun y2=>
   bif y2 then
    need (decide (0<=w64 (s1.at_+2))&&decide (w64 (s1.at_+2)<=(s1.s.length:Int)))<|
    za (om (List.drop (w64 (s1.at_+2)).toNat s1.s,[42,47])) fun y3=>
    bif decide (y3<0)then
     some (LO.ret (⟨s1.s,(s1.s.length:Int)⟩:zb))
    else
     some (LO.again (⟨s1.s,w64 (s1.at_+w64 (y3+4))⟩:zb))
   else
    some (LO.out s1):zb->Option (LO (zb) (zb) _)) x fun o4=>
 some o4
def zB(x:Int×zb):Option Int:=
 bif decide (w64 (x.2.at_+x.1)<(x.2.s.length:Int))then
  za (geti x.2.s (w64 (x.2.at_+x.1))) fun y1=>
  some (w64 (y1.toNat:Int))
 else
  some (-1)
def yo(x:Int):Option Bool:=
 some (bif bif x==32 then true else x==9 then true else x==10)
def Qf(fu:Nat)(x:zb):Option zb:=
 ZH fu (fun(s1:zb)=>
   za (zB (0,s1)) fun y2=>
   za (yo y2) fun y3=>
   bif y3 then
    some (LO.again (⟨s1.s,w64 (s1.at_+1)⟩:zb))
   else
    some (LO.out s1):zb->Option (LO (zb) (zb) _)) x fun o4=>
 some o4
def rP(x:Int):Option (List UInt8):=
 bif decide (wu32 x<=2047)then
  za (Qc (ibOr IntKind.u8 192 (wu8 (Ih IntKind.i32 x 6)))) fun y1=>
  za (Qc (ibOr IntKind.u8 128 (Jh IntKind.u8 (wu8 x) 63))) fun y2=>
  need (Zo 0 2 1)<|
  some [y1,y2]
 else
  zW (X:=Bool) (
    bif decide (wu32 x<55296)then
     some (LX.out (decide (wu32 x<55296)))
    else
     some (LX.out (bif decide (57343<wu32 x)then decide (wu32 x<=65535)else false))) fun j3=>
  bif j3 then
   za (Qc (ibOr IntKind.u8 224 (wu8 (Ih IntKind.i32 x 12)))) fun y4=>
   za (Qc (ibOr IntKind.u8 128 (Jh IntKind.u8 (wu8 (Ih IntKind.i32 x 6)) 63))) fun y5=>
   za (Qc (ibOr IntKind.u8 128 (Jh IntKind.u8 (wu8 x) 63))) fun y6=>
   need (Zo 0 3 1)<|
   some [y4,y5,y6]
  else
   bif bif decide (wu32 x>65535)then decide (wu32 x<=1114111)else false then
    za (Qc (ibOr IntKind.u8 240 (wu8 (Ih IntKind.i32 x 18)))) fun y7=>
    za (Qc (ibOr IntKind.u8 128 (Jh IntKind.u8 (wu8 (Ih IntKind.i32 x 12)) 63))) fun y8=>
    za (Qc (ibOr IntKind.u8 128 (Jh IntKind.u8 (wu8 (Ih IntKind.i32 x 6)) 63))) fun y9=>
    za (Qc (ibOr IntKind.u8 128 (Jh IntKind.u8 (wu8 x) 63))) fun y10=>
    need (Zo 0 4 1)<|
    some [y7,y8,y9,y10]
   else
    need (Zo 0 3 1)<|
    some [(239:UInt8),(191:UInt8),(189:UInt8)]
def YH(x:Int):Option (List UInt8):=
 bif decide (wu32 x<=127)then
  za (Qc (wu8 x)) fun y1=>
  need (Zo 0 1 1)<|
  some [y1]
 else
  za (rP x) fun y2=>
  some y2
def Uu(x:Int×Int×Int):Option Bool:=
 some (bif decide (x.2.1<=x.1)then decide (x.1<=x.2.2)else false)
def ll(x:Int):Option Bool:=
 za (Uu (x,48,57)) fun y1=>
 some y1
def Us(x:Int):Option Int:=
 za (ll x) fun y1=>
 bif y1 then
  some (w64 (x - 48))
 else
  za (zA (x != (-1)) (Uu (ibOr IntKind.i64 x 32,97,102)) (default:Bool)) fun y2=>
  bif bif bif bif x != (-1)then y2 else false then decide (x>64)else false then decide (x<128)else false then
   some (w64 (w64 (ibOr IntKind.i64 x 32 - 97)+10))
  else
   some (-1)
def AQ(fu:Nat)(x:zb):Option (zb×List UInt8):=
 za (zB (0,(⟨x.s,w64 (x.at_+1)⟩:zb))) fun y1=>
 bif y1==(-1)then
  za (YH 65533) fun y2=>
  some ((⟨x.s,w64 (x.at_+1)⟩:zb),y2)
 else
  za (Us y1) fun y3=>
  bif decide (y3<0)then
   za (Qc (wu8 y1)) fun y4=>
   need (Zo 0 1 1)<|
   some ((⟨x.s,w64 (w64 (x.at_+1)+1)⟩:zb),[y4])
  else
   ZH fu (fun(s5:(Int×Int)×zb)=>
     bif decide (s5.1.2<6)then
      za (zB (0,s5.2)) fun y6=>
      za (Us y6) fun y7=>
      bif decide (y7<0)then
       some (LO.out (s5.1.1,s5.2))
      else
       some (LO.again ((ibOr IntKind.i64 (aQ IntKind.i64 s5.1.1 4) y7,w64 (s5.1.2+1)),(⟨s5.2.s,w64 (s5.2.at_+1)⟩:zb)))
     else
      some (LO.out (s5.1.1,s5.2)):(Int×Int)×zb->Option (LO ((Int×Int)×zb) (Int×zb) _)) ((0,0),(⟨x.s,w64 (x.at_+1)⟩:zb)) fun o8=>
   zW (X:=Int×zb) (
     za (zB (0,o8.2)) fun y9=>
     za (yo y9) fun y10=>
     bif y10 then
      some (LX.out (o8.1,(⟨o8.2.s,w64 (o8.2.at_+1)⟩:zb)))
     else
      some (LX.out (o8.1,o8.2))) fun j11=>
   zW (X:=Int) (
     bif j11.1==0 then
      some (LX.out 65533)
     else
      some (LX.out j11.1)) fun j12=>
   za (YH (w32 j12)) fun y13=>
   some (j11.2,y13)
def oP(x:Int×List UInt8):Option (List UInt8):=
 bif decide (wu32 x.1<=2047)then
  za (Qc (ibOr IntKind.u8 192 (wu8 (Ih IntKind.i32 x.1 6)))) fun y1=>
  za (Qc (ibOr IntKind.u8 128 (Jh IntKind.u8 (wu8 x.1) 63))) fun y2=>
  need (Zo x.2.length 2 1)<|
  some (x.2++[y1,y2])
 else
  zW (X:=Bool×List UInt8) (
    bif decide (wu32 x.1<55296)then
     some (LX.out (decide (wu32 x.1<55296),x.2))
    else
     some (LX.out (bif decide (57343<wu32 x.1)then decide (wu32 x.1<=65535)else false,x.2))) fun j3=>
  bif j3.1 then
   za (Qc (ibOr IntKind.u8 224 (wu8 (Ih IntKind.i32 x.1 12)))) fun y4=>
   za (Qc (ibOr IntKind.u8 128 (Jh IntKind.u8 (wu8 (Ih IntKind.i32 x.1 6)) 63))) fun y5=>
   za (Qc (ibOr IntKind.u8 128 (Jh IntKind.u8 (wu8 x.1) 63))) fun y6=>
   need (Zo j3.2.length 3 1)<|
   some (j3.2++[y4,y5,y6])
  else
   bif bif decide (wu32 x.1>65535)then decide (wu32 x.1<=1114111)else false then
    za (Qc (ibOr IntKind.u8 240 (wu8 (Ih IntKind.i32 x.1 18)))) fun y7=>
    za (Qc (ibOr IntKind.u8 128 (Jh IntKind.u8 (wu8 (Ih IntKind.i32 x.1 12)) 63))) fun y8=>
    za (Qc (ibOr IntKind.u8 128 (Jh IntKind.u8 (wu8 (Ih IntKind.i32 x.1 6)) 63))) fun y9=>
    za (Qc (ibOr IntKind.u8 128 (Jh IntKind.u8 (wu8 x.1) 63))) fun y10=>
    need (Zo j3.2.length 4 1)<|
    some (j3.2++[y7,y8,y9,y10])
   else
    need (Zo j3.2.length 3 1)<|
    some (j3.2++[(239:UInt8),(191:UInt8),(189:UInt8)])
def XH(x:Int×List UInt8):Option (List UInt8):=
 bif decide (wu32 x.1<=127)then
  za (Qc (wu8 x.1)) fun y1=>
  need (Zo x.2.length 1 1)<|
  some (x.2++[y1])
 else
  za (oP (x.1,x.2)) fun y2=>
  some y2
def qY(fu:Nat)(x:zb×List UInt8):Option (zb×List UInt8):=
 za (zB (0,(⟨x.1.s,w64 (x.1.at_+1)⟩:zb))) fun y1=>
 bif y1==(-1)then
  za (XH (65533,x.2)) fun y2=>
  some ((⟨x.1.s,w64 (x.1.at_+1)⟩:zb),y2)
 else
  za (Us y1) fun y3=>
  bif decide (y3<0)then
   za (Qc (wu8 y1)) fun y4=>
   need (Zo x.2.length 1 1)<|
   some ((⟨x.1.s,w64 (w64 (x.1.at_+1)+1)⟩:zb),x.2++[y4])
  else
   ZH fu (fun(s5:(Int×Int)×zb)=>
     bif decide (s5.1.2<6)then
      za (zB (0,s5.2)) fun y6=>
      za (Us y6) fun y7=>
      bif decide (y7<0)then
       some (LO.out (s5.1.1,s5.2))
      else
       some (LO.again ((ibOr IntKind.i64 (aQ IntKind.i64 s5.1.1 4) y7,w64 (s5.1.2+1)),(⟨s5.2.s,w64 (s5.2.at_+1)⟩:zb)))
     else
      some (LO.out (s5.1.1,s5.2)):(Int×Int)×zb->Option (LO ((Int×Int)×zb) (Int×zb) _)) ((0,0),(⟨x.1.s,w64 (x.1.at_+1)⟩:zb)) fun o8=>
   zW (X:=Int×zb×List UInt8) (
     za (zB (0,o8.2)) fun y9=>
     za (yo y9) fun y10=>
     bif y10 then
      some (LX.out (o8.1,(⟨o8.2.s,w64 (o8.2.at_+1)⟩:zb),x.2))
     else
      some (LX.out (o8.1,o8.2,x.2))) fun j11=>
   zW (X:=Int×List UInt8) (
     bif j11.1==0 then
      some (LX.out (65533,j11.2.2))
     else
      some (LX.out (j11.1,j11.2.2))) fun j12=>
   za (XH (w32 j12.1,j12.2)) fun y13=>
   some (j11.2.1,y13)
def NP(fu:Nat)(x:zb):Option (zk×zb):=
 za (zB (0,x)) fun y1=>
 ZH fu (fun(s2:zb×zk×List UInt8)=>
   za (zB (0,s2.1)) fun y3=>
   bif y3==(-1)then
    some (LO.out (s2.1,s2.2.1,s2.2.2))
   else
    bif y3==y1 then
     some (LO.out ((⟨s2.1.s,w64 (s2.1.at_+1)⟩:zb),s2.2.1,s2.2.2))
    else
     bif y3==10 then
      some (LO.ret ((⟨6,[],0,[],false⟩:zk),s2.1))
     else
      za (zA (y3==92) (zB (1,s2.1)) (default:Int)) fun y4=>
      za (zA (!(y4==(-1))&&y3==92) (zB (1,s2.1)) (default:Int)) fun y5=>
      bif bif y3==92 then bif y4==(-1)then true else y5==10 else false then
       some (LO.again ((⟨s2.1.s,if(s2.1.s.length:Int)<w64 (s2.1.at_+2)then(s2.1.s.length:Int)else w64 (s2.1.at_+2)⟩:zb),s2.2.1,s2.2.2))
      else
       bif y3==92 then
        za (qY fu (s2.1,s2.2.2)) fun y6=>
        some (LO.again (y6.1,s2.2.1,y6.2))
       else
        za (Qc (wu8 y3)) fun y7=>
        need (Zo s2.2.2.length 1 1)<|
        some (LO.again ((⟨s2.1.s,w64 (s2.1.at_+1)⟩:zb),s2.2.1,s2.2.2++[y7])):zb×zk×List UInt8->Option (LO (zb×zk×List UInt8) (zb×zk×List UInt8) _)) ((⟨x.s,w64 (x.at_+1)⟩:zb),(⟨0,[],0,[],false⟩:zk),[]) fun o8=>
 some ((⟨5,o8.2.2,0,[],false⟩:zk),o8.1)
def ay(x:Int):Option Bool:=
 za (Uu (ibOr IntKind.i64 x 32,97,122)) fun y1=>
 some (bif bif bif bif y1 then decide (x<128)else false then decide (x>64)else false then true else x==95 then true else decide (x>=128))
def WG(x:Int):Option Bool:=
 za (ay x) fun y1=>
 za (zA (!y1) (ll x) (default:Bool)) fun y2=>
 some (bif bif y1 then true else y2 then true else x==45)
def Z5(x:Int×zb):Option Bool:=
 za (zB (x.1,x.2)) fun y1=>
 za (zA (y1==92) (zB (w64 (x.1+1),x.2)) (default:Int)) fun y2=>
 some (bif y1==92 then y2 != 10 else false)
def QX(x:Int×zb):Option Bool:=
 za (zB (x.1,x.2)) fun y1=>
 bif y1 != 45 then
  za (zB (x.1,x.2)) fun y2=>
  za (ay y2) fun y3=>
  za (zA (!y3) (Z5 (x.1,x.2)) (default:Bool)) fun y4=>
  some (bif y3 then true else y4)
 else
  za (zB (w64 (x.1+1),x.2)) fun y5=>
  za (ay y5) fun y6=>
  za (zA (!y6) (zB (w64 (x.1+1),x.2)) (default:Int)) fun y7=>
  za (zA (!(bif y6 then true else y7==45)) (Z5 (w64 (x.1+1),x.2)) (default:Bool)) fun y8=>
  some (bif bif y6 then true else y7==45 then true else y8)
def QB(fu:Nat)(x:zb):Option (Str×zb):=
 ZH fu (fun(s1:zb×List UInt8)=>
   za (zB (0,s1.1)) fun y2=>
   za (WG y2) fun y3=>
   bif y3 then
    za (Qc (wu8 y2)) fun y4=>
    need (Zo s1.2.length 1 1)<|
    some (LO.again ((⟨s1.1.s,w64 (s1.1.at_+1)⟩:zb),s1.2++[y4]))
   else
    za (zA (y2 != (-1)) (Z5 (0,s1.1)) (default:Bool)) fun y5=>
    bif bif y2 != (-1)then y5 else false then
     za (qY fu (s1.1,s1.2)) fun y6=>
     some (LO.again (y6.1,y6.2))
    else
     some (LO.ret (s1.2,s1.1)):zb×List UInt8->Option (LO (zb×List UInt8) (Unit) _)) (x,[]) fun o7=>
 none
def CP(x:zb):Option Bool:=
 zW (X:=Int) (
   za (zB (0,x)) fun y1=>
   bif bif y1==43 then true else y1==45 then
    some (LX.out 1)
   else
    some (LX.out 0)) fun j2=>
 zW (X:=Int) (
   za (zB (j2,x)) fun y3=>
   bif y3==46 then
    some (LX.out (w64 (j2+1)))
   else
    some (LX.out j2)) fun j4=>
 za (zB (j4,x)) fun y5=>
 za (ll y5) fun y6=>
 some y6
def QE(fu:Nat)(x:zb):Option zb:=
 ZH fu (fun(s1:zb)=>
   za (zB (0,s1)) fun y2=>
   za (ll y2) fun y3=>
   bif y3 then
    some (LO.again (⟨s1.s,w64 (s1.at_+1)⟩:zb))
   else
    some (LO.out s1):zb->Option (LO (zb) (zb) _)) x fun o4=>
 some o4
def YP(fu:Nat)(x:zb):Option (Bool×zb):=
 zW (X:=zb) (
   za (zB (0,x)) fun y1=>
   bif bif y1==43 then true else y1==45 then
    some (LX.out (⟨x.s,w64 (x.at_+1)⟩:zb))
   else
    some (LX.out x)) fun j2=>
 za (QE fu j2) fun y3=>
 zW (X:=Bool×zb) (
   za (zB (0,y3)) fun y4=>
   za (zA (y4==46) (zB (1,y3)) (default:Int)) fun y5=>
   za (zA (y4==46) (ll y5) (default:Bool)) fun y6=>
   bif bif y4==46 then y6 else false then
    za (QE fu (⟨y3.s,w64 (y3.at_+1)⟩:zb)) fun y7=>
    some (LX.out (false,y7))
   else
    some (LX.out (true,y3))) fun j8=>
 zW (X:=Bool×zb) (
   za (zB (0,j8.2)) fun y9=>
   za (zA (!(y9==101)) (zB (0,j8.2)) (default:Int)) fun y10=>
   bif bif y9==101 then true else y10==69 then
    zW (X:=(Bool×Int)×zb) (
      za (zB (1,j8.2)) fun y11=>
      bif bif y11==43 then true else y11==45 then
       some (LX.out ((j8.1,2),j8.2))
      else
       some (LX.out ((j8.1,1),j8.2))) fun j12=>
    za (zB (j12.1.2,j12.2)) fun y13=>
    za (ll y13) fun y14=>
    bif y14 then
     za (QE fu (⟨j12.2.s,w64 (j12.2.at_+j12.1.2)⟩:zb)) fun y15=>
     some (LX.out (false,y15))
    else
     some (LX.out (j12.1.1,j12.2))
   else
    some (LX.out (j8.1,j8.2))) fun j16=>
 some (j16.1,j16.2)
def tO(fu:Nat)(x:Str):Option Int:=
 za (geti x 0) fun y1=>
 za (gD (x,[43,45])) fun y2=>
 zW (X:=Str×Int) (
   za (rE (y2,[101,69])) fun y3=>
   bif decide (y3>=0)then
    need (decide (0<=w64 (y3+1))&&decide (w64 (y3+1)<=(y2.length:Int)))<|
    za (gD (List.drop (w64 (y3+1)).toNat y2,[43,45])) fun y4=>
    need (decide (y4.length<=maxLen))<|
    ZH fu (fun(s5:Int×Int)=>
      bif decide (s5.2<(y4.length:Int))then
       need (decide (0<=s5.2)&&decide (s5.2<(y4.length:Int)))<|
       za y4[s5.2.toNat]? fun y6=>
       some (LO.again (if 1048576<w64 (w64 (10*s5.1)+w64 (wu8 ((y6.toNat:Int) - 48)))then 1048576 else w64 (w64 (10*s5.1)+w64 (wu8 ((y6.toNat:Int) - 48))),w64 (s5.2+1)))
      else
       some (LO.out s5.1):Int×Int->Option (LO (Int×Int) (Int) _)) (0,0) fun o7=>
    zW (X:=Str×Int×Int) (
      za (geti y2 (w64 (y3+1))) fun y8=>
      bif (y8.toNat:Int)==45 then
       some (LX.out (y2,3,w64 (0 - o7)))
      else
       some (LX.out (y2,3,o7))) fun j9=>
    need (decide (0<=y3)&&decide (y3<=(j9.1.length:Int)))<|
    some (LX.out (List.take y3.toNat j9.1,w64 (j9.2.1+j9.2.2)))
   else
    some (LX.out (y2,3))) fun j10=>
 za (cutF (j10.1,[46])) fun y11=>
 need (Tf y11.1.length y11.2.1.length)<|
 zW (X:=Str×Int) (
   bif decide (w64 (j10.2 - (y11.2.1.length:Int))<0)then
    need (decide (0<=(if w64 (((y11.1++y11.2.1).length:Int)+w64 (j10.2 - (y11.2.1.length:Int)))>0 then w64 (((y11.1++y11.2.1).length:Int)+w64 (j10.2 - (y11.2.1.length:Int)))else 0))&&decide ((if w64 (((y11.1++y11.2.1).length:Int)+w64 (j10.2 - (y11.2.1.length:Int)))>0 then w64 (((y11.1++y11.2.1).length:Int)+w64 (j10.2 - (y11.2.1.length:Int)))else 0)<=((y11.1++y11.2.1).length:Int)))<|
    some (LX.out (List.take (if w64 (((y11.1++y11.2.1).length:Int)+w64 (j10.2 - (y11.2.1.length:Int)))>0 then w64 (((y11.1++y11.2.1).length:Int)+w64 (j10.2 - (y11.2.1.length:Int)))else 0).toNat (y11.1++y11.2.1),w64 (j10.2 - (y11.2.1.length:Int))))
   else
    some (LX.out (y11.1++y11.2.1,w64 (j10.2 - (y11.2.1.length:Int))))) fun j12=>
 need (decide (j12.1.length<=maxLen))<|
 ZH fu (fun(s13:Int×Int)=>
   bif decide (s13.2<(j12.1.length:Int))then
    need (decide (0<=s13.2)&&decide (s13.2<(j12.1.length:Int)))<|
    za j12.1[s13.2.toNat]? fun y14=>
    some (LO.again (if 1000000000000<w64 (w64 (10*s13.1)+w64 (wu8 ((y14.toNat:Int) - 48)))then 1000000000000 else w64 (w64 (10*s13.1)+w64 (wu8 ((y14.toNat:Int) - 48))),w64 (s13.2+1)))
   else
    some (LO.out s13.1):Int×Int->Option (LO (Int×Int) (Int) _)) (0,0) fun o15=>
 ZH fu (fun(s16:Int×Int)=>
   bif bif bif decide (s16.1>0)then decide (s16.2>0)else false then decide (s16.2<1000000000000)else false then
    some (LO.again (w64 (s16.1 - 1),if 1000000000000<w64 (10*s16.2)then 1000000000000 else w64 (10*s16.2)))
   else
    some (LO.out s16.2):Int×Int->Option (LO (Int×Int) (Int) _)) (j12.2,o15) fun o17=>
 zW (X:=Int) (
   bif (y1.toNat:Int)==45 then
    some (LX.out (w64 (0 - o17)))
   else
    some (LX.out o17)) fun j18=>
 some j18
def XP(fu:Nat)(x:zb):Option (zk×zb):=
 za (YP fu x) fun y1=>
 need (decide (0<=x.at_)&&(decide (x.at_<=y1.2.at_)&&decide (y1.2.at_<=(y1.2.s.length:Int))))<|
 za (tO fu (List.drop x.at_.toNat (List.take y1.2.at_.toNat y1.2.s))) fun y2=>
 zW (X:=zb×zk×zk) (
   za (QX (0,y1.2)) fun y3=>
   bif y3 then
    za (QB fu y1.2) fun y4=>
    some (LX.out (y4.2,(⟨0,[],0,[],false⟩:zk),(⟨12,[],y2,y4.1,y1.1⟩:zk)))
   else
    za (zB (0,y1.2)) fun y5=>
    bif y5==37 then
     some (LX.out ((⟨y1.2.s,w64 (y1.2.at_+1)⟩:zb),(⟨0,[],0,[],false⟩:zk),(⟨11,[],y2,[],false⟩:zk)))
    else
     some (LX.out (y1.2,(⟨0,[],0,[],false⟩:zk),(⟨10,[],y2,[],y1.1⟩:zk)))) fun j6=>
 some (j6.2.2,j6.1)
def WC(fu:Nat)(x:zb):Option (zk×zb):=
 ZH fu (fun(s1:zb×zk)=>
   za (zB (0,s1.1)) fun y2=>
   bif y2==(-1)then
    some (LO.ret ((⟨8,[],0,[],false⟩:zk),s1.1))
   else
    za (Z5 (0,s1.1)) fun y3=>
    bif y3 then
     za (AQ fu s1.1) fun y4=>
     some (LO.again (y4.1,s1.2))
    else
     za (geti s1.1.s (w64 (w64 (s1.1.at_+1) - 1))) fun y5=>
     bif (y5.toNat:Int)==41 then
      some (LO.ret ((⟨8,[],0,[],false⟩:zk),(⟨s1.1.s,w64 (s1.1.at_+1)⟩:zb)))
     else
      some (LO.again ((⟨s1.1.s,w64 (s1.1.at_+1)⟩:zb),s1.2)):zb×zk->Option (LO (zb×zk) (Unit) _)) (x,(⟨0,[],0,[],false⟩:zk)) fun o6=>
 none
def uO(fu:Nat)(x:zb):Option (zk×zb):=
 za (Qf fu x) fun y1=>
 ZH fu (fun(s2:zb×zk×List UInt8)=>
   za (zB (0,s2.1)) fun y3=>
   zW (X:=Int×zb×zk×List UInt8) (
     za (yo y3) fun y4=>
     bif y4 then
      za (Qf fu s2.1) fun y5=>
      za (zB (0,y5)) fun y6=>
      bif bif y6 != 41 then y6 != (-1)else false then
       za (WC fu y5) fun y7=>
       some (LX.ret (LO.ret (y7.1,y7.2)))
      else
       some (LX.out (y6,y5,s2.2.1,s2.2.2))
     else
      some (LX.out (y3,s2.1,s2.2.1,s2.2.2))) fun j8=>
   bif j8.1==(-1)then
    some (LO.ret ((⟨7,j8.2.2.2,0,[],false⟩:zk),j8.2.1))
   else
    bif j8.1==41 then
     some (LO.ret ((⟨7,j8.2.2.2,0,[],false⟩:zk),(⟨j8.2.1.s,w64 (j8.2.1.at_+1)⟩:zb)))
    else
     za (zA (!(bif bif bif bif j8.1==34 then true else j8.1==39 then true else j8.1==40 then true else decide (j8.1<=8)then true else j8.1==11)) (Uu (j8.1,14,31)) (default:Bool)) fun y9=>
     bif bif bif bif bif bif bif j8.1==34 then true else j8.1==39 then true else j8.1==40 then true else decide (j8.1<=8)then true else j8.1==11 then true else y9 then true else j8.1==127 then
      za (WC fu j8.2.1) fun y10=>
      some (LO.ret (y10.1,y10.2))
     else
      bif j8.1 != 92 then
       za (Qc (wu8 j8.1)) fun y11=>
       need (Zo j8.2.2.2.length 1 1)<|
       some (LO.again ((⟨j8.2.1.s,w64 (j8.2.1.at_+1)⟩:zb),j8.2.2.1,j8.2.2.2++[y11]))
      else
       za (Z5 (0,j8.2.1)) fun y12=>
       bif y12 then
        za (qY fu (j8.2.1,j8.2.2.2)) fun y13=>
        some (LO.again (y13.1,j8.2.2.1,y13.2))
       else
        za (WC fu j8.2.1) fun y14=>
        some (LO.ret (y14.1,y14.2)):zb×zk×List UInt8->Option (LO (zb×zk×List UInt8) (Unit) _)) (y1,(⟨0,[],0,[],false⟩:zk),[]) fun o15=>
 none
def EP(fu:Nat)(x:zb):Option (zk×zb):=
 za (QB fu x) fun y1=>
 za (zB (0,y1.2)) fun y2=>
 bif y2 != 40 then
  some ((⟨1,y1.1,0,[],false⟩:zk),y1.2)
 else
  zW (X:=zb×zk) (
    za (QM fu (y1.1,[117,114,108])) fun y3=>
    bif y3 then
     za (Qf fu (⟨y1.2.s,w64 (y1.2.at_+1)⟩:zb)) fun y4=>
     za (zB (0,y4)) fun y5=>
     bif bif y5 != 34 then y5 != 39 else false then
      za (uO fu (⟨y1.2.s,w64 (y1.2.at_+1)⟩:zb)) fun y6=>
      some (LX.ret (y6.1,y6.2))
     else
      some (LX.out ((⟨y1.2.s,w64 (y1.2.at_+1)⟩:zb),(⟨0,[],0,[],false⟩:zk)))
    else
     some (LX.out ((⟨y1.2.s,w64 (y1.2.at_+1)⟩:zb),(⟨0,[],0,[],false⟩:zk)))) fun j7=>
  some ((⟨2,y1.1,0,[],false⟩:zk),j7.1)
def xO(fu:Nat)(x:zb):Option (zk×zb):=
 za (zB (0,x)) fun y1=>
 need (decide (0<=x.at_)&&decide (x.at_<=(x.s.length:Int)))<|
 za (yo y1) fun y2=>
 bif y2 then
  za (Qf fu x) fun y3=>
  some ((⟨13,[],0,[],false⟩:zk),y3)
 else
  bif bif y1==34 then true else y1==39 then
   za (NP fu x) fun y4=>
   some (y4.1,y4.2)
  else
   za (zA (y1==35) (zB (1,x)) (default:Int)) fun y5=>
   za (zA (y1==35) (WG y5) (default:Bool)) fun y6=>
   za (zA (!y6&&y1==35) (Z5 (1,x)) (default:Bool)) fun y7=>
   bif bif y1==35 then bif y6 then true else y7 else false then
    za (QX (1,x)) fun y8=>
    za (QB fu (⟨x.s,w64 (x.at_+1)⟩:zb)) fun y9=>
    some ((⟨4,y9.1,0,[],y8⟩:zk),y9.2)
   else
    za (CP x) fun y10=>
    bif y10 then
     za (XP fu x) fun y11=>
     some (y11.1,y11.2)
    else
     za (strings_HasPrefix (List.drop x.at_.toNat x.s,[45,45,62])) fun y12=>
     bif y12 then
      some ((⟨15,[],0,[],false⟩:zk),(⟨x.s,w64 (x.at_+3)⟩:zb))
     else
      za (strings_HasPrefix (List.drop x.at_.toNat x.s,[60,33,45,45])) fun y13=>
      bif y13 then
       some ((⟨14,[],0,[],false⟩:zk),(⟨x.s,w64 (x.at_+4)⟩:zb))
      else
       za (zA (y1==64) (QX (1,x)) (default:Bool)) fun y14=>
       bif bif y1==64 then y14 else false then
        za (QB fu (⟨x.s,w64 (x.at_+1)⟩:zb)) fun y15=>
        some ((⟨3,y15.1,0,[],false⟩:zk),y15.2)
       else
        za (QX (0,x)) fun y16=>
        bif y16 then
         za (EP fu x) fun y17=>
         some (y17.1,y17.2)
        else
         za (strings_IndexByte ([58,59,44,91,93,40,41,123,125],wu8 y1)) fun y18=>
         bif decide (y18>=0)then
          some ((⟨wu8 (16+wu8 y18),[],0,[],false⟩:zk),(⟨x.s,w64 (x.at_+1)⟩:zb))
         else
          need (decide (1<=((List.drop x.at_.toNat x.s).length:Int)))<|
          some ((⟨9,List.take 1 (List.drop x.at_.toNat x.s),0,[],false⟩:zk),(⟨x.s,w64 (x.at_+1)⟩:zb))
def PO(x:(zk×Int×Int)×List zk):Option (List zk):=
 need (Zo x.2.length 1 56)<|
 some (x.2++[x.1.1])
def TM(fu:Nat)(x:Str):Option (Int×List zk):=
 za (RD x) fun y1=>
 bif y1.2 != 0 then
  some (y1.2,[])
 else
  za (MI fu (⟨y1.1,0⟩:zb)) fun y2=>
  ZH fu (fun(s3:Int×List zk×zb)=>
    bif decide (s3.2.2.at_<(y1.1.length:Int))then
     bif decide (w64 (s3.1+1)>1500)then
      some (LO.ret (4,s3.2.1))
     else
      za (xO fu s3.2.2) fun y4=>
      za (PO ((y4.1,s3.2.2.at_,y4.2.at_),s3.2.1)) fun y5=>
      za (MI fu y4.2) fun y6=>
      some (LO.again (w64 (s3.1+1),y5,y6))
    else
     some (LO.out (s3.2.1,s3.2.2)):Int×List zk×zb->Option (LO (Int×List zk×zb) (List zk×zb) _)) (0,[],y2) fun o7=>
  some (0,o7.1)
def nA(fu:Nat)(x:Str):Option (List zk×Int):=
 za (TM fu x) fun y1=>
 bif y1.1 != 0 then
  some ([],y1.1)
 else
  some (y1.2,0)
def eF(x:List ze):Option Int:=
 bif (x.length:Int)==0 then
  some 0
 else
  za (geti x 0) fun y1=>
  some y1.token.kind
def yO(fu:Nat)(x:Int×List UInt8):Option Int:=
 ZH fu (fun(s1:Int)=>
   bif decide (s1<(x.2.length:Int))then
    need (decide (0<=s1)&&decide (s1<(x.2.length:Int)))<|
    za x.2[s1.toNat]? fun y2=>
    bif x.1==(y2.toNat:Int)then
     some (LO.ret s1)
    else
     some (LO.again (w64 (s1+1)))
   else
    some (LO.out ()):Int->Option (LO (Int) (Unit) _)) 0 fun o3=>
 some (-1)
def dP(fu:Nat)(x:Int×List UInt8):Option Bool:=
 za (yO fu (x.1,x.2)) fun y1=>
 some (decide (y1>=0))
def pM(fu:Nat)(x:ze×List UInt8):Option Bool:=
 za (dP fu (x.1.token.kind,x.2)) fun y1=>
 some y1
def uP(fu:Nat)(x:List ze×List UInt8):Option Int:=
 ZH fu (fun(s1:Int)=>
   bif decide (s1<(x.1.length:Int))then
    za (geti x.1 s1) fun y2=>
    za (pM fu ((⟨y2.token,y2.list⟩:ze),x.2)) fun y3=>
    bif y3 then
     some (LO.ret s1)
    else
     some (LO.again (w64 (s1+1)))
   else
    some (LO.out ()):Int->Option (LO (Int) (Unit) _)) 0 fun o4=>
 some (-1)
def RL(fu:Nat)(x:List ze×List UInt8):Option (List ze×List ze):=
 za (uP fu (x.1,x.2)) fun y1=>
 bif decide (y1<0)then
  some (x.1,[])
 else
  need (decide (0<=y1)&&decide (y1<=(x.1.length:Int)))<|
  need (decide (0<=y1)&&decide (y1<=(x.1.length:Int)))<|
  some (List.take y1.toNat x.1,List.drop y1.toNat x.1)
def Zv(x:Int×zt):Option zk:=
 bif decide (w64 (x.2.at_+x.1)<(x.2.v.length:Int))then
  za (geti x.2.v (w64 (x.2.at_+x.1))) fun y1=>
  some y1.token
 else
  some (⟨0,[],0,[],false⟩:zk)
def Zw(fu:Nat)(x:zt):Option (Bool×zt):=
 ZH fu (fun(s1:zt)=>
   za (Zv (0,s1)) fun y2=>
   bif y2.kind==13 then
    some (LO.again (⟨s1.v,w64 (s1.at_+1)⟩:zt))
   else
    some (LO.out s1):zt->Option (LO (zt) (zt) _)) x fun o3=>
 some (decide (o3.at_>x.at_),o3)
def Qz(x:Str×zt):Option (Bool×zt):=
 za (Zv (0,x.2)) fun y1=>
 bif bif y1.kind != 9 then true else !(y1.text==x.1)then
  some (false,x.2)
 else
  some (true,(⟨x.2.v,w64 (x.2.at_+1)⟩:zt))
def DI(fu:Nat)(x:zt):Option (Int×zt):=
 ZH fu (fun(s1:Int×zt)=>
   bif decide (s1.1<3)then
    need (decide (0<=s1.1)&&(decide (s1.1<=w64 (s1.1+1))&&decide (w64 (s1.1+1)<=3)))<|
    za (Qz (List.drop s1.1.toNat (List.take (w64 (s1.1+1)).toNat ([62,43,126]:Str)),s1.2)) fun y2=>
    bif y2.1 then
     za (Zw fu y2.2) fun y3=>
     some (LO.ret (wu8 (2+wu8 s1.1),y3.2))
    else
     some (LO.again (w64 (s1.1+1),y2.2))
   else
    some (LO.out s1.2):Int×zt->Option (LO (Int×zt) (zt) _)) (0,x) fun o4=>
 some (0,o4)
def tH(x:Int×zt):Option (List ze):=
 za (geti x.2.v (w64 (x.2.at_+x.1))) fun y1=>
 some y1.list
def QA(x:zt):Option Bool:=
 some (x.at_==(x.v.length:Int))
def KM(fu:Nat)(x:List ze):Option (zw×Bool):=
 za (Zw fu (⟨x,0⟩:zt)) fun y1=>
 za (Zv (0,y1.2)) fun y2=>
 za (Z6 fu y2.text) fun y3=>
 za (Zv (0,y1.2)) fun y4=>
 bif y4.kind != 1 then
  some ((⟨3,y3,0,[],false,(⟨0,0⟩:VAnb),false,[]⟩:zw),false)
 else
  za (Zw fu (⟨y1.2.v,w64 (y1.2.at_+1)⟩:zt)) fun y5=>
  za (QA y5.2) fun y6=>
  bif y6 then
   some ((⟨3,y3,0,[],false,(⟨0,0⟩:VAnb),false,[]⟩:zw),true)
  else
   zW (X:=(Int×Str×Int×Str×Bool×Int×Int×Bool)×zt×(Int×Str×Int×Str×Bool×Int×Int×Bool)) (
     za (Qz ([61],y5.2)) fun y7=>
     bif y7.1 then
      some (LX.out ((0,[],0,[],false,0,0,false),y7.2,(3,y3,1,[],false,0,0,false)))
     else
      za (Zv (0,y7.2)) fun y8=>
      za (om ([126,124,94,36,42],y8.text)) fun y9=>
      bif bif y8.kind != 9 then true else decide (y9<0)then
       some (LX.ret ((⟨3,y3,0,[],false,(⟨0,0⟩:VAnb),false,[]⟩:zw),false))
      else
       za (Qz ([61],(⟨y7.2.v,w64 (y7.2.at_+1)⟩:zt))) fun y10=>
       bif !y10.1 then
        some (LX.ret ((⟨3,y3,0,[],false,(⟨0,0⟩:VAnb),false,[]⟩:zw),false))
       else
        some (LX.out ((0,[],0,[],false,0,0,false),y10.2,(3,y3,wu8 (2+wu8 y9),[],false,0,0,false)))) fun j11=>
   za (Zw fu j11.2.1) fun y12=>
   za (Zv (0,y12.2)) fun y13=>
   bif bif y13.kind != 1 then y13.kind != 5 else false then
    some ((⟨j11.2.2.1,j11.2.2.2.1,j11.2.2.2.2.1,j11.2.2.2.2.2.1,j11.2.2.2.2.2.2.1,(⟨j11.2.2.2.2.2.2.2.1,j11.2.2.2.2.2.2.2.2.1⟩:VAnb),j11.2.2.2.2.2.2.2.2.2,[]⟩:zw),false)
   else
    za (Zw fu (⟨y12.2.v,w64 (y12.2.at_+1)⟩:zt)) fun y14=>
    za (Zv (0,y14.2)) fun y15=>
    bif y15.kind==1 then
     za (Zw fu (⟨y14.2.v,w64 (y14.2.at_+1)⟩:zt)) fun y16=>
     za (QM fu (y15.text,[105])) fun y17=>
     za (QA y16.2) fun y18=>
     za (zA (!y17&&y18) (QM fu (y15.text,[115])) (default:Bool)) fun y19=>
     some ((⟨j11.2.2.1,j11.2.2.2.1,j11.2.2.2.2.1,y13.text,y17,(⟨j11.2.2.2.2.2.2.2.1,j11.2.2.2.2.2.2.2.2.1⟩:VAnb),j11.2.2.2.2.2.2.2.2.2,[]⟩:zw),bif y18 then bif y17 then true else y19 else false)
    else
     za (QA y14.2) fun y20=>
     some ((⟨j11.2.2.1,j11.2.2.2.1,j11.2.2.2.2.1,y13.text,j11.2.2.2.2.2.2.1,(⟨j11.2.2.2.2.2.2.2.1,j11.2.2.2.2.2.2.2.2.1⟩:VAnb),j11.2.2.2.2.2.2.2.2.2,[]⟩:zw),y20)
def mG(x:Unit):Option (List Str):=
 some [[108,105,110,107],[118,105,115,105,116,101,100],[97,110,121,45,108,105,110,107],[114,111,111,116],[101,109,112,116,121],[110,116,104,45,99,104,105,108,100],[110,116,104,45,108,97,115,116,45,99,104,105,108,100],[105,115],[119,104,101,114,101],[110,111,116],[104,97,115]]
def JM(fu:Nat)(x:Str):Option (zw×Bool):=
 za (Z6 fu x) fun y1=>
 bif y1==[102,105,114,115,116,45,99,104,105,108,100]then
  some ((⟨9,[],0,[],false,(⟨0,1⟩:VAnb),false,[]⟩:zw),true)
 else
  bif y1==[108,97,115,116,45,99,104,105,108,100]then
   some ((⟨10,[],0,[],false,(⟨0,1⟩:VAnb),false,[]⟩:zw),true)
  else
   za (mG ()) fun y2=>
   za (Z6 fu x) fun y3=>
   za (oC fu (y2,y3)) fun y4=>
   some ((⟨wu8 (4+wu8 (if 0>y4 then 0 else y4)),[],0,[],false,(⟨0,0⟩:VAnb),false,[]⟩:zw),bif decide (y4>=0)then decide (y4<5)else false)
def sM(fu:Nat)(x:ze):Option Bool:=
 za (zA (x.token.kind==1) (QM fu (x.token.text,[111,102])) (default:Bool)) fun y1=>
 some (bif x.token.kind==1 then y1 else false)
def sP(fu:Nat)(x:List ze):Option Int:=
 ZH fu (fun(s1:Int)=>
   bif decide (s1<(x.length:Int))then
    za (geti x s1) fun y2=>
    za (sM fu (⟨y2.token,y2.list⟩:ze)) fun y3=>
    bif y3 then
     some (LO.ret s1)
    else
     some (LO.again (w64 (s1+1)))
   else
    some (LO.out ()):Int->Option (LO (Int) (Unit) _)) 0 fun o4=>
 some (-1)
def YL(fu:Nat)(zQ:List ze×zg×Bool×Bool->Option (List zf×Bool))(x:zw×List ze×zg):Option (zw×Bool):=
 za (sP fu x.2.1) fun y1=>
 zW (X:=List ze×zw×(Int×Str×Int×Str×Bool×Int×Int×Bool)) (
   bif decide (y1>=0)then
    za (Qa (x.2.2,x.1.kind)) fun y2=>
    need (decide (0<=w64 (y1+1))&&decide (w64 (y1+1)<=(x.2.1.length:Int)))<|
    za (zQ (List.drop (w64 (y1+1)).toNat x.2.1,y2.1,false,false)) fun y3=>
    bif bif !y2.2 then true else !y3.2 then
     some (LX.ret ((⟨x.1.kind,x.1.name,x.1.op,x.1.value,x.1.fold,x.1.anb,x.1.of_,x.1.list⟩:zw),false))
    else
     need (decide (0<=y1)&&decide (y1<=(x.2.1.length:Int)))<|
     some (LX.out (List.take y1.toNat x.2.1,(⟨x.1.kind,x.1.name,x.1.op,x.1.value,x.1.fold,x.1.anb,true,y3.1⟩:zw),(0,[],0,[],false,0,0,false)))
   else
    some (LX.out (x.2.1,(⟨x.1.kind,x.1.name,x.1.op,x.1.value,x.1.fold,x.1.anb,x.1.of_,x.1.list⟩:zw),(0,[],0,[],false,0,0,false)))) fun j4=>
 za (aF fu j4.1) fun y5=>
 bif y5.2 != 0 then
  some ((⟨j4.2.1.kind,j4.2.1.name,j4.2.1.op,j4.2.1.value,j4.2.1.fold,j4.2.1.anb,j4.2.1.of_,j4.2.1.list⟩:zw),false)
 else
  za (VS y5.1) fun y6=>
  some ((⟨j4.2.1.kind,j4.2.1.name,j4.2.1.op,j4.2.1.value,j4.2.1.fold,y6.1,j4.2.1.of_,j4.2.1.list⟩:zw),y6.2==0)
def pO(fu:Nat)(zQ:List ze×zg×Bool×Bool->Option (List zf×Bool))(x:Str×List ze×zg):Option (zw×Bool):=
 za (mG ()) fun y1=>
 za (Z6 fu x.1) fun y2=>
 za (oC fu (y1,y2)) fun y3=>
 bif decide (y3<5)then
  some ((⟨0,[],0,[],false,(⟨0,0⟩:VAnb),false,[]⟩:zw),false)
 else
  bif decide (wu8 (4+wu8 y3)<=10)then
   za (YL fu zQ ((⟨wu8 (4+wu8 y3),[],0,[],false,(⟨0,0⟩:VAnb),false,[]⟩:zw),x.2.1,x.2.2)) fun y4=>
   some ((⟨y4.1.kind,y4.1.name,y4.1.op,y4.1.value,y4.1.fold,y4.1.anb,y4.1.of_,y4.1.list⟩:zw),y4.2)
  else
   za (Qa (x.2.2,wu8 (4+wu8 y3))) fun y5=>
   bif !y5.2 then
    some ((⟨wu8 (4+wu8 y3),[],0,[],false,(⟨0,0⟩:VAnb),false,[]⟩:zw),false)
   else
    za (zQ (x.2.1,y5.1,wu8 (4+wu8 y3)==14,decide (wu8 (4+wu8 y3)<=12))) fun y6=>
    some ((⟨wu8 (4+wu8 y3),[],0,[],false,(⟨0,0⟩:VAnb),false,y6.1⟩:zw),y6.2)
def WP(fu:Nat)(zQ:List ze×zg×Bool×Bool->Option (List zf×Bool))(x:zg×zt):Option ((List zw×Bool)×zt):=
 ZH fu (fun(s1:zt×List zw)=>
   za (Zv (1,s1.1)) fun y2=>
   zW (X:=Bool×zt×List zw×zw) (
     za (Zv (0,s1.1)) fun y3=>
     bif y3.kind==4 then
      some (LX.out (y3.flag,(⟨s1.1.v,w64 (s1.1.at_+1)⟩:zt),s1.2,(⟨1,y3.text,0,[],false,(⟨0,0⟩:VAnb),false,[]⟩:zw)))
     else
      bif bif y3.kind==9 then y3.text==[46]else false then
       some (LX.out (y2.kind==1,(⟨s1.1.v,w64 (s1.1.at_+2)⟩:zt),s1.2,(⟨2,y2.text,0,[],false,(⟨0,0⟩:VAnb),false,[]⟩:zw)))
      else
       bif y3.kind==19 then
        za (tH (0,s1.1)) fun y4=>
        za (KM fu y4) fun y5=>
        some (LX.out (y5.2,(⟨s1.1.v,w64 (s1.1.at_+1)⟩:zt),s1.2,(⟨y5.1.kind,y5.1.name,y5.1.op,y5.1.value,y5.1.fold,y5.1.anb,y5.1.of_,y5.1.list⟩:zw)))
       else
        bif y3.kind==16 then
         zW (X:=Bool×zt×zw) (
           bif y2.kind==1 then
            za (JM fu y2.text) fun y6=>
            some (LX.out (y6.2,s1.1,(⟨y6.1.kind,y6.1.name,y6.1.op,y6.1.value,y6.1.fold,y6.1.anb,y6.1.of_,y6.1.list⟩:zw)))
           else
            bif y2.kind==2 then
             za (tH (1,s1.1)) fun y7=>
             za (pO fu zQ (y2.text,y7,x.1)) fun y8=>
             some (LX.out (y8.2,s1.1,(⟨y8.1.kind,y8.1.name,y8.1.op,y8.1.value,y8.1.fold,y8.1.anb,y8.1.of_,y8.1.list⟩:zw)))
            else
             some (LX.out (false,s1.1,(⟨0,[],0,[],false,(⟨0,0⟩:VAnb),false,[]⟩:zw)))) fun j9=>
         some (LX.out (j9.1,(⟨j9.2.1.v,w64 (j9.2.1.at_+2)⟩:zt),s1.2,(⟨j9.2.2.kind,j9.2.2.name,j9.2.2.op,j9.2.2.value,j9.2.2.fold,j9.2.2.anb,j9.2.2.of_,j9.2.2.list⟩:zw)))
        else
         some (LX.ret (LO.ret ((s1.2,true),s1.1)))) fun j10=>
   bif !j10.1 then
    some (LO.ret (([],false),j10.2.1))
   else
    need (Zo j10.2.2.1.length 1 104)<|
    some (LO.again (j10.2.1,j10.2.2.1++[(⟨j10.2.2.2.kind,j10.2.2.2.name,j10.2.2.2.op,j10.2.2.2.value,j10.2.2.2.fold,j10.2.2.2.anb,j10.2.2.2.of_,j10.2.2.2.list⟩:zw)])):zt×List zw->Option (LO (zt×List zw) (Unit) _)) (x.2,[]) fun o11=>
 none
def wO(fu:Nat)(zQ:List ze×zg×Bool×Bool->Option (List zf×Bool))(x:List ze×zg×Bool):Option (zf×Bool):=
 za (Zw fu (⟨x.1,0⟩:zt)) fun y1=>
 zW (X:=Int×zt×Int) (
   bif x.2.2 then
    za (DI fu y1.2) fun y2=>
    bif y2.1==0 then
     some (LX.out (0,y2.2,1))
    else
     some (LX.out (0,y2.2,y2.1))
   else
    some (LX.out (0,y1.2,0))) fun j3=>
 zW (X:=Int×zt×Int) (
   some (LX.out (j3.1,j3.2.1,j3.2.2))) fun j4=>
 ZH fu (fun(s5:Int×zt×Int×List zI×List UInt8)=>
   zW (X:=Int×zt×Int×List zI×List UInt8×Str) (
     za (Zv (0,s5.2.1)) fun y6=>
     bif y6.kind==1 then
      za (Z6 fu y6.text) fun y7=>
      some (LX.out (s5.1,(⟨s5.2.1.v,w64 (s5.2.1.at_+1)⟩:zt),s5.2.2.1,s5.2.2.2.1,s5.2.2.2.2,y7))
     else
      za (Qz ([42],s5.2.1)) fun y8=>
      bif y8.1 then
       some (LX.out (s5.1,y8.2,s5.2.2.1,s5.2.2.2.1,s5.2.2.2.2,[42]))
      else
       some (LX.out (s5.1,y8.2,s5.2.2.1,s5.2.2.2.1,s5.2.2.2.2,[]))) fun j9=>
   za (WP fu zQ (x.2.1,j9.2.1)) fun y10=>
   za (zA (!(!y10.1.2)) (dH fu (zy fu) ((⟨j9.2.2.2.2.2,y10.1.1⟩:zI),x.2.1)) (default:Bool)) fun y11=>
   bif bif !y10.1.2 then true else !y11 then
    some (LO.ret ((⟨j9.2.2.1,j9.2.2.2.1,j9.2.2.2.2.1⟩:zf),false))
   else
    need (Zo j9.2.2.2.1.length 1 40)<|
    za (Zw fu y10.2) fun y12=>
    za (QA y12.2) fun y13=>
    bif y13 then
     some (LO.out (j9.1,y12.2,j9.2.2.1,j9.2.2.2.1++[(⟨j9.2.2.2.2.2,y10.1.1⟩:zI)],j9.2.2.2.2.1))
    else
     za (DI fu y12.2) fun y14=>
     zW (X:=Int×Int×Int×List zI×List UInt8) (
       bif bif y14.1==0 then !y12.1 else false then
        some (LX.ret (LO.ret ((⟨j9.2.2.1,j9.2.2.2.1++[(⟨j9.2.2.2.2.2,y10.1.1⟩:zI)],j9.2.2.2.2.1⟩:zf),false)))
       else
        bif y14.1==0 then
         some (LX.out (1,j9.1,j9.2.2.1,j9.2.2.2.1++[(⟨j9.2.2.2.2.2,y10.1.1⟩:zI)],j9.2.2.2.2.1))
        else
         some (LX.out (y14.1,j9.1,j9.2.2.1,j9.2.2.2.1++[(⟨j9.2.2.2.2.2,y10.1.1⟩:zI)],j9.2.2.2.2.1))) fun j15=>
     za (Qc j15.1) fun y16=>
     need (Zo j15.2.2.2.2.length 1 1)<|
     some (LO.again (j15.2.1,y14.2,j15.2.2.1,j15.2.2.2.1,j15.2.2.2.2++[y16])):Int×zt×Int×List zI×List UInt8->Option (LO (Int×zt×Int×List zI×List UInt8) (Int×zt×Int×List zI×List UInt8) _)) (j4.1,j4.2.1,j4.2.2,[],[]) fun o17=>
 some ((⟨o17.2.2.1,o17.2.2.2.1,o17.2.2.2.2⟩:zf),decide ((o17.2.2.2.1.length:Int)<=64))
def VH(fu:Nat)(zQ:List ze×zg×Bool×Bool->Option (List zf×Bool))(x:List ze×zg×Bool×Bool):Option (List zf×Bool):=
 ZH fu (fun(s1:(Int×Int)×List zf)=>
   bif decide (s1.1.2<w64 ((x.1.length:Int)+1))then
    zW (X:=(Int×Int)×List zf) (
      za (zA (decide (s1.1.2<(x.1.length:Int))) (geti x.1 s1.1.2) (default:ze)) fun y2=>
      bif bif decide (s1.1.2<(x.1.length:Int))then y2.token.kind != 18 else false then
       some (LX.out ((s1.1.1,s1.1.2),s1.2))
      else
       zW (X:=List zf) (
         need (decide (0<=s1.1.1)&&(decide (s1.1.1<=s1.1.2)&&decide (s1.1.2<=(x.1.length:Int))))<|
         za (wO fu zQ (List.drop s1.1.1.toNat (List.take s1.1.2.toNat x.1),x.2.1,x.2.2.1)) fun y3=>
         bif y3.2 then
          need (Zo s1.2.length 1 56)<|
          some (LX.out (s1.2++[(⟨y3.1.lead,y3.1.parts,y3.1.combs⟩:zf)]))
         else
          bif !x.2.2.2 then
           some (LX.ret (LX.ret (LO.ret ([],false))))
          else
           some (LX.out s1.2)) fun j4=>
       some (LX.out ((w64 (s1.1.2+1),s1.1.2),j4))) fun j5=>
    some (LO.again ((j5.1.1,w64 (j5.1.2+1)),j5.2))
   else
    some (LO.out s1.2):(Int×Int)×List zf->Option (LO ((Int×Int)×List zf) (List zf) _)) ((0,0),[]) fun o6=>
 some (o6,true)
def zQ(fu:Nat):List ze×zg×Bool×Bool->Option (List zf×Bool):=Re (VH fu) fu
def uK(fu:Nat)(x:List ze):Option (List zf×Int):=
 za (Xk fu x) fun y1=>
 bif y1 != 0 then
  some ([],y1)
 else
  za (zQ fu (x,(⟨0,false⟩:zg),false,false)) fun y2=>
  bif !y2.2 then
   some ([],12)
  else
   za (qL fu y2.1) fun y3=>
   bif decide (y3>64)then
    some ([],4)
   else
    some (y2.1,0)
def PP(fu:Nat)(x:List ze):Option (List ze):=
 bif x.isEmpty then
  both (
    some []) (
    need (Zo 0 x.length 80)<|
    some x)
 else
  need (Zo 0 x.length 80)<|
  some x
def rH(fu:Nat)(x:List ze):Option (List ze):=need (Zo 0 x.length 80) (some x)
theorem zkD(fu:Nat)(x):Le (rH fu x) (PP fu x):=by
 cases x with
 |nil=> intro y hy;show both (some []) (some [])=some y;unfold both;rw[Ya rfl];exact hy
 |cons a r=>exact .rfl
def NG(fu:Nat)(Ri:List ze->Option (List ze))(x:List ze):Option (List ze):=
 za (rH fu x) fun y1=>
 ZH fu (fun(s2:Int×List ze)=>
   bif decide (s2.1<(y1.length:Int))then
    need (decide (0<=s2.1)&&decide (s2.1<(s2.2.length:Int)))<|
    za s2.2[s2.1.toNat]? fun y3=>
    za (Ri y3.list) fun y4=>
    need (decide (0<=s2.1)&&decide (s2.1<(s2.2.length:Int)))<|
    za s2.2[s2.1.toNat]? fun y5=>
    some (LO.again (w64 (s2.1+1),List.set s2.2 s2.1.toNat (⟨y5.token,y4⟩:ze)))
   else
    some (LO.out s2.2):Int×List ze->Option (LO (Int×List ze) (List ze) _)) (0,y1) fun o6=>
 some o6
def Ri(fu:Nat):List ze->Option (List ze):=Re (NG fu) fu
def ky(fu:Nat)(x:List ze×Int):Option (List (List ze)×Int):=
 za (Xk fu x.1) fun y1=>
 bif y1 != 0 then
  some ([],y1)
 else
  bif bif decide (x.2<1)then true else decide (x.2>24)then
   some ([],2)
  else
   ZH fu (fun(s2:(Int×Int)×List (List ze))=>
     bif decide (s2.1.2<(x.1.length:Int))then
      zW (X:=(Int×Int)×List (List ze)) (
        za (geti x.1 s2.1.2) fun y3=>
        bif y3.token.kind==x.2 then
         need (decide (0<=s2.1.1)&&(decide (s2.1.1<=s2.1.2)&&(decide (s2.1.2<=s2.1.2)&&decide (s2.1.2<=(x.1.length:Int))))&&decide (s2.1.2=s2.1.2))<|
         za (Ri fu (List.drop s2.1.1.toNat (List.take s2.1.2.toNat x.1))) fun y4=>
         need (Zo s2.2.length 1 24)<|
         some (LX.out ((w64 (s2.1.2+1),s2.1.2),s2.2++[y4]))
        else
         some (LX.out ((s2.1.1,s2.1.2),s2.2))) fun j5=>
      some (LO.again ((j5.1.1,w64 (j5.1.2+1)),j5.2))
     else
      some (LO.out (s2.1.1,s2.2)):(Int×Int)×List (List ze)->Option (LO ((Int×Int)×List (List ze)) (Int×List (List ze)) _)) ((0,0),[]) fun o6=>
   need (decide (0<=o6.1)&&decide (o6.1<=(x.1.length:Int)))<|
   za (Ri fu (List.drop o6.1.toNat x.1)) fun y7=>
   need (Zo o6.2.length 1 24)<|
   some (o6.2++[y7],0)
def Vy(fu:Nat)(x:List ze):Option (List ze):=
 ZH fu (fun(s1:List ze)=>
   za (zA (decide ((s1.length:Int)>0)) (geti s1 0) (default:ze)) fun y2=>
   za (zA (decide ((s1.length:Int)>0)) (Qs ((⟨y2.token,y2.list⟩:ze),13)) (default:Bool)) fun y3=>
   bif bif decide ((s1.length:Int)>0)then y3 else false then
    need (decide (1<=(s1.length:Int)))<|
    some (LO.again (List.drop 1 s1))
   else
    some (LO.out s1):List ze->Option (LO (List ze) (List ze) _)) x fun o4=>
 some o4
def wy(fu:Nat)(x:List ze):Option (List ze):=
 ZH fu (fun(s1:List ze)=>
   za (zA (decide ((s1.length:Int)>0)) (geti s1 (w64 ((s1.length:Int) - 1))) (default:ze)) fun y2=>
   za (zA (decide ((s1.length:Int)>0)) (Qs ((⟨y2.token,y2.list⟩:ze),13)) (default:Bool)) fun y3=>
   bif bif decide ((s1.length:Int)>0)then y3 else false then
    need (decide (0<=w64 ((s1.length:Int) - 1))&&decide (w64 ((s1.length:Int) - 1)<=(s1.length:Int)))<|
    some (LO.again (List.take (w64 ((s1.length:Int) - 1)).toNat s1))
   else
    some (LO.out s1):List ze->Option (LO (List ze) (List ze) _)) x fun o4=>
 some o4
def wF(x:Int×List ze):Option Bool:=
 za (geti x.2 x.1) fun y1=>
 some (y1.token.kind==13)
def Ry(fu:Nat)(x:List ze):Option (List ze×Int):=
 za (Xk fu x) fun y1=>
 bif y1 != 0 then
  some ([],y1)
 else
  ZH fu (fun(s2:Int)=>
    za (zA (decide (s2<(x.length:Int))) (wF (s2,x)) (default:Bool)) fun y3=>
    bif bif decide (s2<(x.length:Int))then y3 else false then
     some (LO.again (w64 (s2+1)))
    else
     some (LO.out s2):Int->Option (LO (Int) (Int) _)) 0 fun o4=>
  ZH fu (fun(s5:Int)=>
    za (zA (decide (o4<s5)) (wF (w64 (s5 - 1),x)) (default:Bool)) fun y6=>
    bif bif decide (o4<s5)then y6 else false then
     some (LO.again (w64 (s5 - 1)))
    else
     some (LO.out s5):Int->Option (LO (Int) (Int) _)) (x.length:Int) fun o7=>
  need (decide (0<=o4)&&(decide (o4<=o7)&&(decide (o7<=o7)&&decide (o7<=(x.length:Int))))&&decide (o7=o7))<|
  za (Ri fu (List.drop o4.toNat (List.take o7.toNat x))) fun y8=>
  some (y8,0)
def RF(fu:Nat)(x:List ze):Option (Zd×Bool):=
 za (Vy fu x) fun y1=>
 za (wy fu y1) fun y2=>
 za (zA (!((y2.length:Int)==0)) (geti y2 0) (default:ze)) fun y3=>
 za (zA (!((y2.length:Int)==0)) (Qs ((⟨y3.token,y3.list⟩:ze),1)) (default:Bool)) fun y4=>
 bif bif (y2.length:Int)==0 then true else !y4 then
  some ((⟨[],[],false⟩:Zd),false)
 else
  za (geti y2 0) fun y5=>
  zW (X:=List ze×(Str×Bool)×(Str×Bool)) (
    za (strings_HasPrefix (y5.token.text,[45,45])) fun y6=>
    bif !y6 then
     za (Z6 fu y5.token.text) fun y7=>
     some (LX.out (y2,([],false),(y7,false)))
    else
     some (LX.out (y2,([],false),(y5.token.text,false)))) fun j8=>
  need (decide (1<=(j8.1.length:Int)))<|
  za (Vy fu (List.drop 1 j8.1)) fun y9=>
  za (zA (!((y9.length:Int)==0)) (geti y9 0) (default:ze)) fun y10=>
  za (zA (!((y9.length:Int)==0)) (Qs ((⟨y10.token,y10.list⟩:ze),16)) (default:Bool)) fun y11=>
  bif bif (y9.length:Int)==0 then true else !y11 then
   some ((⟨[],[],false⟩:Zd),false)
  else
   need (decide (1<=(y9.length:Int)))<|
   za (Vy fu (List.drop 1 y9)) fun y12=>
   zW (X:=List ze×(Str×Bool)×(Str×Bool)) (
     za (zA (decide (w64 ((y12.length:Int) - 1)>0)) (geti y12 (w64 ((y12.length:Int) - 1))) (default:ze)) fun y13=>
     za (zA (decide (w64 ((y12.length:Int) - 1)>0)) (Qs ((⟨y13.token,y13.list⟩:ze),1)) (default:Bool)) fun y14=>
     za (zA (bif decide (w64 ((y12.length:Int) - 1)>0)then y14 else false) (geti y12 (w64 ((y12.length:Int) - 1))) (default:ze)) fun y15=>
     za (zA (bif decide (w64 ((y12.length:Int) - 1)>0)then y14 else false) (QM fu (y15.token.text,[105,109,112,111,114,116,97,110,116])) (default:Bool)) fun y16=>
     bif bif bif decide (w64 ((y12.length:Int) - 1)>0)then y14 else false then y16 else false then
      need (decide (0<=w64 ((y12.length:Int) - 1))&&decide (w64 ((y12.length:Int) - 1)<=(y12.length:Int)))<|
      za (wy fu (List.take (w64 ((y12.length:Int) - 1)).toNat y12)) fun y17=>
      za (zA (decide ((y17.length:Int)>0)) (geti y17 (w64 ((y17.length:Int) - 1))) (default:ze)) fun y18=>
      za (zA (decide ((y17.length:Int)>0)) (Tx (⟨y18.token,y18.list⟩:ze)) (default:Bool)) fun y19=>
      bif bif decide ((y17.length:Int)>0)then y19 else false then
       need (decide (0<=w64 ((y17.length:Int) - 1))&&decide (w64 ((y17.length:Int) - 1)<=(y17.length:Int)))<|
       za (wy fu (List.take (w64 ((y17.length:Int) - 1)).toNat y17)) fun y20=>
       some (LX.out (y20,(j8.2.1.1,j8.2.1.2),(j8.2.2.1,true)))
      else
       some (LX.out (y12,(j8.2.1.1,j8.2.1.2),(j8.2.2.1,j8.2.2.2)))
     else
      some (LX.out (y12,(j8.2.1.1,j8.2.1.2),(j8.2.2.1,j8.2.2.2)))) fun j21=>
   za (Ry fu j21.1) fun y22=>
   za (zA (!(y22.2 != 0)) (xy fu (⟨j21.2.2.1,y22.1,j21.2.2.2⟩:Zd)) (default:Int)) fun y23=>
   bif bif y22.2 != 0 then true else y23 != 0 then
    some ((⟨[],[],false⟩:Zd),false)
   else
    some ((⟨j21.2.2.1,y22.1,j21.2.2.2⟩:Zd),true)
def bS(fu:Nat)(x:List ze):Option (List Zd×Int):=
 za (ky fu (x,17)) fun y1=>
 bif y1.2 != 0 then
  some ([],y1.2)
 else
  ZH fu (fun(s2:Int×List Zd)=>
    bif decide (s2.1<(y1.1.length:Int))then
     zW (X:=Int×List Zd) (
       za (geti y1.1 s2.1) fun y3=>
       za (RF fu y3) fun y4=>
       bif bif y4.2 then decide ((s2.2.length:Int)<32)else false then
        need (Zo s2.2.length 1 48)<|
        some (LX.out (s2.1,s2.2++[y4.1]))
       else
        some (LX.out (s2.1,s2.2))) fun j5=>
     some (LO.again (w64 (j5.1+1),j5.2))
    else
     some (LO.out s2.2):Int×List Zd->Option (LO (Int×List Zd) (List Zd) _)) (0,[]) fun o6=>
  some (o6,0)
def TL(fu:Nat)(x:List ze×List ze):Option (zK×Bool):=
 za (uK fu x.1) fun y1=>
 bif y1.2 != 0 then
  some ((⟨0,[],[],(⟨0,[],0,(⟨[],[],false⟩:Zd),[]⟩:zo),[],[]⟩:zK),false)
 else
  za (bS fu x.2) fun y2=>
  some ((⟨1,y1.1,y2.1,(⟨0,[],0,(⟨[],[],false⟩:Zd),[]⟩:zo),[],[]⟩:zK),y2.2==0)
def FQ(fu:Nat)(x:List Str):Option Int:=
 ZH fu (fun(s1:Int)=>
   bif decide (s1<(x.length:Int))then
    need (decide (0<=s1)&&decide (s1<(x.length:Int)))<|
    za x[s1.toNat]? fun y2=>
    za (Cq y2) fun y3=>
    bif y3 then
     some (LO.ret s1)
    else
     some (LO.again (w64 (s1+1)))
   else
    some (LO.out ()):Int->Option (LO (Int) (Unit) _)) 0 fun o4=>
 some (-1)
def LQ(fu:Nat)(x:List Str):Option Bool:=
 za (FQ fu x) fun y1=>
 some (decide (y1>=0))
def rM(fu:Nat)(x:List Str):Option Bool:=
 za (zA (bif decide ((x.length:Int)>0)then decide ((x.length:Int)<=16)else false) (LQ fu x) (default:Bool)) fun y1=>
 some (bif bif decide ((x.length:Int)>0)then decide ((x.length:Int)<=16)else false then !y1 else false)
def tK(fu:Nat)(x:List ze):Option (List Str×Bool):=
 za (Ry fu x) fun y1=>
 bif bif y1.2 != 0 then true else Int.tmod (y1.1.length:Int) 2==0 then
  some ([],false)
 else
  ZH fu (fun(s2:Int×List Str)=>
    bif decide (s2.1<(y1.1.length:Int))then
     zW (X:=Int×List Str) (
       za (geti y1.1 s2.1) fun y3=>
       bif Int.tmod s2.1 2==1 then
        bif bif y3.token.kind != 9 then true else !(y3.token.text==[46])then
         some (LX.ret (LO.ret ([],false)))
        else
         some (LX.out (s2.1,s2.2))
       else
        bif y3.token.kind != 1 then
         some (LX.ret (LO.ret ([],false)))
        else
         need (Zo s2.2.length 1 16)<|
         some (LX.out (s2.1,s2.2++[y3.token.text]))) fun j4=>
     some (LO.again (w64 (j4.1+1),j4.2))
    else
     some (LO.out s2.2):Int×List Str->Option (LO (Int×List Str) (List Str) _)) (0,[]) fun o5=>
  za (rM fu o5) fun y6=>
  some (o5,y6)
def SG(fu:Nat)(x:List ze×Bool):Option (zK×Bool):=
 za (ky fu (x.1,18)) fun y1=>
 bif bif y1.2 != 0 then true else decide ((y1.1.length:Int)>64)then
  some ((⟨0,[],[],(⟨0,[],0,(⟨[],[],false⟩:Zd),[]⟩:zo),[],[]⟩:zK),false)
 else
  zW (X:=(Int×Int×Str×Int×Str×Bool)×(Int×Int×Str×Int×Str×Bool)) (
    bif x.2 then
     za (Ry fu x.1) fun y2=>
     bif (y2.1.length:Int)==0 then
      some (LX.ret ((⟨4,[],[],(⟨0,[],0,(⟨[],[],false⟩:Zd),[]⟩:zo),[],[]⟩:zK),true))
     else
      some (LX.out ((0,0,[],0,[],false),(4,0,[],0,[],false)))
    else
     some (LX.out ((0,0,[],0,[],false),(5,0,[],0,[],false)))) fun j3=>
  ZH fu (fun(s4:Int×(Int×Int×Str×Int×Str×Bool)×(Int×Int×Str×Int×Str×Bool)×List (List Str))=>
    bif decide (s4.1<(y1.1.length:Int))then
     za (geti y1.1 s4.1) fun y5=>
     za (tK fu y5) fun y6=>
     bif !y6.2 then
      some (LO.ret ((⟨0,[],[],(⟨0,[],0,(⟨[],[],false⟩:Zd),[]⟩:zo),[],[]⟩:zK),false))
     else
      need (Zo s4.2.2.2.length 1 24)<|
      some (LO.again (w64 (s4.1+1),(s4.2.1.1,s4.2.1.2.1,s4.2.1.2.2.1,s4.2.1.2.2.2.1,s4.2.1.2.2.2.2.1,s4.2.1.2.2.2.2.2),(s4.2.2.1.1,s4.2.2.1.2.1,s4.2.2.1.2.2.1,s4.2.2.1.2.2.2.1,s4.2.2.1.2.2.2.2.1,s4.2.2.1.2.2.2.2.2),s4.2.2.2++[y6.1]))
    else
     some (LO.out ((s4.2.1.1,s4.2.1.2.1,s4.2.1.2.2.1,s4.2.1.2.2.2.1,s4.2.1.2.2.2.2.1,s4.2.1.2.2.2.2.2),(s4.2.2.1.1,s4.2.2.1.2.1,s4.2.2.1.2.2.1,s4.2.2.1.2.2.2.1,s4.2.2.1.2.2.2.2.1,s4.2.2.1.2.2.2.2.2),s4.2.2.2)):Int×(Int×Int×Str×Int×Str×Bool)×(Int×Int×Str×Int×Str×Bool)×List (List Str)->Option (LO (Int×(Int×Int×Str×Int×Str×Bool)×(Int×Int×Str×Int×Str×Bool)×List (List Str)) ((Int×Int×Str×Int×Str×Bool)×(Int×Int×Str×Int×Str×Bool)×List (List Str)) _)) (0,(j3.1.1,j3.1.2.1,j3.1.2.2.1,j3.1.2.2.2.1,j3.1.2.2.2.2.1,j3.1.2.2.2.2.2),(j3.2.1,j3.2.2.1,j3.2.2.2.1,j3.2.2.2.2.1,j3.2.2.2.2.2.1,j3.2.2.2.2.2.2),[]) fun o7=>
  some ((⟨o7.2.1.1,[],[],(⟨o7.2.1.2.1,o7.2.1.2.2.1,o7.2.1.2.2.2.1,(⟨o7.2.1.2.2.2.2.1,[],o7.2.1.2.2.2.2.2⟩:Zd),[]⟩:zo),o7.2.2,[]⟩:zK),bif !x.2 then true else(o7.2.2.length:Int)==1)
def qa(x:zx):Option Int:=
 bif (x.v.length:Int)==0 then
  some 0
 else
  za (geti x.v 0) fun y1=>
  some y1.token.kind
def qb(x:zx):Option (ze×zx):=
 za (geti x.v 0) fun y1=>
 need (decide (1<=(x.v.length:Int)))<|
 some ((⟨y1.token,y1.list⟩:ze),(⟨List.drop 1 x.v⟩:zx))
def Zb(fu:Nat)(x:zx):Option (Bool×zx):=
 ZH fu (fun(s1:zx)=>
   za (qa s1) fun y2=>
   bif y2==13 then
    za (qb s1) fun y3=>
    some (LO.again y3.2)
   else
    some (LO.out s1):zx->Option (LO (zx) (zx) _)) x fun o4=>
 some (decide ((o4.v.length:Int)<(x.v.length:Int)),o4)
def Qn(fu:Nat)(x:List Str×zx):Option (Str×zx):=
 ZH fu (fun(s1:Int×zx)=>
   bif decide (s1.1<(x.1.length:Int))then
    za (geti x.1 s1.1) fun y2=>
    za (qa s1.2) fun y3=>
    za (zA (y3==1) (geti s1.2.v 0) (default:ze)) fun y4=>
    za (zA (y3==1) (QM fu (y4.token.text,y2)) (default:Bool)) fun y5=>
    bif bif y3==1 then y5 else false then
     za (qb s1.2) fun y6=>
     some (LO.ret (y2,y6.2))
    else
     some (LO.again (w64 (s1.1+1),s1.2))
   else
    some (LO.out s1.2):Int×zx->Option (LO (Int×zx) (zx) _)) (0,x.2) fun o7=>
 some ([],o7)
def yH(fu:Nat)(x:zx):Option ((zo×Bool)×zx):=
 za (qa x) fun y1=>
 bif y1 != 21 then
  some (((⟨0,[],0,(⟨[],[],false⟩:Zd),[]⟩:zo),false),x)
 else
  za (qb x) fun y2=>
  za (Zb fu (⟨y2.1.list⟩:zx)) fun y3=>
  zW (X:=(Int×Str×Int×Str×Bool)×zx×(Int×Str×Int×Str×Bool)) (
    za (Qn fu ([[109,105,110,45,119,105,100,116,104],[109,97,120,45,119,105,100,116,104]],y3.2)) fun y4=>
    bif y4.1==[]then
     some (LX.ret (((⟨5,[],0,(⟨[],[],false⟩:Zd),[]⟩:zo),false),y2.2))
    else
     bif y4.1==[109,97,120,45,119,105,100,116,104]then
      some (LX.out ((0,[],0,[],false),y4.2,(6,[],0,[],false)))
     else
      some (LX.out ((0,[],0,[],false),y4.2,(5,[],0,[],false)))) fun j5=>
  za (Zb fu j5.2.1) fun y6=>
  za (qa y6.2) fun y7=>
  bif y7 != 16 then
   some (((⟨j5.2.2.1,j5.2.2.2.1,j5.2.2.2.2.1,(⟨j5.2.2.2.2.2.1,[],j5.2.2.2.2.2.2⟩:Zd),[]⟩:zo),false),y2.2)
  else
   za (qb y6.2) fun y8=>
   za (Zb fu y8.2) fun y9=>
   za (qa y9.2) fun y10=>
   za (zA (y10 != 12) (qa y9.2) (default:Int)) fun y11=>
   bif bif y10 != 12 then y11 != 10 else false then
    some (((⟨j5.2.2.1,j5.2.2.2.1,j5.2.2.2.2.1,(⟨j5.2.2.2.2.2.1,[],j5.2.2.2.2.2.2⟩:Zd),[]⟩:zo),false),y2.2)
   else
    za (qb y9.2) fun y12=>
    za (Zb fu y12.2) fun y13=>
    za (zA (y12.1.token.kind==12) (QM fu (y12.1.token.unit,[112,120])) (default:Bool)) fun y14=>
    za (zA (bif bif bif y12.1.token.kind==12 then y14 else false then true else bif y12.1.token.kind==10 then y12.1.token.num==0 else false then decide (y12.1.token.num>=0)else false) (PG fu y12.1.token.num) (default:Int)) fun y15=>
    some (((⟨j5.2.2.1,j5.2.2.2.1,y12.1.token.num,(⟨j5.2.2.2.2.2.1,[],j5.2.2.2.2.2.2⟩:Zd),[]⟩:zo),bif bif bif bif bif y12.1.token.kind==12 then y14 else false then true else bif y12.1.token.kind==10 then y12.1.token.num==0 else false then decide (y12.1.token.num>=0)else false then y15==0 else false then(y13.2.v.length:Int)==0 else false),y2.2)
def rO(fu:Nat)(x:zx):Option ((zo×Bool)×zx):=
 za (Zb fu x) fun y1=>
 za (Qn fu ([[110,111,116],[111,110,108,121]],y1.2)) fun y2=>
 za (Zb fu y2.2) fun y3=>
 zW (X:=zx×(Int×Str×Int×Str×Bool)×(Int×Str×Int×Str×Bool)×List zo) (
   za (qa y3.2) fun y4=>
   bif y4==1 then
    za (qb y3.2) fun y5=>
    za (Z6 fu y5.1.token.text) fun y6=>
    za (aG fu y6) fun y7=>
    bif !y7 then
     some (LX.ret (((⟨1,[],0,(⟨[],[],false⟩:Zd),[]⟩:zo),false),y5.2))
    else
     need (Zo 0 1 104)<|
     some (LX.out (y5.2,(0,[],0,[],false),(1,[],0,[],false),[(⟨4,y6,0,(⟨[],[],false⟩:Zd),[]⟩:zo)]))
   else
    za (yH fu y3.2) fun y8=>
    bif bif !y8.1.2 then true else !(y2.1==[])then
     some (LX.ret (((⟨1,[],0,(⟨[],[],false⟩:Zd),[]⟩:zo),false),y8.2))
    else
     need (Zo 0 1 104)<|
     some (LX.out (y8.2,(0,[],0,[],false),(1,[],0,[],false),[(⟨y8.1.1.kind,y8.1.1.name,y8.1.1.num,y8.1.1.decl,y8.1.1.list⟩:zo)]))) fun j9=>
 za (Zb fu j9.1) fun y10=>
 ZH fu (fun(s11:zx×(Int×Str×Int×Str×Bool)×(Int×Str×Int×Str×Bool)×List zo)=>
   bif decide ((s11.1.v.length:Int)>0)then
    za (Qn fu ([[97,110,100]],s11.1)) fun y12=>
    bif y12.1==[]then
     some (LO.ret (((⟨s11.2.2.1.1,s11.2.2.1.2.1,s11.2.2.1.2.2.1,(⟨s11.2.2.1.2.2.2.1,[],s11.2.2.1.2.2.2.2⟩:Zd),s11.2.2.2⟩:zo),false),y12.2))
    else
     za (Zb fu y12.2) fun y13=>
     za (yH fu y13.2) fun y14=>
     bif !y14.1.2 then
      some (LO.ret (((⟨s11.2.2.1.1,s11.2.2.1.2.1,s11.2.2.1.2.2.1,(⟨s11.2.2.1.2.2.2.1,[],s11.2.2.1.2.2.2.2⟩:Zd),s11.2.2.2⟩:zo),false),y14.2))
     else
      need (Zo s11.2.2.2.length 1 104)<|
      za (Zb fu y14.2) fun y15=>
      some (LO.again (y15.2,(s11.2.1.1,s11.2.1.2.1,s11.2.1.2.2.1,s11.2.1.2.2.2.1,s11.2.1.2.2.2.2),(s11.2.2.1.1,s11.2.2.1.2.1,s11.2.2.1.2.2.1,s11.2.2.1.2.2.2.1,s11.2.2.1.2.2.2.2),s11.2.2.2++[(⟨y14.1.1.kind,y14.1.1.name,y14.1.1.num,y14.1.1.decl,y14.1.1.list⟩:zo)]))
   else
    some (LO.out (s11.1,(s11.2.1.1,s11.2.1.2.1,s11.2.1.2.2.1,s11.2.1.2.2.2.1,s11.2.1.2.2.2.2),(s11.2.2.1.1,s11.2.2.1.2.1,s11.2.2.1.2.2.1,s11.2.2.1.2.2.2.1,s11.2.2.1.2.2.2.2),s11.2.2.2)):zx×(Int×Str×Int×Str×Bool)×(Int×Str×Int×Str×Bool)×List zo->Option (LO (zx×(Int×Str×Int×Str×Bool)×(Int×Str×Int×Str×Bool)×List zo) (zx×(Int×Str×Int×Str×Bool)×(Int×Str×Int×Str×Bool)×List zo) _)) (y10.2,(j9.2.1.1,j9.2.1.2.1,j9.2.1.2.2.1,j9.2.1.2.2.2.1,j9.2.1.2.2.2.2),(j9.2.2.1.1,j9.2.2.1.2.1,j9.2.2.1.2.2.1,j9.2.2.1.2.2.2.1,j9.2.2.1.2.2.2.2),j9.2.2.2) fun o16=>
 zW (X:=(Int×Str×Int×Str×Bool)×(Int×Str×Int×Str×Bool×List zo)) (
   bif y2.1==[110,111,116]then
    some (LX.out ((o16.2.1.1,o16.2.1.2.1,o16.2.1.2.2.1,o16.2.1.2.2.2.1,o16.2.1.2.2.2.2),(3,[],0,[],false,[(⟨o16.2.2.1.1,o16.2.2.1.2.1,o16.2.2.1.2.2.1,(⟨o16.2.2.1.2.2.2.1,[],o16.2.2.1.2.2.2.2⟩:Zd),o16.2.2.2⟩:zo)])))
   else
    some (LX.out ((o16.2.1.1,o16.2.1.2.1,o16.2.1.2.2.1,o16.2.1.2.2.2.1,o16.2.1.2.2.2.2),(o16.2.2.1.1,o16.2.2.1.2.1,o16.2.2.1.2.2.1,o16.2.2.1.2.2.2.1,o16.2.2.1.2.2.2.2,o16.2.2.2)))) fun j17=>
 some (((⟨j17.2.1,j17.2.2.1,j17.2.2.2.1,(⟨j17.2.2.2.2.1,[],j17.2.2.2.2.2.1⟩:Zd),j17.2.2.2.2.2.2⟩:zo),true),o16.1)
def IG(fu:Nat)(x:List ze):Option (zo×Int):=
 za (ky fu (x,18)) fun y1=>
 bif y1.2 != 0 then
  some ((⟨0,[],0,(⟨[],[],false⟩:Zd),[]⟩:zo),y1.2)
 else
  zW (X:=Int×Str×Int×Str×Bool) (
    bif (y1.1.length:Int)==1 then
     za (Zb fu (⟨x⟩:zx)) fun y2=>
     bif (y2.2.v.length:Int)==0 then
      some (LX.ret ((⟨1,[],0,(⟨[],[],false⟩:Zd),[]⟩:zo),0))
     else
      some (LX.out (0,[],0,[],false))
    else
     some (LX.out (0,[],0,[],false))) fun j3=>
  bif decide ((y1.1.length:Int)>64)then
   some ((⟨0,[],0,(⟨[],[],false⟩:Zd),[]⟩:zo),4)
  else
   ZH fu (fun(s4:Int×(Int×Str×Int×Str×Bool)×List zo)=>
     bif decide (s4.1<(y1.1.length:Int))then
      za (geti y1.1 s4.1) fun y5=>
      za (rO fu (⟨y5⟩:zx)) fun y6=>
      zW (X:=(Int×Str×Int×Str×Bool)×List zo×zo) (
        bif !y6.1.2 then
         some (LX.out ((s4.2.1.1,s4.2.1.2.1,s4.2.1.2.2.1,s4.2.1.2.2.2.1,s4.2.1.2.2.2.2),s4.2.2,(⟨3,[],0,(⟨[],[],false⟩:Zd),[(⟨1,[],0,(⟨[],[],false⟩:Zd),[(⟨4,[97,108,108],0,(⟨[],[],false⟩:Zd),[]⟩:zo)]⟩:zo)]⟩:zo)))
        else
         some (LX.out ((s4.2.1.1,s4.2.1.2.1,s4.2.1.2.2.1,s4.2.1.2.2.2.1,s4.2.1.2.2.2.2),s4.2.2,(⟨y6.1.1.kind,y6.1.1.name,y6.1.1.num,y6.1.1.decl,y6.1.1.list⟩:zo)))) fun j7=>
      need (Zo j7.2.1.length 1 104)<|
      some (LO.again (w64 (s4.1+1),(j7.1.1,j7.1.2.1,j7.1.2.2.1,j7.1.2.2.2.1,j7.1.2.2.2.2),j7.2.1++[(⟨j7.2.2.kind,j7.2.2.name,j7.2.2.num,j7.2.2.decl,j7.2.2.list⟩:zo)]))
     else
      some (LO.out ((s4.2.1.1,s4.2.1.2.1,s4.2.1.2.2.1,s4.2.1.2.2.2.1,s4.2.1.2.2.2.2),s4.2.2)):Int×(Int×Str×Int×Str×Bool)×List zo->Option (LO (Int×(Int×Str×Int×Str×Bool)×List zo) ((Int×Str×Int×Str×Bool)×List zo) _)) (0,(2,[],0,[],false),[]) fun o8=>
   some ((⟨o8.1.1,o8.1.2.1,o8.1.2.2.1,(⟨o8.1.2.2.2.1,[],o8.1.2.2.2.2⟩:Zd),o8.2⟩:zo),0)
def eU(fu:Nat)(x:List ze):Option (Zd×Bool×Int):=
 za (Xk fu x) fun y1=>
 bif y1 != 0 then
  some ((⟨[],[],false⟩:Zd),false,y1)
 else
  za (RF fu x) fun y2=>
  some (y2.1,y2.2,0)
def kC(fu:Nat)(Zn:zx->Option ((zo×Bool)×zx))(x:zx):Option ((zo×Bool)×zx):=
 za (qa x) fun y1=>
 bif y1==2 then
  za (qb x) fun y2=>
  some (((⟨8,[],0,(⟨[],[],false⟩:Zd),[]⟩:zo),true),y2.2)
 else
  bif y1==21 then
   za (qb x) fun y3=>
   za (eU fu y3.1.list) fun y4=>
   bif bif y4.2.2==0 then y4.2.1 else false then
    some (((⟨7,[],0,y4.1,[]⟩:zo),true),y3.2)
   else
    za (Zn (⟨y3.1.list⟩:zx)) fun y5=>
    bif y5.1.2 then
     some (((⟨y5.1.1.kind,y5.1.1.name,y5.1.1.num,y5.1.1.decl,y5.1.1.list⟩:zo),true),y3.2)
    else
     some (((⟨8,[],0,(⟨[],[],false⟩:Zd),[]⟩:zo),true),y3.2)
  else
   some (((⟨8,[],0,(⟨[],[],false⟩:Zd),[]⟩:zo),false),x)
def lH(fu:Nat)(Zn:zx->Option ((zo×Bool)×zx))(x:zx):Option ((zo×Bool)×zx):=
 za (Zb fu x) fun y1=>
 za (Qn fu ([[110,111,116]],y1.2)) fun y2=>
 bif !(y2.1==[])then
  za (Zb fu y2.2) fun y3=>
  za (kC fu Zn y3.2) fun y4=>
  za (Zb fu y4.2) fun y5=>
  some (((⟨3,[],0,(⟨[],[],false⟩:Zd),[(⟨y4.1.1.kind,y4.1.1.name,y4.1.1.num,y4.1.1.decl,y4.1.1.list⟩:zo)]⟩:zo),bif bif y4.1.2 then y3.1 else false then(y5.2.v.length:Int)==0 else false),y5.2)
 else
  za (kC fu Zn y2.2) fun y6=>
  bif !y6.1.2 then
   some (((⟨y6.1.1.kind,y6.1.1.name,y6.1.1.num,y6.1.1.decl,y6.1.1.list⟩:zo),false),y6.2)
  else
   za (Zb fu y6.2) fun y7=>
   bif (y7.2.v.length:Int)==0 then
    some (((⟨y6.1.1.kind,y6.1.1.name,y6.1.1.num,y6.1.1.decl,y6.1.1.list⟩:zo),true),y7.2)
   else
    ZH fu (fun(s8:Bool×zx×(Int×Str×Int×Str×Bool)×(Int×Str×Int×Str×Bool)×List zo)=>
      bif decide ((s8.2.1.v.length:Int)>0)then
       za (Qn fu ([[97,110,100],[111,114]],s8.2.1)) fun y9=>
       bif bif bif (bif y9.1==[97,110,100]then 1 else bif y9.1==[111,114]then 2 else(0:Int))==0 then true else !s8.1 then true else bif s8.2.2.2.1.1 != 0 then s8.2.2.2.1.1 != (bif y9.1==[97,110,100]then 1 else bif y9.1==[111,114]then 2 else(0:Int))else false then
        some (LO.ret (((⟨s8.2.2.2.1.1,s8.2.2.2.1.2.1,s8.2.2.2.1.2.2.1,(⟨s8.2.2.2.1.2.2.2.1,[],s8.2.2.2.1.2.2.2.2⟩:Zd),s8.2.2.2.2⟩:zo),false),y9.2))
       else
        za (Zb fu y9.2) fun y10=>
        za (kC fu Zn y10.2) fun y11=>
        bif bif !y10.1 then true else !y11.1.2 then
         some (LO.ret (((⟨bif y9.1==[97,110,100]then 1 else bif y9.1==[111,114]then 2 else(0:Int),s8.2.2.2.1.2.1,s8.2.2.2.1.2.2.1,(⟨s8.2.2.2.1.2.2.2.1,[],s8.2.2.2.1.2.2.2.2⟩:Zd),s8.2.2.2.2⟩:zo),false),y11.2))
        else
         need (Zo s8.2.2.2.2.length 1 104)<|
         za (Zb fu y11.2) fun y12=>
         some (LO.again (y12.1,y12.2,(s8.2.2.1.1,s8.2.2.1.2.1,s8.2.2.1.2.2.1,s8.2.2.1.2.2.2.1,s8.2.2.1.2.2.2.2),(bif y9.1==[97,110,100]then 1 else bif y9.1==[111,114]then 2 else(0:Int),s8.2.2.2.1.2.1,s8.2.2.2.1.2.2.1,s8.2.2.2.1.2.2.2.1,s8.2.2.2.1.2.2.2.2),s8.2.2.2.2++[(⟨y11.1.1.kind,y11.1.1.name,y11.1.1.num,y11.1.1.decl,y11.1.1.list⟩:zo)]))
      else
       some (LO.out (s8.2.1,(s8.2.2.1.1,s8.2.2.1.2.1,s8.2.2.1.2.2.1,s8.2.2.1.2.2.2.1,s8.2.2.1.2.2.2.2),(s8.2.2.2.1.1,s8.2.2.2.1.2.1,s8.2.2.2.1.2.2.1,s8.2.2.2.1.2.2.2.1,s8.2.2.2.1.2.2.2.2),s8.2.2.2.2)):Bool×zx×(Int×Str×Int×Str×Bool)×(Int×Str×Int×Str×Bool)×List zo->Option (LO (Bool×zx×(Int×Str×Int×Str×Bool)×(Int×Str×Int×Str×Bool)×List zo) (zx×(Int×Str×Int×Str×Bool)×(Int×Str×Int×Str×Bool)×List zo) _)) (y7.1,y7.2,(0,[],0,[],false),(0,[],0,[],false),[(⟨y6.1.1.kind,y6.1.1.name,y6.1.1.num,y6.1.1.decl,y6.1.1.list⟩:zo)]) fun o13=>
    some (((⟨o13.2.2.1.1,o13.2.2.1.2.1,o13.2.2.1.2.2.1,(⟨o13.2.2.1.2.2.2.1,[],o13.2.2.1.2.2.2.2⟩:Zd),o13.2.2.2⟩:zo),true),o13.1)
def Zn(fu:Nat):zx->Option ((zo×Bool)×zx):=Re (lH fu) fu
def GH(fu:Nat)(x:List ze):Option (zo×Int):=
 za (Xk fu x) fun y1=>
 bif y1 != 0 then
  some ((⟨0,[],0,(⟨[],[],false⟩:Zd),[]⟩:zo),y1)
 else
  za (Zn fu (⟨x⟩:zx)) fun y2=>
  za (zA (!(!y2.1.2)) (mH fu (⟨y2.1.1.kind,y2.1.1.name,y2.1.1.num,y2.1.1.decl,y2.1.1.list⟩:zo)) (default:Int)) fun y3=>
  bif bif !y2.1.2 then true else y3 != 0 then
   some ((⟨0,[],0,(⟨[],[],false⟩:Zd),[]⟩:zo),12)
  else
   some ((⟨y2.1.1.kind,y2.1.1.name,y2.1.1.num,y2.1.1.decl,y2.1.1.list⟩:zo),0)
def FP(fu:Nat)(x:(Bool×Str×List ze)×zJ):Option ((zK×Bool)×zJ):=
 zW (X:=Bool×zJ×(Int×Int×Str×Int×Str×Bool)×zK) (
   bif bif !x.1.1 then false else false then
    none
   else
    bif bif x.1.1 then x.1.2.1==[108,97,121,101,114]else false then
     za (SG fu (x.1.2.2,false)) fun y1=>
     some (LX.out (y1.2,x.2,(0,0,[],0,[],false),(⟨y1.1.kind,y1.1.selectors,y1.1.decls,(⟨y1.1.cond.kind,y1.1.cond.name,y1.1.cond.num,y1.1.cond.decl,y1.1.cond.list⟩:zo),y1.1.names,y1.1.rules⟩:zK)))
    else
     bif bif bif x.1.1 then x.1.2.1==[109,101,100,105,97]else false then false else false then
      za (IG fu x.1.2.2) fun y2=>
      some (LX.out (y2.2==0,x.2,(0,0,[],0,[],false),(⟨2,[],[],(⟨y2.1.kind,y2.1.name,y2.1.num,y2.1.decl,y2.1.list⟩:zo),[],[]⟩:zK)))
     else
      bif bif bif x.1.1 then x.1.2.1==[115,117,112,112,111,114,116,115]else false then false else false then
       za (GH fu x.1.2.2) fun y3=>
       some (LX.out (y3.2==0,x.2,(0,0,[],0,[],false),(⟨3,[],[],(⟨y3.1.kind,y3.1.name,y3.1.num,y3.1.decl,y3.1.list⟩:zo),[],[]⟩:zK)))
      else
       some (LX.out (false,x.2,(0,0,[],0,[],false),(⟨0,[],[],(⟨0,[],0,(⟨[],[],false⟩:Zd),[]⟩:zo),[],[]⟩:zK)))) fun j4=>
 bif !j4.1 then
  some (((⟨0,[],[],(⟨0,[],0,(⟨[],[],false⟩:Zd),[]⟩:zo),[],[]⟩:zK),false),j4.2.1)
 else
  bif bif bif j4.2.2.2.kind==2 then true else j4.2.2.2.kind==3 then true else j4.2.2.2.kind==4 then
   none
  else
   some (((⟨j4.2.2.2.kind,j4.2.2.2.selectors,j4.2.2.2.decls,(⟨j4.2.2.2.cond.kind,j4.2.2.2.cond.name,j4.2.2.2.cond.num,j4.2.2.2.cond.decl,j4.2.2.2.cond.list⟩:zo),j4.2.2.2.names,j4.2.2.2.rules⟩:zK),true),(⟨w64 (j4.2.1.room - 1),j4.2.1.constructs⟩:zJ))
def vO(fu:Nat)(Zh:(List ze×Bool)×zJ->Option (List zK×zJ))(x:(Bool×Str×List ze×ze)×zJ):Option ((zK×Bool)×zJ):=
 zW (X:=Bool×zJ×(Int×Int×Str×Int×Str×Bool)×zK) (
   bif bif !x.1.1 then true else false then
    za (TL fu (x.1.2.2.1,x.1.2.2.2.list)) fun y1=>
    some (LX.out (y1.2,x.2,(0,0,[],0,[],false),(⟨y1.1.kind,y1.1.selectors,y1.1.decls,(⟨y1.1.cond.kind,y1.1.cond.name,y1.1.cond.num,y1.1.cond.decl,y1.1.cond.list⟩:zo),y1.1.names,y1.1.rules⟩:zK)))
   else
    bif bif x.1.1 then x.1.2.1==[108,97,121,101,114]else false then
     za (SG fu (x.1.2.2.1,true)) fun y2=>
     some (LX.out (y2.2,x.2,(0,0,[],0,[],false),(⟨y2.1.kind,y2.1.selectors,y2.1.decls,(⟨y2.1.cond.kind,y2.1.cond.name,y2.1.cond.num,y2.1.cond.decl,y2.1.cond.list⟩:zo),y2.1.names,y2.1.rules⟩:zK)))
    else
     bif bif bif x.1.1 then x.1.2.1==[109,101,100,105,97]else false then true else false then
      za (IG fu x.1.2.2.1) fun y3=>
      some (LX.out (y3.2==0,x.2,(0,0,[],0,[],false),(⟨2,[],[],(⟨y3.1.kind,y3.1.name,y3.1.num,y3.1.decl,y3.1.list⟩:zo),[],[]⟩:zK)))
     else
      bif bif bif x.1.1 then x.1.2.1==[115,117,112,112,111,114,116,115]else false then true else false then
       za (GH fu x.1.2.2.1) fun y4=>
       some (LX.out (y4.2==0,x.2,(0,0,[],0,[],false),(⟨3,[],[],(⟨y4.1.kind,y4.1.name,y4.1.num,y4.1.decl,y4.1.list⟩:zo),[],[]⟩:zK)))
      else
       some (LX.out (false,x.2,(0,0,[],0,[],false),(⟨0,[],[],(⟨0,[],0,(⟨[],[],false⟩:Zd),[]⟩:zo),[],[]⟩:zK)))) fun j5=>
 bif !j5.1 then
  some (((⟨0,[],[],(⟨0,[],0,(⟨[],[],false⟩:Zd),[]⟩:zo),[],[]⟩:zK),false),j5.2.1)
 else
  zW (X:=zJ×(Int×Int×Str×Int×Str×Bool)×zK) (
    bif bif bif j5.2.2.2.kind==2 then true else j5.2.2.2.kind==3 then true else j5.2.2.2.kind==4 then
     za (Zh ((x.1.2.2.2.list,false),(⟨w64 (j5.2.1.room - 1),j5.2.1.constructs⟩:zJ))) fun y6=>
     some (LX.out (y6.2,(j5.2.2.1.1,j5.2.2.1.2.1,j5.2.2.1.2.2.1,j5.2.2.1.2.2.2.1,j5.2.2.1.2.2.2.2.1,j5.2.2.1.2.2.2.2.2),(⟨j5.2.2.2.kind,j5.2.2.2.selectors,j5.2.2.2.decls,(⟨j5.2.2.2.cond.kind,j5.2.2.2.cond.name,j5.2.2.2.cond.num,j5.2.2.2.cond.decl,j5.2.2.2.cond.list⟩:zo),j5.2.2.2.names,y6.1⟩:zK)))
    else
     some (LX.out ((⟨w64 (j5.2.1.room - 1),j5.2.1.constructs⟩:zJ),(j5.2.2.1.1,j5.2.2.1.2.1,j5.2.2.1.2.2.1,j5.2.2.1.2.2.2.1,j5.2.2.1.2.2.2.2.1,j5.2.2.1.2.2.2.2.2),(⟨j5.2.2.2.kind,j5.2.2.2.selectors,j5.2.2.2.decls,(⟨j5.2.2.2.cond.kind,j5.2.2.2.cond.name,j5.2.2.2.cond.num,j5.2.2.2.cond.decl,j5.2.2.2.cond.list⟩:zo),j5.2.2.2.names,j5.2.2.2.rules⟩:zK)))) fun j7=>
  some (((⟨j7.2.2.kind,j7.2.2.selectors,j7.2.2.decls,(⟨j7.2.2.cond.kind,j7.2.2.cond.name,j7.2.2.cond.num,j7.2.2.cond.decl,j7.2.2.cond.list⟩:zo),j7.2.2.names,j7.2.2.rules⟩:zK),true),j7.1)
def wH(fu:Nat)(Zh:(List ze×Bool)×zJ->Option (List zK×zJ))(x:(List ze×Bool)×zJ):Option (List zK×zJ):=
 ZH fu (fun(s1:List ze×zJ×List zK)=>
   bif decide ((s1.1.length:Int)>0)then
    za (eF s1.1) fun y2=>
    bif bif y2==13 then true else bif x.1.2 then bif y2==14 then true else y2==15 else false then
     need (decide (1<=(s1.1.length:Int)))<|
     some (LO.again (List.drop 1 s1.1,s1.2.1,s1.2.2))
    else
     zW (X:=List ze×zJ×List zK) (
       bif x.1.2 then
        some (LX.out (s1.1,(⟨s1.2.1.room,w64 (s1.2.1.constructs+1)⟩:zJ),s1.2.2))
       else
        some (LX.out (s1.1,s1.2.1,s1.2.2))) fun j3=>
     zW (X:=(List ze×Str)×zJ×List zK×List UInt8) (
       bif y2==3 then
        za (geti j3.1 0) fun y4=>
        za (Z6 fu y4.token.text) fun y5=>
        need (Zo 1 1 1)<|
        need (decide (1<=(j3.1.length:Int)))<|
        some (LX.out ((List.drop 1 j3.1,y5),j3.2.1,j3.2.2,[(23:UInt8),(17:UInt8)]))
       else
        some (LX.out ((j3.1,[]),j3.2.1,j3.2.2,[(23:UInt8)]))) fun j6=>
     za (RL fu (j6.1.1,j6.2.2.2)) fun y7=>
     za (eF y7.2) fun y8=>
     bif y8==23 then
      za (geti y7.2 0) fun y9=>
      zW (X:=List ze×zJ×List zK) (
        bif decide ((y7.2.length:Int)>0)then
         need (decide (1<=(y7.2.length:Int)))<|
         some (LX.out (List.drop 1 y7.2,j6.2.1,j6.2.2.1))
        else
         some (LX.out (y7.2,j6.2.1,j6.2.2.1))) fun j10=>
      bif j10.2.1.room==0 then
       some (LO.again (j10.1,j10.2.1,j10.2.2))
      else
       za (vO fu Zh ((y2==3,j6.1.2,y7.1,y9),j10.2.1)) fun y11=>
       bif y11.1.2 then
        need (Zo j10.2.2.length 1 208)<|
        some (LO.again (j10.1,y11.2,j10.2.2++[(⟨y11.1.1.kind,y11.1.1.selectors,y11.1.1.decls,(⟨y11.1.1.cond.kind,y11.1.1.cond.name,y11.1.1.cond.num,y11.1.1.cond.decl,y11.1.1.cond.list⟩:zo),y11.1.1.names,y11.1.1.rules⟩:zK)]))
       else
        some (LO.again (j10.1,y11.2,j10.2.2))
     else
      zW (X:=List ze×zJ×List zK) (
        bif decide ((y7.2.length:Int)>0)then
         need (decide (1<=(y7.2.length:Int)))<|
         some (LX.out (List.drop 1 y7.2,j6.2.1,j6.2.2.1))
        else
         some (LX.out (y7.2,j6.2.1,j6.2.2.1))) fun j12=>
      bif j12.2.1.room==0 then
       some (LO.again (j12.1,j12.2.1,j12.2.2))
      else
       za (FP fu ((y2==3,j6.1.2,y7.1),j12.2.1)) fun y13=>
       bif y13.1.2 then
        need (Zo j12.2.2.length 1 208)<|
        some (LO.again (j12.1,y13.2,j12.2.2++[(⟨y13.1.1.kind,y13.1.1.selectors,y13.1.1.decls,(⟨y13.1.1.cond.kind,y13.1.1.cond.name,y13.1.1.cond.num,y13.1.1.cond.decl,y13.1.1.cond.list⟩:zo),y13.1.1.names,y13.1.1.rules⟩:zK)]))
       else
        some (LO.again (j12.1,y13.2,j12.2.2))
   else
    some (LO.out (s1.2.1,s1.2.2)):List ze×zJ×List zK->Option (LO (List ze×zJ×List zK) (zJ×List zK) _)) (x.1.1,x.2,[]) fun o14=>
 some (o14.2,o14.1)
def Zh(fu:Nat):(List ze×Bool)×zJ->Option (List zK×zJ):=Re (wH fu) fu
def sK(fu:Nat)(x:Str):Option (List zK×Int):=
 za (nA fu x) fun y1=>
 bif y1.2 != 0 then
  some ([],y1.2)
 else
  za (parseF y1.1) fun y2=>
  bif y2.2 != 0 then
   some ([],y2.2)
  else
   za (Zh fu ((y2.1,true),(⟨64,0⟩:zJ))) fun y3=>
   none
def Eu(fu:Nat)(x:Str):Option (ZI×Int):=
 za (sK fu x) fun y1=>
 bif y1.2 != 0 then
  some ((⟨[]⟩:ZI),y1.2)
 else
  some ((⟨y1.1⟩:ZI),0)
def GM(fu:Nat)(x:Str):Option ((List zK×Int)×zJ):=
 za (nA fu x) fun y1=>
 bif y1.2 != 0 then
  none
 else
  za (parseF y1.1) fun y2=>
  bif y2.2 != 0 then
   none
  else
   za (Zh fu ((y2.1,true),(⟨64,0⟩:zJ))) fun y3=>
   some ((y3.1,0),y3.2)
def uA(fu:Nat)(x:Str):Option (ZI×Int):=
 za (GM fu x) fun y1=>
 bif y1.1.2 != 0 then
  some ((⟨[]⟩:ZI),y1.1.2)
 else
  some ((⟨y1.1.1⟩:ZI),0)
def kG(fu:Nat)(x:Str):Option (ZI×Int):=
 za (nA fu x) fun y1=>
 bif !(y1.2==0)then
  za (Eu fu x) fun z1=>
  some z1
 else
  za (parseF y1.1) fun y2=>
  bif !(y2.2==0)then
   za (Eu fu x) fun z1=>
   some z1
  else
   za (uA fu x) fun z1=>
   some z1
def OP(fu:Nat)(x:List UInt8):Option (List UInt8):=
 bif x.isEmpty then
  both (
    some []) (
    need (Zo 0 x.length 1)<|
    some x)
 else
  need (Zo 0 x.length 1)<|
  some x
def oH(fu:Nat)(x:List UInt8):Option (List UInt8):=need (Zo 0 x.length 1) (some x)
theorem zkE(fu:Nat)(x):Le (oH fu x) (OP fu x):=by
 cases x with
 |nil=> intro y hy;show both (some []) (some [])=some y;unfold both;rw[Ya rfl];exact hy
 |cons a r=>exact .rfl
def gP(fu:Nat)(x:List zw):Option (List zw):=
 bif x.isEmpty then
  both (
    some []) (
    need (Zo 0 x.length 104)<|
    some x)
 else
  need (Zo 0 x.length 104)<|
  some x
def BI(fu:Nat)(x:List zw):Option (List zw):=need (Zo 0 x.length 104) (some x)
theorem zjl(fu:Nat)(x):Le (BI fu x) (gP fu x):=by
 cases x with
 |nil=> intro y hy;show both (some []) (some [])=some y;unfold both;rw[Ya rfl];exact hy
 |cons a r=>exact .rfl
def OI(fu:Nat)(ZP:List zf->Option (List zf))(x:List zf):Option (List zf):=
 ZH fu (fun(s1:Int×List zf)=>
   bif decide (s1.1<(x.length:Int))then
    za (geti x s1.1) fun y2=>
    za (oH fu y2.combs) fun y3=>
    ZH fu (fun(s4:Int×List zI)=>
      bif decide (s4.1<(y2.parts.length:Int))then
       za (geti y2.parts s4.1) fun y5=>
       za (BI fu y5.simples) fun y6=>
       ZH fu (fun(s7:Int×List zw)=>
         bif decide (s7.1<(y6.length:Int))then
          need (decide (0<=s7.1)&&decide (s7.1<(s7.2.length:Int)))<|
          za s7.2[s7.1.toNat]? fun y8=>
          za (ZP y8.list) fun y9=>
          need (decide (0<=s7.1)&&decide (s7.1<(s7.2.length:Int)))<|
          za s7.2[s7.1.toNat]? fun y10=>
          some (LO.again (w64 (s7.1+1),List.set s7.2 s7.1.toNat (⟨y10.kind,y10.name,y10.op,y10.value,y10.fold,y10.anb,y10.of_,y9⟩:zw)))
         else
          some (LO.out s7.2):Int×List zw->Option (LO (Int×List zw) (List zw) _)) (0,y6) fun o11=>
       need (Zo s4.2.length 1 40)<|
       some (LO.again (w64 (s4.1+1),s4.2++[(⟨y5.tag,o11⟩:zI)]))
      else
       some (LO.out s4.2):Int×List zI->Option (LO (Int×List zI) (List zI) _)) (0,[]) fun o12=>
    need (Zo s1.2.length 1 56)<|
    some (LO.again (w64 (s1.1+1),s1.2++[(⟨y2.lead,o12,y3⟩:zf)]))
   else
    some (LO.out s1.2):Int×List zf->Option (LO (Int×List zf) (List zf) _)) (0,[]) fun o13=>
 some o13
def ZP(fu:Nat):List zf->Option (List zf):=Re (OI fu) fu
def nH(fu:Nat)(Z0:List ze->Option (List ze))(x:List ze):Option (List ze):=
 ZH fu (fun(s1:Int×List ze)=>
   bif decide (s1.1<(x.length:Int))then
    za (geti x s1.1) fun y2=>
    za (Z0 y2.list) fun y3=>
    need (Zo s1.2.length 1 80)<|
    some (LO.again (w64 (s1.1+1),s1.2++[(⟨y2.token,y3⟩:ze)]))
   else
    some (LO.out s1.2):Int×List ze->Option (LO (Int×List ze) (List ze) _)) (0,[]) fun o4=>
 some o4
def Z0(fu:Nat):List ze->Option (List ze):=Re (nH fu) fu
def RO(fu:Nat)(x:List Zd):Option (List Zd):=
 ZH fu (fun(s1:Int×List Zd)=>
   bif decide (s1.1<(x.length:Int))then
    za (geti x s1.1) fun y2=>
    za (Z0 fu y2.value) fun y3=>
    need (Zo s1.2.length 1 48)<|
    some (LO.again (w64 (s1.1+1),s1.2++[(⟨y2.name,y3,y2.important⟩:Zd)]))
   else
    some (LO.out s1.2):Int×List Zd->Option (LO (Int×List Zd) (List Zd) _)) (0,[]) fun o4=>
 some o4
def aH(fu:Nat)(qU:zo->Option zo)(x:zo):Option zo:=
 za (Z0 fu x.decl.value) fun y1=>
 ZH fu (fun(s2:Int×List zo)=>
   bif decide (s2.1<(x.list.length:Int))then
    za (geti x.list s2.1) fun y3=>
    za (qU (⟨y3.kind,y3.name,y3.num,y3.decl,y3.list⟩:zo)) fun y4=>
    need (Zo s2.2.length 1 104)<|
    some (LO.again (w64 (s2.1+1),s2.2++[(⟨y4.kind,y4.name,y4.num,y4.decl,y4.list⟩:zo)]))
   else
    some (LO.out s2.2):Int×List zo->Option (LO (Int×List zo) (List zo) _)) (0,[]) fun o5=>
 some (⟨x.kind,x.name,x.num,(⟨x.decl.name,y1,x.decl.important⟩:Zd),o5⟩:zo)
def qU(fu:Nat):zo->Option zo:=Re (aH fu) fu
def eP(fu:Nat)(x:List Str):Option (List Str):=
 bif x.isEmpty then
  both (
    some []) (
    need (Zo 0 x.length 16)<|
    some x)
 else
  need (Zo 0 x.length 16)<|
  some x
def rC(fu:Nat)(x:List Str):Option (List Str):=need (Zo 0 x.length 16) (some x)
theorem zjm(fu:Nat)(x):Le (rC fu x) (eP fu x):=by
 cases x with
 |nil=> intro y hy;show both (some []) (some [])=some y;unfold both;rw[Ya rfl];exact hy
 |cons a r=>exact .rfl
def fH(fu:Nat)(qf:List zK->Option (List zK))(x:List zK):Option (List zK):=
 ZH fu (fun(s1:Int×List zK)=>
   bif decide (s1.1<(x.length:Int))then
    za (geti x s1.1) fun y2=>
    za (ZP fu y2.selectors) fun y3=>
    za (RO fu y2.decls) fun y4=>
    za (qU fu (⟨y2.cond.kind,y2.cond.name,y2.cond.num,y2.cond.decl,y2.cond.list⟩:zo)) fun y5=>
    ZH fu (fun(s6:Int×List (List Str))=>
      bif decide (s6.1<(y2.names.length:Int))then
       za (geti y2.names s6.1) fun y7=>
       za (rC fu y7) fun y8=>
       need (Zo s6.2.length 1 24)<|
       some (LO.again (w64 (s6.1+1),s6.2++[y8]))
      else
       some (LO.out s6.2):Int×List (List Str)->Option (LO (Int×List (List Str)) (List (List Str)) _)) (0,[]) fun o9=>
    za (qf y2.rules) fun y10=>
    need (Zo s1.2.length 1 208)<|
    some (LO.again (w64 (s1.1+1),s1.2++[(⟨y2.kind,y3,y4,(⟨y5.kind,y5.name,y5.num,y5.decl,y5.list⟩:zo),o9,y10⟩:zK)]))
   else
    some (LO.out s1.2):Int×List zK->Option (LO (Int×List zK) (List zK) _)) (0,[]) fun o11=>
 some o11
def qf(fu:Nat):List zK->Option (List zK):=Re (fH fu) fu
def JG(fu:Nat)(x:Ze):Option Ze:=
 ZH fu (fun(s1:Int×List Zr)=>
   bif decide (s1.1<(x.sheets.length:Int))then
    za (geti x.sheets s1.1) fun y2=>
    za (qf fu y2.sheet.rules) fun y3=>
    need (Zo s1.2.length 1 56)<|
    some (LO.again (w64 (s1.1+1),s1.2++[(⟨y2.number,y2.origin,y2.site,(⟨y3⟩:ZI)⟩:Zr)]))
   else
    some (LO.out s1.2):Int×List Zr->Option (LO (Int×List Zr) (List Zr) _)) (0,[]) fun o4=>
 some (⟨o4,x.next⟩:Ze)
def Hy(fu:Nat)(x:Ze×Int×Str×Str):Option (Ze×Int×Int):=
 za (RG fu x.1) fun y1=>
 bif y1 != 0 then
  some ((⟨[],0⟩:Ze),0,y1)
 else
  bif bif bif decide (x.2.1<1)then true else decide (x.2.1>3)then true else decide ((x.2.2.1.length:Int)>64)then
   some ((⟨[],0⟩:Ze),0,2)
  else
   bif bif (x.1.sheets.length:Int)==8 then true else x.1.next==1000 then
    some ((⟨[],0⟩:Ze),0,18)
   else
    za (kG fu x.2.2.2) fun y2=>
    bif y2.2 != 0 then
     some ((⟨[],0⟩:Ze),0,y2.2)
    else
     za (JG fu x.1) fun y3=>
     need (decide (0<=(y3.sheets.length:Int))&&(decide ((y3.sheets.length:Int)<=(y3.sheets.length:Int))&&decide ((y3.sheets.length:Int)<=(y3.sheets.length:Int)))&&decide ((y3.sheets.length:Int)=(y3.sheets.length:Int)))<|
     need (Zo (List.take y3.sheets.length y3.sheets).length 1 56)<|
     some ((⟨List.take y3.sheets.length y3.sheets++[(⟨x.1.next,x.2.1,x.2.2.1,y2.1⟩:Zr)],w64 (y3.next+1)⟩:Ze),x.1.next,0)
def AL(fu:Nat)(x:Unit):Option (Ze×Bool):=
 za (Hy fu ((⟨[],0⟩:Ze),3,[97],[98,123,125])) fun y1=>
 za (Hy fu (y1.1,1,[],[])) fun y2=>
 some (y2.1,bif bif bif y1.2.2==0 then y2.2.2==0 else false then y1.2.1==0 else false then y2.2.1==1 else false)
def Gy(x:Zr×Int):Option Bool:=
 some (x.1.number==x.2)
def aP(fu:Nat)(x:List Zr×Int):Option Int:=
 ZH fu (fun(s1:Int)=>
   bif decide (s1<(x.1.length:Int))then
    za (geti x.1 s1) fun y2=>
    za (Gy (y2,x.2)) fun y3=>
    bif y3 then
     some (LO.ret s1)
    else
     some (LO.again (w64 (s1+1)))
   else
    some (LO.out ()):Int->Option (LO (Int) (Unit) _)) 0 fun o4=>
 some (-1)
def fE(fu:Nat)(x:Ze×Int):Option (Int×Int):=
 za (RG fu x.1) fun y1=>
 bif y1 != 0 then
  some (0,y1)
 else
  za (aP fu (x.1.sheets,x.2)) fun y2=>
  bif decide (y2<0)then
   some (0,6)
  else
   some (y2,0)
def UM(fu:Nat)(x:Ze):Option (Int×List Zr):=
 ZH fu (fun(s1:Int×List Zr)=>
   bif decide (s1.1<(x.sheets.length:Int))then
    za (geti x.sheets s1.1) fun y2=>
    za (qf fu y2.sheet.rules) fun y3=>
    need (Zo s1.2.length 1 56)<|
    some (LO.again (w64 (s1.1+1),s1.2++[(⟨y2.number,y2.origin,y2.site,(⟨y3⟩:ZI)⟩:Zr)]))
   else
    some (LO.out s1.2):Int×List Zr->Option (LO (Int×List Zr) (List Zr) _)) (0,[]) fun o4=>
 some (x.next,o4)
def yK(fu:Nat)(x:Ze×Int):Option (Ze×Int):=
 za (fE fu (x.1,x.2)) fun y1=>
 bif y1.2 != 0 then
  some ((⟨[],0⟩:Ze),y1.2)
 else
  za (UM fu x.1) fun y2=>
  za (delK ((y1.1,w64 (y1.1+1)),y2.2)) fun y3=>
  some ((⟨y3,y2.1⟩:Ze),0)
def GK(fu:Nat)(x:Ze×Int):Option (Zr×Int):=
 za (fE fu (x.1,x.2)) fun y1=>
 bif y1.2 != 0 then
  some ((⟨0,0,[],(⟨[]⟩:ZI)⟩:Zr),y1.2)
 else
  za (JG fu x.1) fun y2=>
  za (geti y2.sheets y1.1) fun y3=>
  some (y3,0)
def FH(fu:Nat)(x:Ze×List Int):Option Bool:=
 bif (x.1.sheets.length:Int) != (x.2.length:Int)then
  some false
 else
  ZH fu (fun(s1:Int)=>
    bif decide (s1<(x.2.length:Int))then
     za (geti x.1.sheets s1) fun y2=>
     za (geti x.2 s1) fun y3=>
     bif y2.number != y3 then
      some (LO.ret false)
     else
      some (LO.again (w64 (s1+1)))
    else
     some (LO.out ()):Int->Option (LO (Int) (Unit) _)) 0 fun o4=>
  some true
def oz(fu:Nat)(x:Unit):Option Bool:=
 za (AL fu ()) fun y1=>
 za (yK fu (y1.1,0)) fun y2=>
 za (Hy fu (y2.1,2,[99],[100,123,125])) fun y3=>
 za (GK fu (y1.1,0)) fun y4=>
 za (zA y1.2 (FH fu (y1.1,[0,1])) (default:Bool)) fun y5=>
 za (zA (bif bif bif bif bif y1.2 then y5 else false then y1.1.next==2 else false then y2.2==0 else false then y3.2.2==0 else false then y3.2.1==2 else false) (FH fu (y3.1,[1,2])) (default:Bool)) fun y6=>
 some (bif bif bif bif bif bif bif bif bif bif bif y1.2 then y5 else false then y1.1.next==2 else false then y2.2==0 else false then y3.2.2==0 else false then y3.2.1==2 else false then y6 else false then y3.1.next==3 else false then y4.2==0 else false then y4.1.site==[97]else false then y4.1.origin==3 else false then(y4.1.sheet.rules.length:Int)==1 else false)
def Bq(Bi:List zf×Int->Option Int)(x:List zf×Int):Option Int:=
 zZ (fun(s1:Int×Int)=>
   bif bif decide (s1.2<(x.1.length:Int))then decide (s1.1<=x.2)else false then
    za (geti x.1 s1.2) fun y2=>
    zZ (fun(s3:Int×Int)=>
      za (geti x.1 s1.2) fun y4=>
      bif bif decide (s3.2<(y4.parts.length:Int))then decide (s3.1<=x.2)else false then
       za (geti x.1 s1.2) fun y5=>
       za (geti y5.parts s3.2) fun y6=>
       za (geti x.1 s1.2) fun y7=>
       za (geti y7.parts s3.2) fun y8=>
       zZ (fun(s9:Int×Int)=>
         bif bif decide (s9.2<(y8.simples.length:Int))then decide (s9.1<=x.2)else false then
          za (geti y8.simples s9.2) fun y10=>
          za (geti y8.simples s9.2) fun y11=>
          za (geti y8.simples s9.2) fun y12=>
          za (Bi (y12.list,w64 (x.2 - s9.1))) fun y13=>
          some (LO.again (w64 (s9.1+w64 (w64 (w64 (1+(y10.name.length:Int))+(y11.value.length:Int))+y13)),w64 (s9.2+1)))
         else
          some (LO.out s9.1):Int×Int->Option (LO (Int×Int) (Int) _)) (w64 (s3.1+w64 (1+(y6.tag.length:Int))),0) fun o14=>
       some (LO.again (o14,w64 (s3.2+1)))
      else
       some (LO.out s3.1):Int×Int->Option (LO (Int×Int) (Int) _)) (w64 (s1.1+w64 (1+(y2.combs.length:Int))),0) fun o15=>
    some (LO.again (o15,w64 (s1.2+1)))
   else
    some (LO.out s1.1):Int×Int->Option (LO (Int×Int) (Int) _)) (0,0) fun o16=>
 some o16
def Bi:List zf×Int->Option Int:=recE (Bq)
def Hz(x:List zf):Option Bool:=
 za (Bi (x,600)) fun y1=>
 some (decide (y1>600))
def Pp(Ci:List ze×Int->Option Int)(x:List ze×Int):Option Int:=
 zZ (fun(s1:Int×Int)=>
   bif bif decide (s1.2<(x.1.length:Int))then decide (s1.1<=x.2)else false then
    za (geti x.1 s1.2) fun y2=>
    za (geti x.1 s1.2) fun y3=>
    za (geti x.1 s1.2) fun y4=>
    za (Ci (y4.list,w64 (x.2 - s1.1))) fun y5=>
    some (LO.again (w64 (s1.1+w64 (w64 (w64 (1+(y2.token.text.length:Int))+(y3.token.unit.length:Int))+y5)),w64 (s1.2+1)))
   else
    some (LO.out s1.1):Int×Int->Option (LO (Int×Int) (Int) _)) (0,0) fun o6=>
 some o6
def Ci:List ze×Int->Option Int:=recE (Pp)
def Rp(x:Int):Option Int:=
 bif x==19 then
  some 20
 else
  zW (X:=Bool) (
    bif x==21 then
     some (LX.out (x==21))
    else
     some (LX.out (x==2))) fun j1=>
  bif j1 then
   some 22
  else
   bif x==23 then
    some 24
   else
    some 0
def gz(qV:List ze->Option Int)(x:List ze):Option Int:=
 zZ (fun(s1:Int×Int)=>
   bif decide (s1.2<(x.length:Int))then
    zW (X:=Int×Int) (
      za (geti x s1.2) fun y2=>
      za (Rp y2.token.kind) fun y3=>
      bif y3 != 0 then
       za (geti x s1.2) fun y4=>
       za (qV y4.list) fun y5=>
       some (LX.out (if w64 (1+y5)>s1.1 then w64 (1+y5)else s1.1,s1.2))
      else
       some (LX.out (s1.1,s1.2))) fun j6=>
    some (LO.again (j6.1,w64 (j6.2+1)))
   else
    some (LO.out s1.1):Int×Int->Option (LO (Int×Int) (Int) _)) (0,0) fun o7=>
 some o7
def qV:List ze->Option Int:=recE (gz)
def Gp(x:List Zd):Option Bool:=
 bif decide ((x.length:Int)>40)then
  some true
 else
  zZ (fun(s1:Int×Int)=>
    bif decide (s1.2<(x.length:Int))then
     za (geti x s1.2) fun y2=>
     za (geti x s1.2) fun y3=>
     za (Ci (y3.value,300)) fun y4=>
     za (zA (!(decide (w64 (s1.1+w64 ((y2.name.length:Int)+y4))>300))) (geti x s1.2) (default:Zd)) fun y5=>
     za (zA (!(decide (w64 (s1.1+w64 ((y2.name.length:Int)+y4))>300))) (qV y5.value) (default:Int)) fun y6=>
     bif bif decide (w64 (s1.1+w64 ((y2.name.length:Int)+y4))>300)then true else decide (y6>40)then
      some (LO.ret true)
     else
      some (LO.again (w64 (s1.1+w64 ((y2.name.length:Int)+y4)),w64 (s1.2+1)))
    else
     some (LO.out ()):Int×Int->Option (LO (Int×Int) (Unit) _)) (0,0) fun o7=>
  some false
def Aq(qW:zo×Int->Option Int)(x:zo×Int):Option Int:=
 zZ (fun(s1:Int×Int)=>
   bif bif decide (s1.2<(x.1.list.length:Int))then decide (s1.1<=x.2)else false then
    za (geti x.1.list s1.2) fun y2=>
    za (qW ((⟨y2.kind,y2.name,y2.num,y2.decl,y2.list⟩:zo),w64 (x.2 - s1.1))) fun y3=>
    some (LO.again (w64 (s1.1+y3),w64 (s1.2+1)))
   else
    some (LO.out s1.1):Int×Int->Option (LO (Int×Int) (Int) _)) (1,0) fun o4=>
 some o4
def qW:zo×Int->Option Int:=recE (Aq)
def gp(Ai:zo->Option Bool)(x:zo):Option Bool:=
 za (Gp [x.decl]) fun y1=>
 bif bif y1 then true else decide ((x.name.length:Int)>200)then
  some true
 else
  zZ (fun(s2:Int)=>
    bif decide (s2<(x.list.length:Int))then
     za (geti x.list s2) fun y3=>
     za (Ai (⟨y3.kind,y3.name,y3.num,y3.decl,y3.list⟩:zo)) fun y4=>
     bif y4 then
      some (LO.ret true)
     else
      some (LO.again (w64 (s2+1)))
    else
     some (LO.out ()):Int->Option (LO (Int) (Unit) _)) 0 fun o5=>
  some false
def Ai:zo->Option Bool:=recE (gp)
def Ez(x:zo):Option Bool:=
 za (qW ((⟨x.kind,x.name,x.num,x.decl,x.list⟩:zo),100)) fun y1=>
 za (zA (!(decide (y1>100))) (Ai (⟨x.kind,x.name,x.num,x.decl,x.list⟩:zo)) (default:Bool)) fun y2=>
 some (bif decide (y1>100)then true else y2)
def Gq(qw:List zK×Int->Option Bool)(x:List zK×Int):Option Bool:=
 bif bif x.2==0 then true else decide ((x.1.length:Int)>70)then
  some true
 else
  zZ (fun(s1:Int)=>
    bif decide (s1<(x.1.length:Int))then
     za (geti x.1 s1) fun y2=>
     za (Hz y2.selectors) fun y3=>
     za (zA (!y3) (Gp y2.decls) (default:Bool)) fun y4=>
     za (zA (!(bif y3 then true else y4)) (Ez (⟨y2.cond.kind,y2.cond.name,y2.cond.num,y2.cond.decl,y2.cond.list⟩:zo)) (default:Bool)) fun y5=>
     za (zA (!(bif bif bif y3 then true else y4 then true else y5 then true else decide ((y2.names.length:Int)>70))) (qw (y2.rules,w64 (x.2 - 1))) (default:Bool)) fun y6=>
     bif bif bif bif bif y3 then true else y4 then true else y5 then true else decide ((y2.names.length:Int)>70)then true else y6 then
      some (LO.ret true)
     else
      zZ (fun(s7:Int)=>
        bif decide (s7<(y2.names.length:Int))then
         za (geti y2.names s7) fun y8=>
         bif decide ((y8.length:Int)>20)then
          some (LO.ret (LO.ret true))
         else
          some (LO.again (w64 (s7+1)))
        else
         some (LO.out ()):Int->Option (LO (Int) (Unit) _)) 0 fun o9=>
      some (LO.again (w64 (s1+1)))
    else
     some (LO.out ()):Int->Option (LO (Int) (Unit) _)) 0 fun o10=>
  some false
def qw:List zK×Int->Option Bool:=recE (Gq)
def YB(Qm:List zK->Option Int)(x:List zK):Option Int:=
 zZ (fun(s1:Int×Int)=>
   bif decide (s1.2<(x.length:Int))then
    za (geti x s1.2) fun y2=>
    za (Qm y2.rules) fun y3=>
    some (LO.again (w64 (s1.1+y3),w64 (s1.2+1)))
   else
    some (LO.out s1.1):Int×Int->Option (LO (Int×Int) (Int) _)) ((x.length:Int),0) fun o4=>
 some o4
def Qm:List zK->Option Int:=recE (YB)
def Uk(x:List zK):Option Bool:=
 za (qw (x,30)) fun y1=>
 za (zA (!y1) (Qm x) (default:Int)) fun y2=>
 some (bif y1 then true else decide (y2>70))
def Az(x:Ze):Option Bool:=
 bif decide ((x.sheets.length:Int)>10)then
  some true
 else
  zZ (fun(s1:Int)=>
    bif decide (s1<(x.sheets.length:Int))then
     za (geti x.sheets s1) fun y2=>
     za (Uk y2.sheet.rules) fun y3=>
     za (zA (!y3) (geti x.sheets s1) (default:Zr)) fun y4=>
     bif bif y3 then true else decide ((y4.site.length:Int)>100)then
      some (LO.ret true)
     else
      some (LO.again (w64 (s1+1)))
    else
     some (LO.out ()):Int->Option (LO (Int) (Unit) _)) 0 fun o5=>
  some false
def UF(x:Str):Option Bool:=
 some (decide ((x.length:Int)<=64))
def Gu(x:Str×Int):Option Bool:=
 zZ (fun(s1:Int)=>
   bif decide (s1<(x.1.length:Int))then
    za (geti x.1 s1) fun y2=>
    bif (y2.toNat:Int)==0 then
     some (LO.ret false)
    else
     some (LO.again (w64 (s1+1)))
   else
    some (LO.out ()):Int->Option (LO (Int) (Unit) _)) 0 fun o3=>
 some (decide ((x.1.length:Int)<=x.2))
def ul(x:Str):Option Bool:=
 za (zA (!(x==[])) (Gu (x,64)) (default:Bool)) fun y1=>
 some (bif !(x==[])then y1 else false)
def Dm(x:Int):Option Int:=
 bif bif decide (x>=65)then decide (x<=90)else false then
  some (wu8 (wu8 (x - 65)+97))
 else
  some x
def Qy(x:Str):Option Str:=
 need (decide (x.length<=maxLen))<|
 zZ (fun(s1:Int×List UInt8)=>
   bif decide (s1.1<(s1.2.length:Int))then
    need (decide (0<=s1.1)&&decide (s1.1<(s1.2.length:Int)))<|
    za s1.2[s1.1.toNat]? fun y2=>
    za (Dm (y2.toNat:Int)) fun y3=>
    need (decide (0<=s1.1)&&decide (s1.1<(s1.2.length:Int)))<|
    za s1.2[s1.1.toNat]? fun y4=>
    za (Qc y3) fun y5=>
    some (LO.again (w64 (s1.1+1),List.set s1.2 s1.1.toNat y5))
   else
    some (LO.out s1.2):Int×List UInt8->Option (LO (Int×List UInt8) (List UInt8) _)) (0,x) fun o6=>
 some o6
def Hu(x:Str):Option Bool:=
 za (ul x) fun y1=>
 za (zA y1 (Qy x) (default:Str)) fun y2=>
 some (bif y1 then x==y2 else false)
def Np(x:zw):Option Qp:=
 some (⟨x.kind,x.name,x.op,x.value,x.fold,x.anb,x.of_⟩:Qp)
def Jz(x:VAnb):Option Bool:=
 some (bif bif bif decide (x.a>=(-1000000000))then decide (x.a<=1000000000)else false then decide (x.b>=(-1000000000))else false then decide (x.b<=1000000000)else false)
def Fz(x:zV×Int):Option (zV×Bool):=
 bif bif x.1.deep==3 then true else bif x.2==14 then x.1.has else false then
  some (x.1,false)
 else
  some ((⟨w64 (x.1.deep+1),bif x.1.has then true else x.2==14⟩:zV),true)
def Lp(Zl:zf×zV×Bool->Option Bool)(x:List zf×zV×Int):Option Bool:=
 za (Fz (x.2.1,x.2.2)) fun y1=>
 bif !y1.2 then
  some false
 else
  zZ (fun(s2:Int)=>
    bif decide (s2<(x.1.length:Int))then
     za (geti x.1 s2) fun y3=>
     za (Zl ((⟨y3.lead,y3.parts,y3.combs⟩:zf),y1.1,x.2.2==14)) fun y4=>
     bif !y4 then
      some (LO.ret false)
     else
      some (LO.again (w64 (s2+1)))
    else
     some (LO.out ()):Int->Option (LO (Int) (Unit) _)) 0 fun o5=>
  some true
def Ku(Zl:zf×zV×Bool->Option Bool)(x:zw×zV):Option Bool:=
 za (Np (⟨x.1.kind,x.1.name,x.1.op,x.1.value,x.1.fold,x.1.anb,x.1.of_,x.1.list⟩:zw)) fun y1=>
 zW (X:=Bool) (
   bif x.1.kind==1 then
    some (LX.out (x.1.kind==1))
   else
    some (LX.out (x.1.kind==2))) fun j2=>
 bif j2 then
  za (ul x.1.name) fun y3=>
  some (bif bif y3 then y1.kind==x.1.kind&&(y1.name==x.1.name&&(y1.op==0&&(y1.value==[]&&(y1.fold==false&&(y1.anb.a==0&&(y1.anb.b==0&&(y1.of_==false&&true)))))))else false then(x.1.list.length:Int)==0 else false)
 else
  bif x.1.kind==3 then
   za (Hu x.1.name) fun y4=>
   za (zA (bif y4 then decide (x.1.op<=6)else false) (Gu (x.1.value,400)) (default:Bool)) fun y5=>
   some (bif bif bif bif bif y4 then decide (x.1.op<=6)else false then y5 else false then bif x.1.op != 0 then true else bif x.1.value==[]then !x.1.fold else false else false then y1.kind==x.1.kind&&(y1.name==x.1.name&&(y1.op==x.1.op&&(y1.value==x.1.value&&(y1.fold==x.1.fold&&(y1.anb.a==0&&(y1.anb.b==0&&(y1.of_==false&&true)))))))else false then(x.1.list.length:Int)==0 else false)
  else
   zW (X:=Bool) (
     bif x.1.kind==4 then
      some (LX.out (x.1.kind==4))
     else
      bif x.1.kind==5 then
       some (LX.out (x.1.kind==5))
      else
       bif x.1.kind==6 then
        some (LX.out (x.1.kind==6))
       else
        bif x.1.kind==7 then
         some (LX.out (x.1.kind==7))
        else
         some (LX.out (x.1.kind==8))) fun j6=>
   bif j6 then
    some (bif y1.kind==x.1.kind&&(y1.name==[]&&(y1.op==0&&(y1.value==[]&&(y1.fold==false&&(y1.anb.a==0&&(y1.anb.b==0&&(y1.of_==false&&true)))))))then(x.1.list.length:Int)==0 else false)
   else
    zW (X:=Bool) (
      bif x.1.kind==9 then
       some (LX.out (x.1.kind==9))
      else
       some (LX.out (x.1.kind==10))) fun j7=>
    bif j7 then
     za (Jz x.1.anb) fun y8=>
     bif bif !y8 then true else !(y1.kind==x.1.kind&&(y1.name==[]&&(y1.op==0&&(y1.value==[]&&(y1.fold==false&&(y1.anb.a==x.1.anb.a&&(y1.anb.b==x.1.anb.b&&(y1.of_==x.1.of_&&true))))))))then
      some false
     else
      bif !x.1.of_ then
       some ((x.1.list.length:Int)==0)
      else
       za (zA (decide ((x.1.list.length:Int)>0)) (Lp Zl (x.1.list,x.2,x.1.kind)) (default:Bool)) fun y9=>
       some (bif decide ((x.1.list.length:Int)>0)then y9 else false)
    else
     zW (X:=Bool) (
       bif x.1.kind==11 then
        some (LX.out (x.1.kind==11))
       else
        some (LX.out (x.1.kind==12))) fun j10=>
     bif j10 then
      za (zA (y1.kind==x.1.kind&&(y1.name==[]&&(y1.op==0&&(y1.value==[]&&(y1.fold==false&&(y1.anb.a==0&&(y1.anb.b==0&&(y1.of_==false&&true)))))))) (Lp Zl (x.1.list,x.2,x.1.kind)) (default:Bool)) fun y11=>
      some (bif y1.kind==x.1.kind&&(y1.name==[]&&(y1.op==0&&(y1.value==[]&&(y1.fold==false&&(y1.anb.a==0&&(y1.anb.b==0&&(y1.of_==false&&true)))))))then y11 else false)
     else
      zW (X:=Bool) (
        bif x.1.kind==13 then
         some (LX.out (x.1.kind==13))
        else
         some (LX.out (x.1.kind==14))) fun j12=>
      bif j12 then
       za (zA (bif y1.kind==x.1.kind&&(y1.name==[]&&(y1.op==0&&(y1.value==[]&&(y1.fold==false&&(y1.anb.a==0&&(y1.anb.b==0&&(y1.of_==false&&true)))))))then decide ((x.1.list.length:Int)>0)else false) (Lp Zl (x.1.list,x.2,x.1.kind)) (default:Bool)) fun y13=>
       some (bif bif y1.kind==x.1.kind&&(y1.name==[]&&(y1.op==0&&(y1.value==[]&&(y1.fold==false&&(y1.anb.a==0&&(y1.anb.b==0&&(y1.of_==false&&true)))))))then decide ((x.1.list.length:Int)>0)else false then y13 else false)
      else
       some false
def eu(Zl:zf×zV×Bool->Option Bool)(x:zI×zV):Option Bool:=
 za (zA (bif !(x.1.tag==[])then !(x.1.tag==[42])else false) (Hu x.1.tag) (default:Bool)) fun y1=>
 bif bif bif bif bif !(x.1.tag==[])then !(x.1.tag==[42])else false then !y1 else false then true else bif x.1.tag==[]then(x.1.simples.length:Int)==0 else false then true else decide ((x.1.simples.length:Int)>64)then
  some false
 else
  zZ (fun(s2:Int)=>
    bif decide (s2<(x.1.simples.length:Int))then
     za (geti x.1.simples s2) fun y3=>
     za (Ku Zl ((⟨y3.kind,y3.name,y3.op,y3.value,y3.fold,y3.anb,y3.of_,y3.list⟩:zw),x.2)) fun y4=>
     bif !y4 then
      some (LO.ret false)
     else
      some (LO.again (w64 (s2+1)))
    else
     some (LO.out ()):Int->Option (LO (Int) (Unit) _)) 0 fun o5=>
  some true
def XA(Zl:zf×zV×Bool->Option Bool)(x:zf×zV×Bool):Option Bool:=
 bif bif bif bif bif !((x.1.lead != 0)==x.2.2)then true else decide (x.1.lead>4)then true else(x.1.parts.length:Int)==0 then true else decide ((x.1.parts.length:Int)>64)then true else(x.1.combs.length:Int) != w64 ((x.1.parts.length:Int) - 1)then
  some false
 else
  zZ (fun(s1:Int)=>
    bif decide (s1<(x.1.parts.length:Int))then
     za (geti x.1.parts s1) fun y2=>
     za (eu Zl ((⟨y2.tag,y2.simples⟩:zI),x.2.1)) fun y3=>
     za (zA (decide (s1>0)&& !(!y3)) (geti x.1.combs (w64 (s1 - 1))) (default:UInt8)) fun y4=>
     za (zA (!(decide ((y4.toNat:Int)<1))&&(decide (s1>0)&& !(!y3))) (geti x.1.combs (w64 (s1 - 1))) (default:UInt8)) fun y5=>
     bif bif !y3 then true else bif decide (s1>0)then bif decide ((y4.toNat:Int)<1)then true else decide ((y5.toNat:Int)>4)else false then
      some (LO.ret false)
     else
      some (LO.again (w64 (s1+1)))
    else
     some (LO.out ()):Int->Option (LO (Int) (Unit) _)) 0 fun o6=>
  some true
def Zl:zf×zV×Bool->Option Bool:=recE (XA)
def Jy(x:List zf):Option Bool:=
 zZ (fun(s1:Int)=>
   bif decide (s1<(x.length:Int))then
    za (geti x s1) fun y2=>
    za (Zl ((⟨y2.lead,y2.parts,y2.combs⟩:zf),(⟨0,false⟩:zV),false)) fun y3=>
    bif !y3 then
     some (LO.ret false)
    else
     some (LO.again (w64 (s1+1)))
   else
    some (LO.out ()):Int->Option (LO (Int) (Unit) _)) 0 fun o4=>
 some (decide ((x.length:Int)>0))
def aB(QR:List zf->Option Int)(x:List zf):Option Int:=
 zZ (fun(s1:Int×Int)=>
   bif decide (s1.2<(x.length:Int))then
    zZ (fun(s2:Int×Int)=>
      za (geti x s1.2) fun y3=>
      bif decide (s2.2<(y3.parts.length:Int))then
       za (geti x s1.2) fun y4=>
       za (geti y4.parts s2.2) fun y5=>
       zZ (fun(s6:Int×Int)=>
         bif decide (s6.2<(y5.simples.length:Int))then
          za (geti y5.simples s6.2) fun y7=>
          za (QR y7.list) fun y8=>
          some (LO.again (w64 (s6.1+y8),w64 (s6.2+1)))
         else
          some (LO.out s6.1):Int×Int->Option (LO (Int×Int) (Int) _)) (s2.1,0) fun o9=>
       some (LO.again (o9,w64 (s2.2+1)))
      else
       some (LO.out s2.1):Int×Int->Option (LO (Int×Int) (Int) _)) (s1.1,0) fun o10=>
    some (LO.again (o10,w64 (s1.2+1)))
   else
    some (LO.out s1.1):Int×Int->Option (LO (Int×Int) (Int) _)) ((x.length:Int),0) fun o11=>
 some o11
def QR:List zf->Option Int:=recE (aB)
def Iz(x:List zf):Option Int:=
 za (Jy x) fun y1=>
 bif !y1 then
  some 8
 else
  za (QR x) fun y2=>
  bif decide (y2>64)then
   some 4
  else
   some 0
def Lu(Pi:List ze×List ze->Option Bool)(x:List ze×List ze):Option Bool:=
 bif (x.1.length:Int) != (x.2.length:Int)then
  some false
 else
  zZ (fun(s1:Int)=>
    bif decide (s1<(x.1.length:Int))then
     za (geti x.1 s1) fun y2=>
     za (geti x.2 s1) fun y3=>
     za (zA (!(!(y2.token.kind==y3.token.kind&&(y2.token.text==y3.token.text&&(y2.token.num==y3.token.num&&(y2.token.unit==y3.token.unit&&(y2.token.flag==y3.token.flag&&true))))))) (geti x.1 s1) (default:ze)) fun y4=>
     za (zA (!(!(y2.token.kind==y3.token.kind&&(y2.token.text==y3.token.text&&(y2.token.num==y3.token.num&&(y2.token.unit==y3.token.unit&&(y2.token.flag==y3.token.flag&&true))))))) (geti x.2 s1) (default:ze)) fun y5=>
     za (zA (!(!(y2.token.kind==y3.token.kind&&(y2.token.text==y3.token.text&&(y2.token.num==y3.token.num&&(y2.token.unit==y3.token.unit&&(y2.token.flag==y3.token.flag&&true))))))) (Pi (y4.list,y5.list)) (default:Bool)) fun y6=>
     bif bif !(y2.token.kind==y3.token.kind&&(y2.token.text==y3.token.text&&(y2.token.num==y3.token.num&&(y2.token.unit==y3.token.unit&&(y2.token.flag==y3.token.flag&&true)))))then true else !y6 then
      some (LO.ret false)
     else
      some (LO.again (w64 (s1+1)))
    else
     some (LO.out ()):Int->Option (LO (Int) (Unit) _)) 0 fun o7=>
  some true
def Pi:List ze×List ze->Option Bool:=recE (Lu)
def Vk(x:Zd×Zd):Option Bool:=
 za (zA (bif x.1.name==x.2.name then x.1.important==x.2.important else false) (Pi (x.1.value,x.2.value)) (default:Bool)) fun y1=>
 some (bif bif x.1.name==x.2.name then x.1.important==x.2.important else false then y1 else false)
def Ju(QJ:zo×zo->Option Bool)(x:zo×zo):Option Bool:=
 za (zA (!(bif bif x.1.kind != x.2.kind then true else !(x.1.name==x.2.name)then true else x.1.num != x.2.num)) (Vk (x.1.decl,x.2.decl)) (default:Bool)) fun y1=>
 bif bif bif bif bif x.1.kind != x.2.kind then true else !(x.1.name==x.2.name)then true else x.1.num != x.2.num then true else !y1 then true else(x.1.list.length:Int) != (x.2.list.length:Int)then
  some false
 else
  zZ (fun(s2:Int)=>
    bif decide (s2<(x.1.list.length:Int))then
     za (geti x.1.list s2) fun y3=>
     za (geti x.2.list s2) fun y4=>
     za (QJ ((⟨y3.kind,y3.name,y3.num,y3.decl,y3.list⟩:zo),(⟨y4.kind,y4.name,y4.num,y4.decl,y4.list⟩:zo))) fun y5=>
     bif !y5 then
      some (LO.ret false)
     else
      some (LO.again (w64 (s2+1)))
    else
     some (LO.out ()):Int->Option (LO (Int) (Unit) _)) 0 fun o6=>
  some true
def QJ:zo×zo->Option Bool:=recE (Ju)
def mo(x:zo):Option Bool:=
 za (QJ ((⟨x.kind,x.name,x.num,x.decl,x.list⟩:zo),(⟨0,[],0,(⟨[],[],false⟩:Zd),[]⟩:zo))) fun y1=>
 some y1
def Kz(x:Str):Option Bool:=
 bif bif decide ((x.length:Int)<1)then true else decide ((x.length:Int)>64)then
  some false
 else
  zZ (fun(s1:Int)=>
    bif decide (s1<(x.length:Int))then
     za (geti x s1) fun y2=>
     bif (y2.toNat:Int)==0 then
      some (LO.ret false)
     else
      some (LO.again (w64 (s1+1)))
    else
     some (LO.out ()):Int->Option (LO (Int) (Unit) _)) 0 fun o3=>
  need (decide (2<=(x.length:Int))|| !(decide ((x.length:Int)>=2)))<|
  bif bif decide ((x.length:Int)>=2)then List.take 2 x==[45,45]else false then
   some (decide ((x.length:Int)>2))
  else
   za (Qy x) fun y4=>
   some (x==y4)
def BB(Ql:List ze->Option (List zk))(x:List ze):Option (List zk):=
 zZ (fun(s1:Int×List zk)=>
   bif decide (s1.1<(x.length:Int))then
    zW (X:=Int×List zk) (
      za (geti x s1.1) fun y2=>
      need (Zo s1.2.length 1 56)<|
      za (geti x s1.1) fun y3=>
      za (Rp y3.token.kind) fun y4=>
      bif y4 != 0 then
       za (geti x s1.1) fun y5=>
       za (Ql y5.list) fun y6=>
       need (Zo (s1.2++[y2.token]).length y6.length 56)<|
       need (Zo (s1.2++[y2.token]++y6).length 1 56)<|
       some (LX.out (s1.1,s1.2++[y2.token]++y6++[(⟨y4,[],0,[],false⟩:zk)]))
      else
       some (LX.out (s1.1,s1.2++[y2.token]))) fun j7=>
    some (LO.again (w64 (j7.1+1),j7.2))
   else
    some (LO.out s1.2):Int×List zk->Option (LO (Int×List zk) (List zk) _)) (0,[]) fun o8=>
 some o8
def Ql:List ze->Option (List zk):=recE (BB)
def AB(QQ:List ze×Int->Option Bool)(x:List ze×Int):Option Bool:=
 zZ (fun(s1:Int)=>
   bif decide (s1<(x.1.length:Int))then
    za (geti x.1 s1) fun y2=>
    za (Rp y2.token.kind) fun y3=>
    za (zA (y3==0) (geti x.1 s1) (default:ze)) fun y4=>
    za (zA (x.2 != 0&& !(bif y3==0 then decide ((y4.list.length:Int)>0)else false)) (geti x.1 s1) (default:ze)) fun y5=>
    za (zA (y3 != 0&& !(bif bif y3==0 then decide ((y4.list.length:Int)>0)else false then true else bif x.2 != 0 then y5.token.kind==x.2 else false)) (geti x.1 s1) (default:ze)) fun y6=>
    za (zA (y3 != 0&& !(bif bif y3==0 then decide ((y4.list.length:Int)>0)else false then true else bif x.2 != 0 then y5.token.kind==x.2 else false)) (QQ (y6.list,y3)) (default:Bool)) fun y7=>
    bif bif bif bif y3==0 then decide ((y4.list.length:Int)>0)else false then true else bif x.2 != 0 then y5.token.kind==x.2 else false then true else bif y3 != 0 then !y7 else false then
     some (LO.ret false)
    else
     some (LO.again (w64 (s1+1)))
   else
    some (LO.out ()):Int->Option (LO (Int) (Unit) _)) 0 fun o8=>
 some true
def QQ:List ze×Int->Option Bool:=recE (AB)
def Nz(x:List ze):Option Int:=
 za (qV x) fun y1=>
 bif decide (y1>16)then
  some 20
 else
  za (Ql x) fun y2=>
  bif decide ((y2.length:Int)>1500)then
   some 4
  else
   za (QQ (x,0)) fun y3=>
   bif !y3 then
    some 8
   else
    some 0
def Am(x:Str):Option Bool:=
 zZ (fun(s1:Int)=>
   bif decide (s1<(x.length:Int))then
    za (geti x s1) fun y2=>
    bif (y2.toNat:Int)==0 then
     some (LO.ret false)
    else
     some (LO.again (w64 (s1+1)))
   else
    some (LO.out ()):Int->Option (LO (Int) (Unit) _)) 0 fun o3=>
 some true
def ZQ(x:Int):Option Bool:=
 some (bif decide (x>=48)then decide (x<=57)else false)
def Ny(x:Str):Option Bool:=
 bif x==[]then
  some false
 else
  za (geti x 0) fun y1=>
  za (ZQ (y1.toNat:Int)) fun y2=>
  za (zA (!(bif y2 then true else x==[45])) (geti x 0) 0) fun y3=>
  za (zA ((y3.toNat:Int)==45&& !(bif y2 then true else x==[45])) (geti x 1) 0) fun y4=>
  za (zA ((y3.toNat:Int)==45&& !(bif y2 then true else x==[45])) (ZQ (y4.toNat:Int)) (default:Bool)) fun y5=>
  some (bif bif y2 then true else x==[45]then true else bif (y3.toNat:Int)==45 then y5 else false)
def Tj(x:Int):Option Bool:=
 some (bif bif x==10 then true else x==9 then true else x==32)
def Zt(x:Str×Int):Option Int:=
 bif decide (x.2<(x.1.length:Int))then
  za (geti x.1 x.2) fun y1=>
  some (y1.toNat:Int)
 else
  some 0
def Gm(x:Str×Int):Option Int:=
 zZ (fun(s1:Int)=>
   za (Zt (x.1,s1)) fun y2=>
   za (Tj y2) fun y3=>
   bif y3 then
    some (LO.again (w64 (s1+1)))
   else
    some (LO.out s1):Int->Option (LO (Int) (Int) _)) x.2 fun o4=>
 some o4
def Py(x:Unit):Option Str:=
 some [(239:UInt8),(191:UInt8),(189:UInt8)]
def il(x:Int):Option Int:=
 za (ZQ x) fun y1=>
 bif y1 then
  some (w64 (wu8 (x - 48)))
 else
  za (Dm x) fun y2=>
  bif bif decide (y2>=97)then decide (y2<=102)else false then
   some (w64 (w64 (wu8 (y2 - 97))+10))
  else
   some (-1)
def VF(x:Int):Option Str:=
 bif bif bif x==0 then true else bif decide (x>=55296)then decide (x<=57343)else false then true else decide (x>1114111)then
  za (Py ()) fun y1=>
  some y1
 else
  bif decide (x<128)then
   za (Qc (wu8 x)) fun y2=>
   some [y2]
  else
   bif decide (x<2048)then
    za (Qc (wu8 (w64 (192+w64 (Int.tdiv x 64))))) fun y3=>
    za (Qc (wu8 (w64 (128+Int.tmod x 64)))) fun y4=>
    some [y3,y4]
   else
    bif decide (x<65536)then
     za (Qc (wu8 (w64 (224+w64 (Int.tdiv x 4096))))) fun y5=>
     za (Qc (wu8 (w64 (128+Int.tmod (w64 (Int.tdiv x 64)) 64)))) fun y6=>
     za (Qc (wu8 (w64 (128+Int.tmod x 64)))) fun y7=>
     some [y5,y6,y7]
    else
     za (Qc (wu8 (w64 (240+w64 (Int.tdiv x 262144))))) fun y8=>
     za (Qc (wu8 (w64 (128+Int.tmod (w64 (Int.tdiv x 4096)) 64)))) fun y9=>
     za (Qc (wu8 (w64 (128+Int.tmod (w64 (Int.tdiv x 64)) 64)))) fun y10=>
     za (Qc (wu8 (w64 (128+Int.tmod x 64)))) fun y11=>
     some [y8,y9,y10,y11]
def Im(x:Str×Int):Option (Str×Int):=
 bif decide (w64 (x.2+1)>=(x.1.length:Int))then
  za (Py ()) fun y1=>
  some (y1,w64 (x.2+1))
 else
  za (geti x.1 (w64 (x.2+1))) fun y2=>
  za (il (y2.toNat:Int)) fun y3=>
  bif decide (y3<0)then
   need (decide (0<=w64 (x.2+1))&&(decide (w64 (x.2+1)<=w64 (w64 (x.2+1)+1))&&decide (w64 (w64 (x.2+1)+1)<=(x.1.length:Int))))<|
   some (List.drop (w64 (x.2+1)).toNat (List.take (w64 (w64 (x.2+1)+1)).toNat x.1),w64 (w64 (x.2+1)+1))
  else
   zZ (fun(s4:Int×Int)=>
     za (zA (bif decide (s4.2<(x.1.length:Int))then decide (s4.2<w64 (w64 (x.2+1)+6))else false) (geti x.1 s4.2) 0) fun y5=>
     za (zA (bif decide (s4.2<(x.1.length:Int))then decide (s4.2<w64 (w64 (x.2+1)+6))else false) (il (y5.toNat:Int)) (default:Int)) fun y6=>
     bif bif bif decide (s4.2<(x.1.length:Int))then decide (s4.2<w64 (w64 (x.2+1)+6))else false then decide (y6>=0)else false then
      za (geti x.1 s4.2) fun y7=>
      za (il (y7.toNat:Int)) fun y8=>
      some (LO.again (w64 (w64 (16*s4.1)+y8),w64 (s4.2+1)))
     else
      some (LO.out (s4.1,s4.2)):Int×Int->Option (LO (Int×Int) (Int×Int) _)) (0,w64 (x.2+1)) fun o9=>
   zW (X:=Int) (
     za (Zt (x.1,o9.2)) fun y10=>
     za (Tj y10) fun y11=>
     bif y11 then
      some (LX.out (w64 (o9.2+1)))
     else
      some (LX.out o9.2)) fun j12=>
   za (VF o9.1) fun y13=>
   some (y13,j12)
def kz(x:Str×Int):Option (zk×Int):=
 za (geti x.1 x.2) fun y1=>
 zZ (fun(s2:Int×zk×zk)=>
   bif decide (s2.1<(x.1.length:Int))then
    za (geti x.1 s2.1) fun y3=>
    bif (y3.toNat:Int)==(y1.toNat:Int)then
     some (LO.ret (s2.2.2,w64 (s2.1+1)))
    else
     za (geti x.1 s2.1) fun y4=>
     bif (y4.toNat:Int)==10 then
      some (LO.ret ((⟨6,[],0,[],false⟩:zk),s2.1))
     else
      za (geti x.1 s2.1) fun y5=>
      bif bif (y5.toNat:Int)==92 then w64 (s2.1+1)==(x.1.length:Int)else false then
       some (LO.again (w64 (s2.1+1),s2.2.1,s2.2.2))
      else
       za (geti x.1 s2.1) fun y6=>
       za (zA ((y6.toNat:Int)==92) (geti x.1 (w64 (s2.1+1))) 0) fun y7=>
       bif bif (y6.toNat:Int)==92 then(y7.toNat:Int)==10 else false then
        some (LO.again (w64 (s2.1+2),s2.2.1,s2.2.2))
       else
        za (geti x.1 s2.1) fun y8=>
        bif (y8.toNat:Int)==92 then
         za (Im (x.1,s2.1)) fun y9=>
         need (Tf s2.2.2.text.length y9.1.length)<|
         some (LO.again (y9.2,s2.2.1,(⟨s2.2.2.kind,s2.2.2.text++y9.1,s2.2.2.num,s2.2.2.unit,s2.2.2.flag⟩:zk)))
        else
         need (decide (0<=s2.1)&&(decide (s2.1<=w64 (s2.1+1))&&decide (w64 (s2.1+1)<=(x.1.length:Int))))<|
         need (Tf s2.2.2.text.length (List.drop s2.1.toNat (List.take (w64 (s2.1+1)).toNat x.1)).length)<|
         some (LO.again (w64 (s2.1+1),s2.2.1,(⟨s2.2.2.kind,s2.2.2.text++List.drop s2.1.toNat (List.take (w64 (s2.1+1)).toNat x.1),s2.2.2.num,s2.2.2.unit,s2.2.2.flag⟩:zk)))
   else
    some (LO.out (s2.1,s2.2.1,s2.2.2)):Int×zk×zk->Option (LO (Int×zk×zk) (Int×zk×zk) _)) (w64 (x.2+1),(⟨0,[],0,[],false⟩:zk),(⟨5,[],0,[],false⟩:zk)) fun o10=>
 some (o10.2.2,o10.1)
def nz(x:Int):Option Bool:=
 za (Dm x) fun y1=>
 some (bif bif bif decide (y1>=97)then decide (y1<=122)else false then true else x==95 then true else decide (x>=128))
def Nu(x:Int):Option Bool:=
 za (nz x) fun y1=>
 za (zA (!y1) (ZQ x) (default:Bool)) fun y2=>
 some (bif bif y1 then true else y2 then true else x==45)
def qQ(x:Str×Int):Option Bool:=
 za (Zt (x.1,x.2)) fun y1=>
 za (zA (y1==92) (Zt (x.1,w64 (x.2+1))) (default:Int)) fun y2=>
 some (bif y1==92 then y2 != 10 else false)
def Cm(x:Str×Int):Option (Str×Int):=
 zZ (fun(s1:Int×Str)=>
   za (zA (decide (s1.1<(x.1.length:Int))) (geti x.1 s1.1) 0) fun y2=>
   za (zA (decide (s1.1<(x.1.length:Int))) (Nu (y2.toNat:Int)) (default:Bool)) fun y3=>
   bif bif decide (s1.1<(x.1.length:Int))then y3 else false then
    need (decide (0<=s1.1)&&(decide (s1.1<=w64 (s1.1+1))&&decide (w64 (s1.1+1)<=(x.1.length:Int))))<|
    need (Tf s1.2.length (List.drop s1.1.toNat (List.take (w64 (s1.1+1)).toNat x.1)).length)<|
    some (LO.again (w64 (s1.1+1),s1.2++List.drop s1.1.toNat (List.take (w64 (s1.1+1)).toNat x.1)))
   else
    za (zA (decide (s1.1<(x.1.length:Int))) (qQ (x.1,s1.1)) (default:Bool)) fun y4=>
    bif bif decide (s1.1<(x.1.length:Int))then y4 else false then
     za (Im (x.1,s1.1)) fun y5=>
     need (Tf s1.2.length y5.1.length)<|
     some (LO.again (y5.2,s1.2++y5.1))
    else
     some (LO.ret (s1.2,s1.1)):Int×Str->Option (LO (Int×Str) (Unit) _)) (x.2,[]) fun o6=>
 none
def QP(x:Str×Int):Option Bool:=
 za (Zt (x.1,x.2)) fun y1=>
 bif y1==45 then
  za (Zt (x.1,w64 (x.2+1))) fun y2=>
  za (nz y2) fun y3=>
  za (zA (!y3) (Zt (x.1,w64 (x.2+1))) (default:Int)) fun y4=>
  za (zA (!(bif y3 then true else y4==45)) (qQ (x.1,w64 (x.2+1))) (default:Bool)) fun y5=>
  some (bif bif y3 then true else y4==45 then true else y5)
 else
  za (Zt (x.1,x.2)) fun y6=>
  za (nz y6) fun y7=>
  za (zA (!y7) (qQ (x.1,x.2)) (default:Bool)) fun y8=>
  some (bif y7 then true else y8)
def sG(x:Str×Int):Option Bool:=
 zW (X:=Int) (
   za (Zt (x.1,x.2)) fun y1=>
   bif bif y1==43 then true else y1==45 then
    some (LX.out (w64 (x.2+1)))
   else
    some (LX.out x.2)) fun j2=>
 zW (X:=Int) (
   za (Zt (x.1,j2)) fun y3=>
   bif y3==46 then
    some (LX.out (w64 (j2+1)))
   else
    some (LX.out j2)) fun j4=>
 za (Zt (x.1,j4)) fun y5=>
 za (ZQ y5) fun y6=>
 some y6
def Tp(x:Str×Int):Option Int:=
 zZ (fun(s1:Int)=>
   za (Zt (x.1,s1)) fun y2=>
   za (ZQ y2) fun y3=>
   bif y3 then
    some (LO.again (w64 (s1+1)))
   else
    some (LO.out s1):Int->Option (LO (Int) (Int) _)) x.2 fun o4=>
 some o4
def eB(x:Str×Int):Option (Int×Bool):=
 zW (X:=Int) (
   za (Zt (x.1,x.2)) fun y1=>
   bif bif y1==43 then true else y1==45 then
    some (LX.out (w64 (x.2+1)))
   else
    some (LX.out x.2)) fun j2=>
 za (Tp (x.1,j2)) fun y3=>
 zW (X:=Int×Bool) (
   za (Zt (x.1,y3)) fun y4=>
   za (zA (y4==46) (Zt (x.1,w64 (y3+1))) (default:Int)) fun y5=>
   za (zA (y4==46) (ZQ y5) (default:Bool)) fun y6=>
   bif bif y4==46 then y6 else false then
    za (Tp (x.1,w64 (y3+1))) fun y7=>
    some (LX.out (y7,false))
   else
    some (LX.out (y3,true))) fun j8=>
 zW (X:=Int×Bool) (
   za (Zt (x.1,j8.1)) fun y9=>
   bif bif y9==101 then true else y9==69 then
    zW (X:=Int×Bool×Int) (
      za (Zt (x.1,w64 (j8.1+1))) fun y10=>
      bif bif y10==43 then true else y10==45 then
       some (LX.out (j8.1,j8.2,w64 (w64 (j8.1+1)+1)))
      else
       some (LX.out (j8.1,j8.2,w64 (j8.1+1)))) fun j11=>
    za (Zt (x.1,j11.2.2)) fun y12=>
    za (ZQ y12) fun y13=>
    bif y13 then
     za (Tp (x.1,j11.2.2)) fun y14=>
     some (LX.out (y14,false))
    else
     some (LX.out (j11.1,j11.2.1))
   else
    some (LX.out (j8.1,j8.2))) fun j15=>
 some (j15.1,j15.2)
def jC(x:Str):Option Int:=
 za (geti x 0) fun y1=>
 zW (X:=Str×Int×Int) (
   za (geti x 0) fun y2=>
   bif bif (y2.toNat:Int)==43 then true else(y1.toNat:Int)==45 then
    some (LX.out ([],3,1))
   else
    some (LX.out ([],3,0))) fun j3=>
 zZ (fun(s4:Str×Int)=>
   za (Zt (x,s4.2)) fun y5=>
   za (ZQ y5) fun y6=>
   bif y6 then
    need (decide (0<=s4.2)&&(decide (s4.2<=w64 (s4.2+1))&&decide (w64 (s4.2+1)<=(x.length:Int))))<|
    need (Tf s4.1.length (List.drop s4.2.toNat (List.take (w64 (s4.2+1)).toNat x)).length)<|
    some (LO.again (s4.1++List.drop s4.2.toNat (List.take (w64 (s4.2+1)).toNat x),w64 (s4.2+1)))
   else
    some (LO.out (s4.1,s4.2)):Str×Int->Option (LO (Str×Int) (Str×Int) _)) (j3.1,j3.2.2) fun o7=>
 zW (X:=Str×Int×Int) (
   za (Zt (x,o7.2)) fun y8=>
   bif y8==46 then
    zZ (fun(s9:Str×Int×Int)=>
      za (Zt (x,s9.2.2)) fun y10=>
      za (ZQ y10) fun y11=>
      bif y11 then
       need (decide (0<=s9.2.2)&&(decide (s9.2.2<=w64 (s9.2.2+1))&&decide (w64 (s9.2.2+1)<=(x.length:Int))))<|
       need (Tf s9.1.length (List.drop s9.2.2.toNat (List.take (w64 (s9.2.2+1)).toNat x)).length)<|
       some (LO.again (s9.1++List.drop s9.2.2.toNat (List.take (w64 (s9.2.2+1)).toNat x),w64 (s9.2.1 - 1),w64 (s9.2.2+1)))
      else
       some (LO.out (s9.1,s9.2.1,s9.2.2)):Str×Int×Int->Option (LO (Str×Int×Int) (Str×Int×Int) _)) (o7.1,j3.2.1,w64 (o7.2+1)) fun o12=>
    some (LX.out (o12.1,o12.2.1,o12.2.2))
   else
    some (LX.out (o7.1,j3.2.1,o7.2))) fun j13=>
 zW (X:=Int) (
   bif decide (j13.2.2<(x.length:Int))then
    za (geti x (w64 (j13.2.2+1))) fun y14=>
    zW (X:=Int×Int) (
      za (geti x (w64 (j13.2.2+1))) fun y15=>
      bif bif (y15.toNat:Int)==43 then true else(y14.toNat:Int)==45 then
       some (LX.out (j13.2.1,w64 (w64 (j13.2.2+1)+1)))
      else
       some (LX.out (j13.2.1,w64 (j13.2.2+1)))) fun j16=>
    zZ (fun(s17:Int×Int)=>
      bif decide (s17.1<(x.length:Int))then
       za (geti x s17.1) fun y18=>
       some (LO.again (w64 (s17.1+1),if w64 (w64 (10*s17.2)+w64 (wu8 ((y18.toNat:Int) - 48)))<10000 then w64 (w64 (10*s17.2)+w64 (wu8 ((y18.toNat:Int) - 48)))else 10000))
      else
       some (LO.out s17.2):Int×Int->Option (LO (Int×Int) (Int) _)) (j16.2,0) fun o19=>
    zW (X:=Int×Int) (
      bif (y14.toNat:Int)==45 then
       some (LX.out (j16.1,w64 (0 - o19)))
      else
       some (LX.out (j16.1,o19))) fun j20=>
    some (LX.out (w64 (j20.1+j20.2)))
   else
    some (LX.out j13.2.1)) fun j21=>
 zZ (fun(s22:Int×Int)=>
   bif bif decide (s22.2<w64 ((j13.1.length:Int)+j21))then decide (s22.2<(j13.1.length:Int))else false then
    za (geti j13.1 s22.2) fun y23=>
    some (LO.again (if w64 (w64 (10*s22.1)+w64 (wu8 ((y23.toNat:Int) - 48)))<1000000000000 then w64 (w64 (10*s22.1)+w64 (wu8 ((y23.toNat:Int) - 48)))else 1000000000000,w64 (s22.2+1)))
   else
    some (LO.out s22.1):Int×Int->Option (LO (Int×Int) (Int) _)) (0,0) fun o24=>
 zZ (fun(s25:Int×Int)=>
   bif bif bif decide (s25.1>0)then decide (s25.2>0)else false then decide (s25.2<1000000000000)else false then
    some (LO.again (w64 (s25.1 - 1),if w64 (10*s25.2)<1000000000000 then w64 (10*s25.2)else 1000000000000))
   else
    some (LO.out s25.2):Int×Int->Option (LO (Int×Int) (Int) _)) (j21,o24) fun o26=>
 bif (y1.toNat:Int)==45 then
  some (w64 (0 - o26))
 else
  some o26
def aA(x:Str×Int):Option (zk×Int):=
 za (eB (x.1,x.2)) fun y1=>
 need (decide (0<=x.2)&&(decide (x.2<=y1.1)&&decide (y1.1<=(x.1.length:Int))))<|
 za (jC (List.drop x.2.toNat (List.take y1.1.toNat x.1))) fun y2=>
 zW (X:=Int×zk×zk) (
   za (QP (x.1,y1.1)) fun y3=>
   bif y3 then
    za (Cm (x.1,y1.1)) fun y4=>
    some (LX.out (y4.2,(⟨0,[],0,[],false⟩:zk),(⟨12,[],y2,y4.1,y1.2⟩:zk)))
   else
    za (Zt (x.1,y1.1)) fun y5=>
    bif y5==37 then
     some (LX.out (w64 (y1.1+1),(⟨0,[],0,[],false⟩:zk),(⟨11,[],y2,[],false⟩:zk)))
    else
     some (LX.out (y1.1,(⟨0,[],0,[],false⟩:zk),(⟨10,[],y2,[],y1.2⟩:zk)))) fun j6=>
 some (j6.2.2,j6.1)
def Et(x:Str×Int×Str):Option Bool:=
 need (decide (0<=x.2.1)&&(decide (x.2.1<=w64 (x.2.1+(x.2.2.length:Int)))&&decide (w64 (x.2.1+(x.2.2.length:Int))<=(x.1.length:Int)))|| !(decide (w64 ((x.1.length:Int) - x.2.1)>=(x.2.2.length:Int))))<|
 some (bif decide (w64 ((x.1.length:Int) - x.2.1)>=(x.2.2.length:Int))then List.drop x.2.1.toNat (List.take (w64 (x.2.1+(x.2.2.length:Int))).toNat x.1)==x.2.2 else false)
def Uj(x:Str×Str):Option Bool:=
 za (Qy x.1) fun y1=>
 za (Qy x.2) fun y2=>
 some (y1==y2)
def Gt(x:Str×Int):Option (zk×Int):=
 zZ (fun(s1:Int)=>
   za (zA (decide (s1<(x.1.length:Int))) (geti x.1 s1) 0) fun y2=>
   bif bif decide (s1<(x.1.length:Int))then(y2.toNat:Int) != 41 else false then
    za (qQ (x.1,s1)) fun y3=>
    bif y3 then
     za (Im (x.1,s1)) fun y4=>
     some (LO.again y4.2)
    else
     some (LO.again (w64 (s1+1)))
   else
    some (LO.out s1):Int->Option (LO (Int) (Int) _)) x.2 fun o5=>
 some ((⟨8,[],0,[],false⟩:zk),if w64 (o5+1)<(x.1.length:Int)then w64 (o5+1)else(x.1.length:Int))
def jH(x:Int):Option Bool:=
 some (bif bif bif decide (x<=8)then true else x==11 then true else bif decide (x>=14)then decide (x<=31)else false then true else x==127)
def Fx(x:Str×Int):Option (zk×Int):=
 za (Gm (x.1,x.2)) fun y1=>
 zZ (fun(s2:Int×zk×zk)=>
   za (zA (decide (s2.1<(x.1.length:Int))) (geti x.1 s2.1) 0) fun y3=>
   bif bif decide (s2.1<(x.1.length:Int))then(y3.toNat:Int) != 41 else false then
    za (geti x.1 s2.1) fun y4=>
    za (Tj (y4.toNat:Int)) fun y5=>
    bif y5 then
     za (Gm (x.1,s2.1)) fun y6=>
     za (zA (decide (y6<(x.1.length:Int))) (geti x.1 y6) 0) fun y7=>
     bif bif decide (y6<(x.1.length:Int))then(y7.toNat:Int) != 41 else false then
      za (Gt (x.1,y6)) fun y8=>
      some (LO.ret (y8.1,y8.2))
     else
      some (LO.again (y6,s2.2.1,s2.2.2))
    else
     za (zA (!(bif bif (y4.toNat:Int)==34 then true else(y4.toNat:Int)==39 then true else(y4.toNat:Int)==40)) (jH (y4.toNat:Int)) (default:Bool)) fun y9=>
     za (zA ((y4.toNat:Int)==92&& !(bif bif bif (y4.toNat:Int)==34 then true else(y4.toNat:Int)==39 then true else(y4.toNat:Int)==40 then true else y9)) (qQ (x.1,s2.1)) (default:Bool)) fun y10=>
     bif bif bif bif bif (y4.toNat:Int)==34 then true else(y4.toNat:Int)==39 then true else(y4.toNat:Int)==40 then true else y9 then true else bif (y4.toNat:Int)==92 then !y10 else false then
      za (Gt (x.1,s2.1)) fun y11=>
      some (LO.ret (y11.1,y11.2))
     else
      bif (y4.toNat:Int)==92 then
       za (Im (x.1,s2.1)) fun y12=>
       need (Tf s2.2.2.text.length y12.1.length)<|
       some (LO.again (y12.2,s2.2.1,(⟨s2.2.2.kind,s2.2.2.text++y12.1,s2.2.2.num,s2.2.2.unit,s2.2.2.flag⟩:zk)))
      else
       need (decide (0<=s2.1)&&(decide (s2.1<=w64 (s2.1+1))&&decide (w64 (s2.1+1)<=(x.1.length:Int))))<|
       need (Tf s2.2.2.text.length (List.drop s2.1.toNat (List.take (w64 (s2.1+1)).toNat x.1)).length)<|
       some (LO.again (w64 (s2.1+1),s2.2.1,(⟨s2.2.2.kind,s2.2.2.text++List.drop s2.1.toNat (List.take (w64 (s2.1+1)).toNat x.1),s2.2.2.num,s2.2.2.unit,s2.2.2.flag⟩:zk)))
   else
    some (LO.out (s2.1,s2.2.1,s2.2.2)):Int×zk×zk->Option (LO (Int×zk×zk) (Int×zk×zk) _)) (y1,(⟨0,[],0,[],false⟩:zk),(⟨7,[],0,[],false⟩:zk)) fun o13=>
 some (o13.2.2,if w64 (o13.1+1)<(x.1.length:Int)then w64 (o13.1+1)else(x.1.length:Int))
def Oy(x:Str×Int):Option (zk×Int):=
 za (Cm (x.1,x.2)) fun y1=>
 za (Zt (x.1,y1.2)) fun y2=>
 bif y2 != 40 then
  some ((⟨1,y1.1,0,[],false⟩:zk),y1.2)
 else
  zW (X:=zk) (
    za (Uj (y1.1,[117,114,108])) fun y3=>
    bif y3 then
     za (Gm (x.1,w64 (y1.2+1))) fun y4=>
     za (Zt (x.1,y4)) fun y5=>
     bif bif y5 != 34 then y5 != 39 else false then
      za (Fx (x.1,w64 (y1.2+1))) fun y6=>
      some (LX.ret (y6.1,y6.2))
     else
      some (LX.out (⟨0,[],0,[],false⟩:zk))
    else
     some (LX.out (⟨0,[],0,[],false⟩:zk))) fun j7=>
  some ((⟨2,y1.1,0,[],false⟩:zk),w64 (y1.2+1))
def Yt(x:Int):Option Int:=
 bif x==58 then
  some 16
 else
  bif x==59 then
   some 17
  else
   bif x==44 then
    some 18
   else
    bif x==91 then
     some 19
    else
     bif x==93 then
      some 20
     else
      bif x==40 then
       some 21
      else
       bif x==41 then
        some 22
       else
        bif x==123 then
         some 23
        else
         bif x==125 then
          some 24
         else
          some 0
def Gx(x:Str×Int):Option (zk×Int):=
 za (geti x.1 x.2) fun y1=>
 za (Tj (y1.toNat:Int)) fun y2=>
 bif y2 then
  za (Gm (x.1,x.2)) fun y3=>
  some ((⟨13,[],0,[],false⟩:zk),y3)
 else
  bif bif (y1.toNat:Int)==34 then true else(y1.toNat:Int)==39 then
   za (kz (x.1,x.2)) fun y4=>
   some (y4.1,y4.2)
  else
   za (zA (decide (w64 (x.2+1)<(x.1.length:Int))&&(y1.toNat:Int)==35) (geti x.1 (w64 (x.2+1))) 0) fun y5=>
   za (zA (decide (w64 (x.2+1)<(x.1.length:Int))&&(y1.toNat:Int)==35) (Nu (y5.toNat:Int)) (default:Bool)) fun y6=>
   za (zA (!(bif decide (w64 (x.2+1)<(x.1.length:Int))then y6 else false)&&(y1.toNat:Int)==35) (qQ (x.1,w64 (x.2+1))) (default:Bool)) fun y7=>
   bif bif (y1.toNat:Int)==35 then bif bif decide (w64 (x.2+1)<(x.1.length:Int))then y6 else false then true else y7 else false then
    za (Cm (x.1,w64 (x.2+1))) fun y8=>
    za (QP (x.1,w64 (x.2+1))) fun y9=>
    some ((⟨4,y8.1,0,[],y9⟩:zk),y8.2)
   else
    za (sG (x.1,x.2)) fun y10=>
    bif y10 then
     za (aA (x.1,x.2)) fun y11=>
     some (y11.1,y11.2)
    else
     za (Et (x.1,x.2,[45,45,62])) fun y12=>
     bif y12 then
      some ((⟨15,[],0,[],false⟩:zk),w64 (x.2+3))
     else
      za (Et (x.1,x.2,[60,33,45,45])) fun y13=>
      bif y13 then
       some ((⟨14,[],0,[],false⟩:zk),w64 (x.2+4))
      else
       za (zA ((y1.toNat:Int)==64) (QP (x.1,w64 (x.2+1))) (default:Bool)) fun y14=>
       bif bif (y1.toNat:Int)==64 then y14 else false then
        za (Cm (x.1,w64 (x.2+1))) fun y15=>
        some ((⟨3,y15.1,0,[],false⟩:zk),y15.2)
       else
        za (QP (x.1,x.2)) fun y16=>
        bif y16 then
         za (Oy (x.1,x.2)) fun y17=>
         some (y17.1,y17.2)
        else
         za (Yt (y1.toNat:Int)) fun y18=>
         bif y18 != 0 then
          za (Yt (y1.toNat:Int)) fun y19=>
          some ((⟨y19,[],0,[],false⟩:zk),w64 (x.2+1))
         else
          need (decide (0<=x.2)&&(decide (x.2<=w64 (x.2+1))&&decide (w64 (x.2+1)<=(x.1.length:Int))))<|
          some ((⟨9,List.drop x.2.toNat (List.take (w64 (x.2+1)).toNat x.1),0,[],false⟩:zk),w64 (x.2+1))
def Q5(x:Int):Option Bool:=
 za (Qc x) fun y1=>
 za (Gx ([y1,(10:UInt8)],0)) fun y2=>
 some (bif bif bif bif decide (x>=1)then decide (x<=127)else false then x != 12 else false then x != 13 else false then y2.1.kind==9 else false)
def Ky(x:zk):Option Bool:=
 zW (X:=Bool×zk) (
   bif x.kind==1 then
    some (LX.out (x.kind==1,x))
   else
    bif x.kind==2 then
     some (LX.out (x.kind==2,x))
    else
     some (LX.out (x.kind==3,x))) fun j1=>
 bif j1.1 then
  za (zA (!(x.text==[])) (Am x.text) (default:Bool)) fun y2=>
  some (bif bif !(x.text==[])then y2 else false then j1.2.kind==x.kind&&(([]:Str)==[]&&(j1.2.num==0&&(j1.2.unit==[]&&(j1.2.flag==false&&true))))else false)
 else
  bif x.kind==4 then
   za (zA (!(x.text==[])) (Am x.text) (default:Bool)) fun y3=>
   za (zA (!x.flag&&(bif !(x.text==[])then y3 else false)) (Ny x.text) (default:Bool)) fun y4=>
   some (bif bif bif !(x.text==[])then y3 else false then bif x.flag then true else y4 else false then j1.2.kind==x.kind&&(([]:Str)==[]&&(j1.2.num==0&&(j1.2.unit==[]&&(false==false&&true))))else false)
  else
   zW (X:=Bool×zk) (
     bif x.kind==5 then
      some (LX.out (x.kind==5,j1.2))
     else
      some (LX.out (x.kind==7,j1.2))) fun j5=>
   bif j5.1 then
    za (Am x.text) fun y6=>
    some (bif y6 then j5.2.kind==x.kind&&(([]:Str)==[]&&(j5.2.num==0&&(j5.2.unit==[]&&(j5.2.flag==false&&true))))else false)
   else
    bif x.kind==9 then
     za (zA ((x.text.length:Int)==1) (geti x.text 0) 0) fun y7=>
     za (zA ((x.text.length:Int)==1) (Q5 (y7.toNat:Int)) (default:Bool)) fun y8=>
     some (bif bif (x.text.length:Int)==1 then y8 else false then j5.2.kind==x.kind&&(([]:Str)==[]&&(j5.2.num==0&&(j5.2.unit==[]&&(j5.2.flag==false&&true))))else false)
    else
     zW (X:=Bool×zk) (
       bif x.kind==10 then
        some (LX.out (x.kind==10,j5.2))
       else
        bif x.kind==11 then
         some (LX.out (x.kind==11,j5.2))
        else
         some (LX.out (x.kind==12,j5.2))) fun j9=>
     bif j9.1 then
      za (zA ((!(x.unit==[]))==(x.kind==12)) (Am x.unit) (default:Bool)) fun y10=>
      some (bif bif bif bif bif decide (x.num>=(-1000000000000))then decide (x.num<=1000000000000)else false then bif !x.flag then true else Int.tmod x.num 1000==0 else false then bif (!(x.unit==[]))==(x.kind==12)then y10 else false else false then bif x.kind != 11 then true else !x.flag else false then j9.2.kind==x.kind&&(j9.2.text==[]&&(0==0&&(([]:Str)==[]&&(false==false&&true))))else false)
     else
      zW (X:=Bool) (
        bif x.kind==6 then
         some (LX.out (x.kind==6))
        else
         some (LX.out (x.kind==8))) fun j11=>
      bif j11 then
       some false
      else
       some (bif bif decide (x.kind>=1)then decide (x.kind<=24)else false then x.kind==x.kind&&(x.text==[]&&(x.num==0&&(x.unit==[]&&(x.flag==false&&true))))else false)
def Jp(x:List zk):Option Int:=
 bif decide ((x.length:Int)>1500)then
  some 4
 else
  zZ (fun(s1:Int)=>
    bif decide (s1<(x.length:Int))then
     za (geti x s1) fun y2=>
     za (Ky y2) fun y3=>
     bif !y3 then
      some (LO.ret 8)
     else
      zW (X:=Unit) (
        za (geti x s1) fun y4=>
        za (zA (y4.kind==2) (geti x s1) (default:zk)) fun y5=>
        za (zA (y4.kind==2) (Uj (y5.text,[117,114,108])) (default:Bool)) fun y6=>
        bif bif y4.kind==2 then y6 else false then
         zW (X:=Int) (
           za (zA (decide (w64 (s1+1)<(x.length:Int))) (geti x (w64 (s1+1))) (default:zk)) fun y7=>
           bif bif decide (w64 (s1+1)<(x.length:Int))then y7.kind==13 else false then
            some (LX.out (w64 (w64 (s1+1)+1)))
           else
            some (LX.out (w64 (s1+1)))) fun j8=>
         za (zA (!(decide (j8>=(x.length:Int)))) (geti x j8) (default:zk)) fun y9=>
         bif bif decide (j8>=(x.length:Int))then true else y9.kind != 5 then
          some (LX.ret (LO.ret 8))
         else
          some (LX.out ())
        else
         some (LX.out ())) fun j10=>
      za (geti x s1) fun y11=>
      za (zA (y11.kind==9) (geti x s1) (default:zk)) fun y12=>
      za (zA (!(w64 (s1+1)==(x.length:Int))&&(bif y11.kind==9 then y12.text==[92]else false)) (geti x (w64 (s1+1))) (default:zk)) fun y13=>
      bif bif bif y11.kind==9 then y12.text==[92]else false then bif w64 (s1+1)==(x.length:Int)then true else y13.kind != 13 else false then
       some (LO.ret 8)
      else
       some (LO.again (w64 (s1+1)))
    else
     some (LO.out ()):Int->Option (LO (Int) (Unit) _)) 0 fun o14=>
  some 0
def dB(Qi:List ze->Option Bool)(x:List ze):Option Bool:=
 zZ (fun(s1:Int)=>
   bif decide (s1<(x.length:Int))then
    za (geti x s1) fun y2=>
    za (zA (!(bif bif y2.token.kind==20 then true else y2.token.kind==22 then true else y2.token.kind==24)) (geti x s1) (default:ze)) fun y3=>
    za (zA (!(bif bif y2.token.kind==20 then true else y2.token.kind==22 then true else y2.token.kind==24)) (Qi y3.list) (default:Bool)) fun y4=>
    bif bif bif bif y2.token.kind==20 then true else y2.token.kind==22 then true else y2.token.kind==24 then true else y4 then
     some (LO.ret true)
    else
     some (LO.again (w64 (s1+1)))
   else
    some (LO.out ()):Int->Option (LO (Int) (Unit) _)) 0 fun o5=>
 some false
def Qi:List ze->Option Bool:=recE (dB)
def YA(x:List ze):Option (List ze):=
 zZ (fun(s1:List ze)=>
   za (zA (decide ((s1.length:Int)>0)) (geti s1 0) (default:ze)) fun y2=>
   bif bif decide ((s1.length:Int)>0)then y2.token.kind==13 else false then
    need (decide (1<=(s1.length:Int)))<|
    some (LO.again (List.drop 1 s1))
   else
    some (LO.out s1):List ze->Option (LO (List ze) (List ze) _)) x fun o3=>
 zZ (fun(s4:List ze)=>
   za (zA (decide ((s4.length:Int)>0)) (geti s4 (w64 ((s4.length:Int) - 1))) (default:ze)) fun y5=>
   bif bif decide ((s4.length:Int)>0)then y5.token.kind==13 else false then
    need (decide (0<=w64 ((s4.length:Int) - 1))&&decide (w64 ((s4.length:Int) - 1)<=(s4.length:Int)))<|
    some (LO.again (List.take (w64 ((s4.length:Int) - 1)).toNat s4))
   else
    some (LO.out s4):List ze->Option (LO (List ze) (List ze) _)) o3 fun o6=>
 some o6
def dz(x:Str):Option Bool:=
 need (decide (2<=(x.length:Int))|| !(decide ((x.length:Int)>2)))<|
 some (bif decide ((x.length:Int)>2)then List.take 2 x==[45,45]else false)
def cz(x:Str×List ze):Option Bool:=
 za (Nz x.2) fun y1=>
 za (zA (!(y1 != 0)) (Ql x.2) (default:List zk)) fun y2=>
 za (zA (!(y1 != 0)) (Jp y2) (default:Int)) fun y3=>
 za (zA (!(bif y1 != 0 then true else y3 != 0)) (Qi x.2) (default:Bool)) fun y4=>
 bif bif bif y1 != 0 then true else y3 != 0 then true else y4 then
  some false
 else
  za (YA x.2) fun y5=>
  za (zA ((x.2.length:Int)==0&& !((y5.length:Int) != (x.2.length:Int))) (dz x.1) (default:Bool)) fun y6=>
  bif bif (y5.length:Int) != (x.2.length:Int)then true else bif (x.2.length:Int)==0 then !y6 else false then
   some false
  else
   zZ (fun(s7:Int)=>
     bif decide (s7<(x.2.length:Int))then
      za (geti x.2 s7) fun y8=>
      bif bif y8.token.kind==17 then true else bif y8.token.kind==9 then y8.token.text==[33]else false then
       some (LO.ret false)
      else
       some (LO.again (w64 (s7+1)))
     else
      some (LO.out ()):Int->Option (LO (Int) (Unit) _)) 0 fun o9=>
   some true
def yl(x:Zd):Option Int:=
 za (Kz x.name) fun y1=>
 za (zA (!(!y1)) (cz (x.name,x.value)) (default:Bool)) fun y2=>
 bif bif !y1 then true else !y2 then
  some 8
 else
  some 0
def Ep(x:Zd):Option Bool:=
 some (bif bif x.name==[]then(x.value.length:Int)==0 else false then !x.important else false)
def QS(x:zo):Option Bool:=
 za (zA (bif x.name==[]then x.num==0 else false) (Ep x.decl) (default:Bool)) fun y1=>
 some (bif bif x.name==[]then x.num==0 else false then y1 else false)
def Iu(x:Str):Option Bool:=
 za (zA (!(bif x==[]then true else decide ((x.length:Int)>64))) (Qy x) (default:Str)) fun y1=>
 bif bif bif bif bif bif bif x==[]then true else decide ((x.length:Int)>64)then true else !(x==y1)then true else x==[97,110,100]then true else x==[111,114]then true else x==[110,111,116]then true else x==[111,110,108,121]then
  some false
 else
  zZ (fun(s2:Int)=>
    bif decide (s2<(x.length:Int))then
     za (geti x s2) fun y3=>
     bif (y3.toNat:Int)==0 then
      some (LO.ret false)
     else
      some (LO.again (w64 (s2+1)))
    else
     some (LO.out ()):Int->Option (LO (Int) (Unit) _)) 0 fun o4=>
  some true
def Es(x:Int):Option Bool:=
 some (bif decide (x>=(-1000000000000))then decide (x<=1000000000000)else false)
def Dt(x:zo):Option (Bool×Bool):=
 za (zA (!(x.kind != 1)) (QS (⟨x.kind,x.name,x.num,x.decl,x.list⟩:zo)) (default:Bool)) fun y1=>
 bif bif bif x.kind != 1 then true else !y1 then true else(x.list.length:Int)==0 then
  some (false,false)
 else
  zZ (fun(s2:Int)=>
    bif decide (s2<(x.list.length:Int))then
     zW (X:=Int) (
       za (geti x.list s2) fun y3=>
       za (zA (!(decide ((y3.list.length:Int)>0))) (Ep y3.decl) (default:Bool)) fun y4=>
       bif bif decide ((y3.list.length:Int)>0)then true else !y4 then
        some (LX.ret (LO.ret (false,false)))
       else
        za (zA (bif bif s2==0 then y3.kind==4 else false then y3.num==0 else false) (Iu y3.name) (default:Bool)) fun y5=>
        bif bif bif bif s2==0 then y3.kind==4 else false then y3.num==0 else false then y5 else false then
         some (LX.out s2)
        else
         za (zA (!(bif bif bif y3.kind != 5 then y3.kind != 6 else false then true else !(y3.name==[])then true else decide (y3.num<0))) (Es y3.num) (default:Bool)) fun y6=>
         bif bif bif bif bif y3.kind != 5 then y3.kind != 6 else false then true else !(y3.name==[])then true else decide (y3.num<0)then true else !y6 then
          some (LX.ret (LO.ret (false,false)))
         else
          some (LX.out s2)) fun j7=>
     some (LO.again (w64 (j7+1)))
    else
     some (LO.out ()):Int->Option (LO (Int) (Unit) _)) 0 fun o8=>
  za (geti x.list 0) fun y9=>
  some (true,y9.kind==4)
def Fu(x:zo):Option Bool:=
 bif x.kind==3 then
  za (QS (⟨x.kind,x.name,x.num,x.decl,x.list⟩:zo)) fun y1=>
  bif bif !y1 then true else(x.list.length:Int) != 1 then
   some false
  else
   za (geti x.list 0) fun y2=>
   za (Dt (⟨y2.kind,y2.name,y2.num,y2.decl,y2.list⟩:zo)) fun y3=>
   some (bif y3.1 then y3.2 else false)
 else
  za (Dt (⟨x.kind,x.name,x.num,x.decl,x.list⟩:zo)) fun y4=>
  some y4.1
def Yz(x:zo):Option Bool:=
 za (QS (⟨x.kind,x.name,x.num,x.decl,x.list⟩:zo)) fun y1=>
 bif !y1 then
  some false
 else
  bif x.kind==1 then
   some ((x.list.length:Int)==0)
  else
   bif bif bif x.kind != 2 then true else decide ((x.list.length:Int)<1)then true else decide ((x.list.length:Int)>64)then
    some false
   else
    zZ (fun(s2:Int)=>
      bif decide (s2<(x.list.length:Int))then
       za (geti x.list s2) fun y3=>
       za (Fu (⟨y3.kind,y3.name,y3.num,y3.decl,y3.list⟩:zo)) fun y4=>
       bif !y4 then
        some (LO.ret false)
       else
        some (LO.again (w64 (s2+1)))
      else
       some (LO.out ()):Int->Option (LO (Int) (Unit) _)) 0 fun o5=>
    some true
def az(Oi:zo->Option Int)(x:zo):Option Int:=
 bif x.kind==7 then
  za (qV x.decl.value) fun y1=>
  some (w64 (1+y1))
 else
  bif x.kind==8 then
   some 1
  else
   zZ (fun(s2:Int×Int)=>
     bif decide (s2.2<(x.list.length:Int))then
      za (geti x.list s2.2) fun y3=>
      zW (X:=Int×Int) (
        bif bif y3.kind==7 then true else y3.kind==8 then
         some (LX.out (s2.1,0))
        else
         some (LX.out (s2.1,1))) fun j4=>
      za (geti x.list s2.2) fun y5=>
      za (Oi (⟨y5.kind,y5.name,y5.num,y5.decl,y5.list⟩:zo)) fun y6=>
      some (LO.again (if w64 (j4.2+y6)>j4.1 then w64 (j4.2+y6)else j4.1,w64 (s2.2+1)))
     else
      some (LO.out s2.1):Int×Int->Option (LO (Int×Int) (Int) _)) (0,0) fun o7=>
   some o7
def Oi:zo->Option Int:=recE (az)
def aC(Z9:zo->Option Bool)(x:zo):Option Bool:=
 bif x.kind==7 then
  za (zA (bif bif x.name==[]then x.num==0 else false then(x.list.length:Int)==0 else false) (yl x.decl) (default:Int)) fun y1=>
  some (bif bif bif x.name==[]then x.num==0 else false then(x.list.length:Int)==0 else false then y1==0 else false)
 else
  bif x.kind==8 then
   za (QS (⟨x.kind,x.name,x.num,x.decl,x.list⟩:zo)) fun y2=>
   some (bif y2 then(x.list.length:Int)==0 else false)
  else
   bif x.kind==3 then
    za (QS (⟨x.kind,x.name,x.num,x.decl,x.list⟩:zo)) fun y3=>
    za (zA (bif y3 then(x.list.length:Int)==1 else false) (geti x.list 0) (default:zo)) fun y4=>
    za (zA (bif y3 then(x.list.length:Int)==1 else false) (Z9 (⟨y4.kind,y4.name,y4.num,y4.decl,y4.list⟩:zo)) (default:Bool)) fun y5=>
    some (bif bif y3 then(x.list.length:Int)==1 else false then y5 else false)
   else
    zW (X:=Bool) (
      bif x.kind==1 then
       some (LX.out (x.kind==1))
      else
       some (LX.out (x.kind==2))) fun j6=>
    bif j6 then
     za (QS (⟨x.kind,x.name,x.num,x.decl,x.list⟩:zo)) fun y7=>
     bif bif !y7 then true else decide ((x.list.length:Int)<2)then
      some false
     else
      zZ (fun(s8:Int)=>
        bif decide (s8<(x.list.length:Int))then
         za (geti x.list s8) fun y9=>
         za (Z9 (⟨y9.kind,y9.name,y9.num,y9.decl,y9.list⟩:zo)) fun y10=>
         bif !y10 then
          some (LO.ret false)
         else
          some (LO.again (w64 (s8+1)))
        else
         some (LO.out ()):Int->Option (LO (Int) (Unit) _)) 0 fun o11=>
      some true
    else
     some false
def Z9:zo->Option Bool:=recE (aC)
def DC(x:zo):Option Bool:=
 za (qW ((⟨x.kind,x.name,x.num,x.decl,x.list⟩:zo),1500)) fun y1=>
 za (zA (decide (y1<=1500)) (Oi (⟨x.kind,x.name,x.num,x.decl,x.list⟩:zo)) (default:Int)) fun y2=>
 za (zA (bif decide (y1<=1500)then decide (y2<=16)else false) (Z9 (⟨x.kind,x.name,x.num,x.decl,x.list⟩:zo)) (default:Bool)) fun y3=>
 some (bif bif decide (y1<=1500)then decide (y2<=16)else false then y3 else false)
def Yp(x:List Str):Option Bool:=
 bif bif decide ((x.length:Int)<1)then true else decide ((x.length:Int)>16)then
  some false
 else
  zZ (fun(s1:Int)=>
    bif decide (s1<(x.length:Int))then
     za (geti x s1) fun y2=>
     za (ul y2) fun y3=>
     bif !y3 then
      some (LO.ret false)
     else
      some (LO.again (w64 (s1+1)))
    else
     some (LO.out ()):Int->Option (LO (Int) (Unit) _)) 0 fun o4=>
  some true
def XB(QT:zK->Option Bool)(x:zK):Option Bool:=
 zW (X:=Unit) (
   bif x.kind==1 then
    za (Iz x.selectors) fun y1=>
    za (zA (!(bif y1 != 0 then true else decide ((x.decls.length:Int)>32))) (mo (⟨x.cond.kind,x.cond.name,x.cond.num,x.cond.decl,x.cond.list⟩:zo)) (default:Bool)) fun y2=>
    bif bif bif bif bif y1 != 0 then true else decide ((x.decls.length:Int)>32)then true else !y2 then true else decide ((x.names.length:Int)>0)then true else decide ((x.rules.length:Int)>0)then
     some (LX.ret false)
    else
     zZ (fun(s3:Int)=>
       bif decide (s3<(x.decls.length:Int))then
        za (geti x.decls s3) fun y4=>
        za (yl y4) fun y5=>
        bif y5 != 0 then
         some (LO.ret (LX.ret false))
        else
         some (LO.again (w64 (s3+1)))
       else
        some (LO.out ()):Int->Option (LO (Int) (Unit) _)) 0 fun o6=>
     some (LX.ret true)
   else
    bif x.kind==2 then
     za (zA (!(bif !(bif (x.selectors.length:Int)==0 then(x.decls.length:Int)==0 else false)then true else decide ((x.names.length:Int)>0))) (Yz (⟨x.cond.kind,x.cond.name,x.cond.num,x.cond.decl,x.cond.list⟩:zo)) (default:Bool)) fun y7=>
     bif bif bif !(bif (x.selectors.length:Int)==0 then(x.decls.length:Int)==0 else false)then true else decide ((x.names.length:Int)>0)then true else !y7 then
      some (LX.ret false)
     else
      some (LX.out ())
    else
     bif x.kind==3 then
      za (zA (!(bif !(bif (x.selectors.length:Int)==0 then(x.decls.length:Int)==0 else false)then true else decide ((x.names.length:Int)>0))) (DC (⟨x.cond.kind,x.cond.name,x.cond.num,x.cond.decl,x.cond.list⟩:zo)) (default:Bool)) fun y8=>
      bif bif bif !(bif (x.selectors.length:Int)==0 then(x.decls.length:Int)==0 else false)then true else decide ((x.names.length:Int)>0)then true else !y8 then
       some (LX.ret false)
      else
       some (LX.out ())
     else
      bif x.kind==4 then
       za (zA (!(!(bif (x.selectors.length:Int)==0 then(x.decls.length:Int)==0 else false))) (mo (⟨x.cond.kind,x.cond.name,x.cond.num,x.cond.decl,x.cond.list⟩:zo)) (default:Bool)) fun y9=>
       bif bif bif !(bif (x.selectors.length:Int)==0 then(x.decls.length:Int)==0 else false)then true else !y9 then true else decide ((x.names.length:Int)>1)then
        some (LX.ret false)
       else
        some (LX.out ())
      else
       bif x.kind==5 then
        za (zA (!(!(bif (x.selectors.length:Int)==0 then(x.decls.length:Int)==0 else false))) (mo (⟨x.cond.kind,x.cond.name,x.cond.num,x.cond.decl,x.cond.list⟩:zo)) (default:Bool)) fun y10=>
        bif bif bif bif bif !(bif (x.selectors.length:Int)==0 then(x.decls.length:Int)==0 else false)then true else !y10 then true else decide ((x.names.length:Int)<1)then true else decide ((x.names.length:Int)>64)then true else decide ((x.rules.length:Int)>0)then
         some (LX.ret false)
        else
         some (LX.out ())
       else
        some (LX.ret false)) fun j11=>
 zZ (fun(s12:Int)=>
   bif decide (s12<(x.names.length:Int))then
    za (geti x.names s12) fun y13=>
    za (Yp y13) fun y14=>
    bif !y14 then
     some (LO.ret false)
    else
     some (LO.again (w64 (s12+1)))
   else
    some (LO.out ()):Int->Option (LO (Int) (Unit) _)) 0 fun o15=>
 zZ (fun(s16:Int)=>
   bif decide (s16<(x.rules.length:Int))then
    za (geti x.rules s16) fun y17=>
    za (QT (⟨y17.kind,y17.selectors,y17.decls,(⟨y17.cond.kind,y17.cond.name,y17.cond.num,y17.cond.decl,y17.cond.list⟩:zo),y17.names,y17.rules⟩:zK)) fun y18=>
    bif !y18 then
     some (LO.ret false)
    else
     some (LO.again (w64 (s16+1)))
   else
    some (LO.out ()):Int->Option (LO (Int) (Unit) _)) 0 fun o19=>
 some true
def QT:zK->Option Bool:=recE (XB)
def sF(x:zw):Option Bool:=
 some (bif bif bif x.kind==9 then true else x.kind==10 then !x.of_ else false then x.anb.a==0&&(x.anb.b==1&&true)else false)
def BC(qK:List zf->Option Int)(x:List zf):Option Int:=
 zZ (fun(s1:Int×Int)=>
   bif decide (s1.2<(x.length:Int))then
    zZ (fun(s2:Int×Int)=>
      za (geti x s1.2) fun y3=>
      bif decide (s2.2<(y3.parts.length:Int))then
       za (geti x s1.2) fun y4=>
       za (geti y4.parts s2.2) fun y5=>
       zZ (fun(s6:Int×Int)=>
         bif decide (s6.2<(y5.simples.length:Int))then
          zW (X:=Int×Int) (
            za (geti y5.simples s6.2) fun y7=>
            za (zA (!(y7.kind==3)) (geti y5.simples s6.2) (default:zw)) fun y8=>
            za (zA (decide (y8.kind>=9)&& !(y7.kind==3)) (geti y5.simples s6.2) (default:zw)) fun y9=>
            za (zA (decide (y8.kind>=9)&& !(y7.kind==3)) (sF (⟨y9.kind,y9.name,y9.op,y9.value,y9.fold,y9.anb,y9.of_,y9.list⟩:zw)) (default:Bool)) fun y10=>
            bif bif y7.kind==3 then true else bif decide (y8.kind>=9)then !y10 else false then
             za (geti y5.simples s6.2) fun y11=>
             za (qK y11.list) fun y12=>
             some (LX.out (if w64 (1+y12)>s6.1 then w64 (1+y12)else s6.1,s6.2))
            else
             some (LX.out (s6.1,s6.2))) fun j13=>
          some (LO.again (j13.1,w64 (j13.2+1)))
         else
          some (LO.out s6.1):Int×Int->Option (LO (Int×Int) (Int) _)) (s2.1,0) fun o14=>
       some (LO.again (o14,w64 (s2.2+1)))
      else
       some (LO.out s2.1):Int×Int->Option (LO (Int×Int) (Int) _)) (s1.1,0) fun o15=>
    some (LO.again (o15,w64 (s1.2+1)))
   else
    some (LO.out s1.1):Int×Int->Option (LO (Int×Int) (Int) _)) (0,0) fun o16=>
 some o16
def qK:List zf->Option Int:=recE (BC)
def YC(x:zK):Option Int:=
 bif x.kind==3 then
  za (Oi (⟨x.cond.kind,x.cond.name,x.cond.num,x.cond.decl,x.cond.list⟩:zo)) fun y1=>
  some y1
 else
  zZ (fun(s2:Int×Int)=>
    bif decide (s2.2<(x.cond.list.length:Int))then
     za (geti x.cond.list s2.2) fun y3=>
     zW (X:=Int×zo) (
       bif bif y3.kind==3 then(y3.list.length:Int)==1 else false then
        za (geti y3.list 0) fun y4=>
        some (LX.out (s2.1,(⟨y4.kind,y4.name,y4.num,y4.decl,y4.list⟩:zo)))
       else
        some (LX.out (s2.1,(⟨y3.kind,y3.name,y3.num,y3.decl,y3.list⟩:zo)))) fun j5=>
     zZ (fun(s6:Int×Int)=>
       bif decide (s6.2<(j5.2.list.length:Int))then
        zW (X:=Int×Int) (
          za (geti j5.2.list s6.2) fun y7=>
          bif y7.kind != 4 then
           some (LX.out (1,s6.2))
          else
           some (LX.out (s6.1,s6.2))) fun j8=>
        some (LO.again (j8.1,w64 (j8.2+1)))
       else
        some (LO.out s6.1):Int×Int->Option (LO (Int×Int) (Int) _)) (j5.1,0) fun o9=>
     some (LO.again (o9,w64 (s2.2+1)))
    else
     some (LO.out s2.1):Int×Int->Option (LO (Int×Int) (Int) _)) (0,0) fun o10=>
  some o10
def Xz(Kj:List zK->Option Int)(x:List zK):Option Int:=
 zZ (fun(s1:Int×Int)=>
   bif decide (s1.2<(x.length:Int))then
    zW (X:=Int×Int) (
      za (geti x s1.2) fun y2=>
      bif y2.kind==5 then
       some (LX.out (s1.1,s1.2))
      else
       za (geti x s1.2) fun y3=>
       za (Kj y3.rules) fun y4=>
       zZ (fun(s5:Int×Int)=>
         za (geti x s1.2) fun y6=>
         bif decide (s5.2<(y6.decls.length:Int))then
          za (geti x s1.2) fun y7=>
          za (geti y7.decls s5.2) fun y8=>
          za (qV y8.value) fun y9=>
          some (LO.again (if y9>s5.1 then y9 else s5.1,w64 (s5.2+1)))
         else
          some (LO.out s5.1):Int×Int->Option (LO (Int×Int) (Int) _)) (y4,0) fun o10=>
       za (geti x s1.2) fun y11=>
       za (qK y11.selectors) fun y12=>
       za (geti x s1.2) fun y13=>
       za (YC (⟨y13.kind,y13.selectors,y13.decls,(⟨y13.cond.kind,y13.cond.name,y13.cond.num,y13.cond.decl,y13.cond.list⟩:zo),y13.names,y13.rules⟩:zK)) fun y14=>
       some (LX.out (if y14>(if y12>(if w64 (1+o10)>s1.1 then w64 (1+o10)else s1.1)then y12 else if w64 (1+o10)>s1.1 then w64 (1+o10)else s1.1)then y14 else if y12>(if w64 (1+o10)>s1.1 then w64 (1+o10)else s1.1)then y12 else if w64 (1+o10)>s1.1 then w64 (1+o10)else s1.1,s1.2))) fun j15=>
    some (LO.again (j15.1,w64 (j15.2+1)))
   else
    some (LO.out s1.1):Int×Int->Option (LO (Int×Int) (Int) _)) (0,0) fun o16=>
 some o16
def Kj:List zK->Option Int:=recE (Xz)
def Cz(x:List zK):Option Bool:=
 za (Qm x) fun y1=>
 bif decide (y1>64)then
  some false
 else
  zZ (fun(s2:Int)=>
    bif decide (s2<(x.length:Int))then
     za (geti x s2) fun y3=>
     za (QT (⟨y3.kind,y3.selectors,y3.decls,(⟨y3.cond.kind,y3.cond.name,y3.cond.num,y3.cond.decl,y3.cond.list⟩:zo),y3.names,y3.rules⟩:zK)) fun y4=>
     bif !y4 then
      some (LO.ret false)
     else
      some (LO.again (w64 (s2+1)))
    else
     some (LO.out ()):Int->Option (LO (Int) (Unit) _)) 0 fun o5=>
  za (Kj x) fun y6=>
  some (decide (y6<=16))
def Dp(x:ZI):Option Int:=
 za (Cz x.rules) fun y1=>
 bif !y1 then
  some 8
 else
  some 0
def Bz(x:Ze):Option Int:=
 bif bif bif decide ((x.sheets.length:Int)>8)then true else decide (x.next<0)then true else decide (x.next>1000)then
  some 8
 else
  zZ (fun(s1:Int×Int)=>
    bif decide (s1.2<(x.sheets.length:Int))then
     za (geti x.sheets s1.2) fun y2=>
     za (zA (!(bif bif bif decide (y2.number<=s1.1)then true else decide (y2.number>=x.next)then true else decide (y2.origin<1)then true else decide (y2.origin>3))) (UF y2.site) (default:Bool)) fun y3=>
     za (zA (!(bif bif bif bif decide (y2.number<=s1.1)then true else decide (y2.number>=x.next)then true else decide (y2.origin<1)then true else decide (y2.origin>3)then true else !y3)) (Dp y2.sheet) (default:Int)) fun y4=>
     bif bif bif bif bif bif decide (y2.number<=s1.1)then true else decide (y2.number>=x.next)then true else decide (y2.origin<1)then true else decide (y2.origin>3)then true else !y3 then true else y4 != 0 then
      some (LO.ret 8)
     else
      some (LO.again (y2.number,w64 (s1.2+1)))
    else
     some (LO.out ()):Int×Int->Option (LO (Int×Int) (Unit) _)) ((-1),0) fun o5=>
  some 0
def Ay(x:Ze):Option Bool:=
 za (Az x) fun y1=>
 za (zA (!y1) (Bz x) (default:Int)) fun y2=>
 some (bif !y1 then y2==0 else false)
def qN(x:List Str):Option Int:=
 zZ (fun(s1:Int)=>
   bif decide (s1<(x.length:Int))then
    za (geti x s1) fun y2=>
    za (Cq y2) fun y3=>
    bif y3 then
     some (LO.ret s1)
    else
     some (LO.again (w64 (s1+1)))
   else
    some (LO.out ()):Int->Option (LO (Int) (Unit) _)) 0 fun o4=>
 some (-1)
def qm(x:List Str):Option Bool:=
 za (qN x) fun y1=>
 some (decide (y1>=0))
def Sz(x:List Str):Option Bool:=
 za (zA (bif decide ((x.length:Int)>0)then decide ((x.length:Int)<=16)else false) (qm x) (default:Bool)) fun y1=>
 some (bif bif decide ((x.length:Int)>0)then decide ((x.length:Int)<=16)else false then !y1 else false)
def KA(x:List Str):Option Bool:=
 za (Sz x) fun y1=>
 some (!y1)
def NI(x:List (List Str)):Option Int:=
 zZ (fun(s1:Int)=>
   bif decide (s1<(x.length:Int))then
    za (geti x s1) fun y2=>
    za (KA y2) fun y3=>
    bif y3 then
     some (LO.ret s1)
    else
     some (LO.again (w64 (s1+1)))
   else
    some (LO.out ()):Int->Option (LO (Int) (Unit) _)) 0 fun o4=>
 some (-1)
def qH(x:List (List Str)):Option Bool:=
 za (NI x) fun y1=>
 some (decide (y1>=0))
def yB(qM:List zf->Option Int)(x:List zf):Option Int:=
 zZ (fun(s1:Int×Int)=>
   bif decide (s1.2<(x.length:Int))then
    za (geti x s1.2) fun y2=>
    zZ (fun(s3:Int×Int)=>
      bif decide (s3.2<(y2.parts.length:Int))then
       za (geti y2.parts s3.2) fun y4=>
       zZ (fun(s5:Int×Int)=>
         bif decide (s5.2<(y4.simples.length:Int))then
          zW (X:=Int×Int) (
            za (geti y4.simples s5.2) fun y6=>
            bif bif y6.kind==3 then true else bif decide (y6.kind>=9)then !(bif bif bif y6.kind==9 then true else y6.kind==10 then !y6.of_ else false then y6.anb.a==0&&(y6.anb.b==1&&true)else false)else false then
             za (qM y6.list) fun y7=>
             some (LX.out (if w64 (y7+1)>s5.1 then w64 (y7+1)else s5.1,s5.2))
            else
             some (LX.out (s5.1,s5.2))) fun j8=>
          some (LO.again (j8.1,w64 (j8.2+1)))
         else
          some (LO.out s5.1):Int×Int->Option (LO (Int×Int) (Int) _)) (s3.1,0) fun o9=>
       some (LO.again (o9,w64 (s3.2+1)))
      else
       some (LO.out s3.1):Int×Int->Option (LO (Int×Int) (Int) _)) (s1.1,0) fun o10=>
    some (LO.again (o10,w64 (s1.2+1)))
   else
    some (LO.out s1.1):Int×Int->Option (LO (Int×Int) (Int) _)) (0,0) fun o11=>
 some o11
def qM:List zf->Option Int:=recE (yB)
def Yk(x:Str):Option Str:=
 need (decide (x.length<=maxLen))<|
 zZ (fun(s1:Int×List UInt8)=>
   bif decide (s1.1<(x.length:Int))then
    zW (X:=Int×List UInt8) (
      need (decide (0<=s1.1)&&decide (s1.1<(s1.2.length:Int)))<|
      za s1.2[s1.1.toNat]? fun y2=>
      bif bif decide (65<=(y2.toNat:Int))then decide ((y2.toNat:Int)<=90)else false then
       need (decide (0<=s1.1)&&decide (s1.1<(s1.2.length:Int)))<|
       za s1.2[s1.1.toNat]? fun y3=>
       need (decide (0<=s1.1)&&decide (s1.1<(s1.2.length:Int)))<|
       za s1.2[s1.1.toNat]? fun y4=>
       za (Qc (ibOr IntKind.u8 (y3.toNat:Int) 32)) fun y5=>
       some (LX.out (s1.1,List.set s1.2 s1.1.toNat y5))
      else
       some (LX.out (s1.1,s1.2))) fun j6=>
    some (LO.again (w64 (j6.1+1),j6.2))
   else
    some (LO.out s1.2):Int×List UInt8->Option (LO (Int×List UInt8) (List UInt8) _)) (0,x) fun o7=>
 some o7
def Dq(x:Str):Option Bool:=
 za (QU x) fun y1=>
 za (zA y1 (Yk x) (default:Str)) fun y2=>
 some (bif y1 then y2==x else false)
def UH(zC:zf×zg×Bool->Option Bool)(x:zf×zg×zw):Option Bool:=
 za (zC ((⟨x.1.lead,x.1.parts,x.1.combs⟩:zf),x.2.1,x.2.2.kind==14)) fun y1=>
 some (!y1)
def QI(zC:zf×zg×Bool->Option Bool)(x:List zf×zg×zw):Option Int:=
 zZ (fun(s1:Int)=>
   bif decide (s1<(x.1.length:Int))then
    za (geti x.1 s1) fun y2=>
    za (UH zC ((⟨y2.lead,y2.parts,y2.combs⟩:zf),x.2.1,(⟨x.2.2.kind,x.2.2.name,x.2.2.op,x.2.2.value,x.2.2.fold,x.2.2.anb,x.2.2.of_,x.2.2.list⟩:zw))) fun y3=>
    bif y3 then
     some (LO.ret s1)
    else
     some (LO.again (w64 (s1+1)))
   else
    some (LO.out ()):Int->Option (LO (Int) (Unit) _)) 0 fun o4=>
 some (-1)
def qd(zC:zf×zg×Bool->Option Bool)(x:List zf×zg×zw):Option Bool:=
 za (QI zC (x.1,x.2.1,(⟨x.2.2.kind,x.2.2.name,x.2.2.op,x.2.2.value,x.2.2.fold,x.2.2.anb,x.2.2.of_,x.2.2.list⟩:zw))) fun y1=>
 some (decide (y1>=0))
def Yu(zC:zf×zg×Bool->Option Bool)(x:zw×zg):Option Bool:=
 za (Vu (⟨x.1.kind,x.1.name,x.1.op,x.1.value,x.1.fold,x.1.anb,x.1.of_,x.1.list⟩:zw)) fun y1=>
 zW (X:=Unit) (
   bif y1.1 then
    za (Qa (x.2,x.1.kind)) fun y2=>
    za (zA (!(bif !y2.2 then true else bif !y1.2 then(x.1.list.length:Int)==0 else false)) (qd zC (x.1.list,y2.1,(⟨x.1.kind,x.1.name,x.1.op,x.1.value,x.1.fold,x.1.anb,x.1.of_,x.1.list⟩:zw))) (default:Bool)) fun y3=>
    bif bif bif !y2.2 then true else bif !y1.2 then(x.1.list.length:Int)==0 else false then true else y3 then
     some (LX.ret false)
    else
     some (LX.out ())
   else
    bif decide ((x.1.list.length:Int)>0)then
     some (LX.ret false)
    else
     some (LX.out ())) fun j4=>
 bif bif bif !(x.1.kind==3)then bif bif x.1.op != 0 then true else !(x.1.value==[])then true else x.1.fold else false then true else bif !(bif x.1.kind==9 then true else x.1.kind==10)then bif x.1.of_ then true else !(x.1.anb.a==0&&(x.1.anb.b==0&&true))else false then
  some false
 else
  zW (X:=Bool) (
    bif x.1.kind==1 then
     some (LX.out (x.1.kind==1))
    else
     some (LX.out (x.1.kind==2))) fun j5=>
  bif j5 then
   za (QU x.1.name) fun y6=>
   some y6
  else
   bif x.1.kind==3 then
    za (Dq x.1.name) fun y7=>
    za (zA (bif y7 then decide (x.1.op<=6)else false) (Em (x.1.value,400)) (default:Bool)) fun y8=>
    some (bif bif bif y7 then decide (x.1.op<=6)else false then !y8 else false then bif x.1.op != 0 then true else bif x.1.value==[]then !x.1.fold else false else false)
   else
    za (zA (!(!(bif x.1.kind==9 then true else x.1.kind==10))&&(bif bif x.1.name==[]then decide (x.1.kind>=4)else false then decide (x.1.kind<=14)else false)) (Vo x.1.anb) (default:Int)) fun y9=>
    some (bif bif bif x.1.name==[]then decide (x.1.kind>=4)else false then decide (x.1.kind<=14)else false then bif !(bif x.1.kind==9 then true else x.1.kind==10)then true else y9==0 else false)
def AC(zC:zf×zg×Bool->Option Bool)(x:zI×zg):Option Bool:=
 za (zA (bif !(x.1.tag==[])then !(x.1.tag==[42])else false) (Dq x.1.tag) (default:Bool)) fun y1=>
 bif bif bif bif !(x.1.tag==[])then !(x.1.tag==[42])else false then !y1 else false then true else decide ((x.1.simples.length:Int)>64)then
  some false
 else
  zZ (fun(s2:Int)=>
    bif decide (s2<(x.1.simples.length:Int))then
     za (geti x.1.simples s2) fun y3=>
     za (Yu zC ((⟨y3.kind,y3.name,y3.op,y3.value,y3.fold,y3.anb,y3.of_,y3.list⟩:zw),x.2)) fun y4=>
     bif !y4 then
      some (LO.ret false)
     else
      some (LO.again (w64 (s2+1)))
    else
     some (LO.out ()):Int->Option (LO (Int) (Unit) _)) 0 fun o5=>
  some (bif !(x.1.tag==[])then true else decide ((x.1.simples.length:Int)>0))
def PH(zC:zf×zg×Bool->Option Bool)(x:zI×zg):Option Bool:=
 za (AC zC ((⟨x.1.tag,x.1.simples⟩:zI),x.2)) fun y1=>
 some (!y1)
def Q8(zC:zf×zg×Bool->Option Bool)(x:List zI×zg):Option Int:=
 zZ (fun(s1:Int)=>
   bif decide (s1<(x.1.length:Int))then
    za (geti x.1 s1) fun y2=>
    za (PH zC ((⟨y2.tag,y2.simples⟩:zI),x.2)) fun y3=>
    bif y3 then
     some (LO.ret s1)
    else
     some (LO.again (w64 (s1+1)))
   else
    some (LO.out ()):Int->Option (LO (Int) (Unit) _)) 0 fun o4=>
 some (-1)
def ql(zC:zf×zg×Bool->Option Bool)(x:List zI×zg):Option Bool:=
 za (Q8 zC (x.1,x.2)) fun y1=>
 some (decide (y1>=0))
def bB(zC:zf×zg×Bool->Option Bool)(x:zf×zg×Bool):Option Bool:=
 bif bif bif bif !(x.2.2==(x.1.lead != 0))then true else decide (x.1.lead>4)then true else w64 ((x.1.combs.length:Int)+1) != (x.1.parts.length:Int)then true else decide ((x.1.parts.length:Int)>64)then
  some false
 else
  zZ (fun(s1:Int)=>
    bif decide (s1<(x.1.combs.length:Int))then
     za (geti x.1.combs s1) fun y2=>
     bif bif decide ((y2.toNat:Int)<1)then true else decide ((y2.toNat:Int)>4)then
      some (LO.ret false)
     else
      some (LO.again (w64 (s1+1)))
    else
     some (LO.out ()):Int->Option (LO (Int) (Unit) _)) 0 fun o3=>
  za (ql zC (x.1.parts,x.2.1)) fun y4=>
  some (!y4)
def zC:zf×zg×Bool->Option Bool:=recE (bB)
def RH(x:zf):Option Bool:=
 za (zC ((⟨x.lead,x.parts,x.combs⟩:zf),(⟨0,false⟩:zg),false)) fun y1=>
 some (!y1)
def II(x:List zf):Option Int:=
 zZ (fun(s1:Int)=>
   bif decide (s1<(x.length:Int))then
    za (geti x s1) fun y2=>
    za (RH (⟨y2.lead,y2.parts,y2.combs⟩:zf)) fun y3=>
    bif y3 then
     some (LO.ret s1)
    else
     some (LO.again (w64 (s1+1)))
   else
    some (LO.out ()):Int->Option (LO (Int) (Unit) _)) 0 fun o4=>
 some (-1)
def qx(x:List zf):Option Bool:=
 za (II x) fun y1=>
 some (decide (y1>=0))
def cB(Qj:List zf->Option Int)(x:List zf):Option Int:=
 zZ (fun(s1:Int×Int)=>
   bif decide (s1.2<(x.length:Int))then
    za (geti x s1.2) fun y2=>
    zZ (fun(s3:Int×Int)=>
      bif decide (s3.2<(y2.parts.length:Int))then
       za (geti y2.parts s3.2) fun y4=>
       zZ (fun(s5:Int×Int)=>
         bif decide (s5.2<(y4.simples.length:Int))then
          za (geti y4.simples s5.2) fun y6=>
          za (Qj y6.list) fun y7=>
          some (LO.again (w64 (s5.1+y7),w64 (s5.2+1)))
         else
          some (LO.out s5.1):Int×Int->Option (LO (Int×Int) (Int) _)) (s3.1,0) fun o8=>
       some (LO.again (o8,w64 (s3.2+1)))
      else
       some (LO.out s3.1):Int×Int->Option (LO (Int×Int) (Int) _)) (s1.1,0) fun o9=>
    some (LO.again (o9,w64 (s1.2+1)))
   else
    some (LO.out s1.1):Int×Int->Option (LO (Int×Int) (Int) _)) ((x.length:Int),0) fun o10=>
 some o10
def Qj:List zf->Option Int:=recE (cB)
def xA(x:List zf):Option Int:=
 za (zA (!((x.length:Int)==0)) (qx x) (default:Bool)) fun y1=>
 bif bif (x.length:Int)==0 then true else y1 then
  some 8
 else
  za (Qj x) fun y2=>
  bif decide (y2>64)then
   some 4
  else
   some 0
def iy(Li:List ze×Int->Option zS)(x:List ze×Int):Option zS:=
 zZ (fun(s1:Int×zS)=>
   bif decide (s1.1<(x.1.length:Int))then
    zW (X:=Int×zS) (
      za (geti x.1 s1.1) fun y2=>
      za (Pj y2.token.kind) fun y3=>
      zW (X:=zS) (
        bif bif bif x.2 != 0 then y2.token.kind==x.2 else false then true else bif y3==0 then decide ((y2.list.length:Int)>0)else false then
         some (LX.out (⟨s1.2.depth,w64 (s1.2.tokens+1),true⟩:zS))
        else
         some (LX.out (⟨s1.2.depth,w64 (s1.2.tokens+1),s1.2.bad⟩:zS))) fun j4=>
      bif y3==0 then
       some (LX.out (s1.1,j4))
      else
       za (Li (y2.list,y3)) fun y5=>
       some (LX.out (s1.1,(⟨if w64 (y5.depth+1)>j4.depth then w64 (y5.depth+1)else j4.depth,w64 (w64 (j4.tokens+y5.tokens)+1),bif j4.bad then true else y5.bad⟩:zS)))) fun j6=>
    some (LO.again (w64 (j6.1+1),j6.2))
   else
    some (LO.out s1.2):Int×zS->Option (LO (Int×zS) (zS) _)) (0,(⟨0,0,false⟩:zS)) fun o7=>
 some o7
def Li:List ze×Int->Option zS:=recE (iy)
def Pt(x:List ze):Option Int:=
 za (Li (x,0)) fun y1=>
 bif decide (y1.depth>16)then
  some 20
 else
  bif decide (y1.tokens>1500)then
   some 4
  else
   bif y1.bad then
    some 8
   else
    some 0
def Nk(x:List ze):Option (Int×Int):=
 za (Pt x) fun y1=>
 bif y1 != 0 then
  some (0,y1)
 else
  za (Li (x,0)) fun y2=>
  some (y2.depth,0)
def fA(Oj:List ze×List zk->Option (List zk))(x:List ze×List zk):Option (List zk):=
 zZ (fun(s1:Int×List zk)=>
   bif decide (s1.1<(x.1.length:Int))then
    zW (X:=Int×List zk) (
      za (geti x.1 s1.1) fun y2=>
      need (Zo s1.2.length 1 56)<|
      za (Pj y2.token.kind) fun y3=>
      bif y3 != 0 then
       za (Oj (y2.list,s1.2++[y2.token])) fun y4=>
       need (Zo y4.length 1 56)<|
       some (LX.out (s1.1,y4++[(⟨y3,[],0,[],false⟩:zk)]))
      else
       some (LX.out (s1.1,s1.2++[y2.token]))) fun j5=>
    some (LO.again (w64 (j5.1+1),j5.2))
   else
    some (LO.out s1.2):Int×List zk->Option (LO (Int×List zk) (List zk) _)) (0,x.2) fun o6=>
 some o6
def Oj:List ze×List zk->Option (List zk):=recE (fA)
def jy(x:List ze):Option (List zk):=
 zZ (fun(s1:Int×List zk)=>
   bif decide (s1.1<(x.length:Int))then
    zW (X:=Int×List zk) (
      za (geti x s1.1) fun y2=>
      need (Zo s1.2.length 1 56)<|
      za (Pj y2.token.kind) fun y3=>
      bif y3 != 0 then
       za (Oj (y2.list,s1.2++[y2.token])) fun y4=>
       need (Zo y4.length 1 56)<|
       some (LX.out (s1.1,y4++[(⟨y3,[],0,[],false⟩:zk)]))
      else
       some (LX.out (s1.1,s1.2++[y2.token]))) fun j5=>
    some (LO.again (w64 (j5.1+1),j5.2))
   else
    some (LO.out s1.2):Int×List zk->Option (LO (Int×List zk) (List zk) _)) (0,[]) fun o6=>
 some o6
def dx(x:List ze):Option (List zk×Int):=
 za (Pt x) fun y1=>
 bif y1 != 0 then
  some ([],y1)
 else
  za (jy x) fun y2=>
  some (y2,0)
def Uy(x:Str):Option Bool:=
 za (zA (!(bif x==[]then true else decide ((x.length:Int)>64))) (strings_IndexByte (x,0)) (default:Int)) fun y1=>
 bif bif bif x==[]then true else decide ((x.length:Int)>64)then true else decide (y1>=0)then
  some false
 else
  za (strings_HasPrefix (x,[45,45])) fun y2=>
  bif y2 then
   some (!(x==[45,45]))
  else
   za (Yk x) fun y3=>
   some (x==y3)
def ry(x:Str×Str):Option Bool:=
 za (Yk x.1) fun y1=>
 za (Yk x.2) fun y2=>
 some (y1==y2)
def Sy(x:List zk):Option Int:=
 za (geti x 0) fun y1=>
 bif bif y1.kind==9 then y1.text==[92]else false then
  za (qP ((1,13),x)) fun y2=>
  bif !y2 then
   some 0
  else
   some 2
 else
  za (zA (y1.kind==2) (ry (y1.text,[117,114,108])) (default:Bool)) fun y3=>
  bif bif y1.kind==2 then y3 else false then
   zW (X:=Int) (
     za (qP ((1,13),x)) fun y4=>
     bif y4 then
      some (LX.out 2)
     else
      some (LX.out 1)) fun j5=>
   za (qP ((j5,5),x)) fun y6=>
   bif !y6 then
    some 0
   else
    some (w64 (j5+1))
  else
   some 1
def Tt(x:List zk):Option Int:=
 bif decide ((x.length:Int)>1500)then
  some 4
 else
  zZ (fun(s1:Int)=>
    bif decide (s1<(x.length:Int))then
     za (geti x s1) fun y2=>
     za (Rs y2) fun y3=>
     need (decide (0<=s1)&&decide (s1<=(x.length:Int))|| !(!(!y3)))<|
     za (zA (!(!y3)) (Sy (List.drop s1.toNat x)) (default:Int)) fun y4=>
     bif bif !y3 then true else y4==0 then
      some (LO.ret 8)
     else
      some (LO.again (w64 (s1+1)))
    else
     some (LO.out ()):Int->Option (LO (Int) (Unit) _)) 0 fun o5=>
  some 0
def ou(Zi:List ze->Option Bool)(x:ze):Option Bool:=
 za (Qs ((⟨x.token,x.list⟩:ze),20)) fun y1=>
 za (zA (!y1) (Qs ((⟨x.token,x.list⟩:ze),22)) (default:Bool)) fun y2=>
 za (zA (!(bif y1 then true else y2)) (Qs ((⟨x.token,x.list⟩:ze),24)) (default:Bool)) fun y3=>
 za (zA (!(bif bif y1 then true else y2 then true else y3)) (Zi x.list) (default:Bool)) fun y4=>
 some (bif bif bif y1 then true else y2 then true else y3 then true else y4)
def PI(Zi:List ze->Option Bool)(x:List ze):Option Int:=
 zZ (fun(s1:Int)=>
   bif decide (s1<(x.length:Int))then
    za (geti x s1) fun y2=>
    za (ou Zi (⟨y2.token,y2.list⟩:ze)) fun y3=>
    bif y3 then
     some (LO.ret s1)
    else
     some (LO.again (w64 (s1+1)))
   else
    some (LO.out ()):Int->Option (LO (Int) (Unit) _)) 0 fun o4=>
 some (-1)
def Q7(Zi:List ze->Option Bool)(x:List ze):Option Bool:=
 za (PI Zi x) fun y1=>
 some (decide (y1>=0))
def MB(Zi:List ze->Option Bool)(x:List ze):Option Bool:=
 za (Q7 Zi x) fun y1=>
 some y1
def Zi:List ze->Option Bool:=recE (MB)
def GI(x:List ze):Option Int:=
 zZ (fun(s1:Int)=>
   bif decide (s1<(x.length:Int))then
    za (geti x s1) fun y2=>
    za (Su (⟨y2.token,y2.list⟩:ze)) fun y3=>
    bif y3 then
     some (LO.ret s1)
    else
     some (LO.again (w64 (s1+1)))
   else
    some (LO.out ()):Int->Option (LO (Int) (Unit) _)) 0 fun o4=>
 some (-1)
def qy(x:List ze):Option Bool:=
 za (GI x) fun y1=>
 some (decide (y1>=0))
def Pk(x:Zd):Option Int:=
 za (dx x.value) fun y1=>
 za (Uy x.name) fun y2=>
 za (zA (!(bif !y2 then true else y1.2 != 0)) (Tt y1.1) (default:Int)) fun y3=>
 za (zA (!(bif bif !y2 then true else y1.2 != 0 then true else y3 != 0)) (Zi x.value) (default:Bool)) fun y4=>
 bif bif bif bif !y2 then true else y1.2 != 0 then true else y3 != 0 then true else y4 then
  some 8
 else
  za (qy x.value) fun y5=>
  bif y5 then
   some 8
  else
   za (zA ((x.value.length:Int)==0) (strings_HasPrefix (x.name,[45,45])) (default:Bool)) fun y6=>
   za (zA (decide ((x.value.length:Int)>0)&& !(bif (x.value.length:Int)==0 then !y6 else false)) (geti x.value 0) (default:ze)) fun y7=>
   za (zA (decide ((x.value.length:Int)>0)&& !(bif (x.value.length:Int)==0 then !y6 else false)) (Qs ((⟨y7.token,y7.list⟩:ze),13)) (default:Bool)) fun y8=>
   za (zA (!y8&&(decide ((x.value.length:Int)>0)&& !(bif (x.value.length:Int)==0 then !y6 else false))) (geti x.value (w64 ((x.value.length:Int) - 1))) (default:ze)) fun y9=>
   za (zA (!y8&&(decide ((x.value.length:Int)>0)&& !(bif (x.value.length:Int)==0 then !y6 else false))) (Qs ((⟨y9.token,y9.list⟩:ze),13)) (default:Bool)) fun y10=>
   bif bif bif (x.value.length:Int)==0 then !y6 else false then true else bif decide ((x.value.length:Int)>0)then bif y8 then true else y10 else false then
    some 8
   else
    some 0
def rA(Sj:zo->Option Int)(x:zo):Option Int:=
 zW (X:=Int) (
   bif bif x.kind==5 then true else x.kind==6 then
    some (LX.out 1)
   else
    some (LX.out 0)) fun j1=>
 zZ (fun(s2:Int×Int)=>
   bif decide (s2.2<(x.list.length:Int))then
    za (geti x.list s2.2) fun y3=>
    za (Sj (⟨y3.kind,y3.name,y3.num,y3.decl,y3.list⟩:zo)) fun y4=>
    some (LO.again (if y4>s2.1 then y4 else s2.1,w64 (s2.2+1)))
   else
    some (LO.out s2.1):Int×Int->Option (LO (Int×Int) (Int) _)) (j1,0) fun o5=>
 some o5
def Sj:zo->Option Int:=recE (rA)
def slices_Index_string(x:List Str×Str):Option Int:=
 zZ (fun(s1:Int)=>
   bif decide (s1<(x.1.length:Int))then
    za (geti x.1 s1) fun y2=>
    bif x.2==y2 then
     some (LO.ret s1)
    else
     some (LO.again (w64 (s1+1)))
   else
    some (LO.out ()):Int->Option (LO (Int) (Unit) _)) 0 fun o3=>
 some (-1)
def slices_Contains_string(x:List Str×Str):Option Bool:=
 za (slices_Index_string (x.1,x.2)) fun y1=>
 some (decide (y1>=0))
def Cu(x:Str):Option Bool:=
 za (slices_Contains_string ([[],[97,110,100],[111,114],[110,111,116],[111,110,108,121]],x)) fun y1=>
 za (zA (bif !y1 then decide ((x.length:Int)<=64)else false) (Yk x) (default:Str)) fun y2=>
 za (zA (bif bif !y1 then decide ((x.length:Int)<=64)else false then y2==x else false) (strings_IndexByte (x,0)) (default:Int)) fun y3=>
 some (bif bif bif !y1 then decide ((x.length:Int)<=64)else false then y2==x else false then decide (y3<0)else false)
def BG(x:List Int):Option Int:=
 zZ (fun(s1:Int)=>
   bif decide (s1<(x.length:Int))then
    za (geti x s1) fun y2=>
    bif bif decide (y2<(-1000000000000))then true else decide (y2>1000000000000)then
     some (LO.ret 8)
    else
     some (LO.again (w64 (s1+1)))
   else
    some (LO.out ()):Int->Option (LO (Int) (Unit) _)) 0 fun o3=>
 some 0
def Au(x:Int):Option Int:=
 za (BG [x]) fun y1=>
 some y1
def Lt(x:zo):Option Bool:=
 za (zA (!(x.kind != 1)) (Qe (⟨x.kind,x.name,x.num,x.decl,x.list⟩:zo)) (default:Bool)) fun y1=>
 bif bif bif x.kind != 1 then true else !y1 then true else(x.list.length:Int)==0 then
  some false
 else
  zZ (fun(s2:Int)=>
    bif decide (s2<(x.list.length:Int))then
     zW (X:=Int) (
       za (geti x.list s2) fun y3=>
       za (zA (!(decide ((y3.list.length:Int)>0))) (Qe (⟨y3.kind,[],0,y3.decl,y3.list⟩:zo)) (default:Bool)) fun y4=>
       bif bif decide ((y3.list.length:Int)>0)then true else !y4 then
        some (LX.ret (LO.ret false))
       else
        bif y3.kind==4 then
         za (zA (!(bif decide (s2>0)then true else y3.num != 0)) (Cu y3.name) (default:Bool)) fun y5=>
         bif bif bif decide (s2>0)then true else y3.num != 0 then true else !y5 then
          some (LX.ret (LO.ret false))
         else
          some (LX.out s2)
        else
         zW (X:=Bool) (
           bif y3.kind==5 then
            some (LX.out (y3.kind==5))
           else
            some (LX.out (y3.kind==6))) fun j6=>
         bif j6 then
          za (zA (!(bif !(y3.name==[])then true else decide (y3.num<0))) (Au y3.num) (default:Int)) fun y7=>
          bif bif bif !(y3.name==[])then true else decide (y3.num<0)then true else y7 != 0 then
           some (LX.ret (LO.ret false))
          else
           some (LX.out s2)
         else
          some (LX.ret (LO.ret false))) fun j8=>
     some (LO.again (w64 (j8+1)))
    else
     some (LO.out ()):Int->Option (LO (Int) (Unit) _)) 0 fun o9=>
  some true
def Vx(x:zo):Option Bool:=
 bif x.kind==3 then
  za (Qe (⟨x.kind,x.name,x.num,x.decl,x.list⟩:zo)) fun y1=>
  za (zA (bif y1 then(x.list.length:Int)==1 else false) (geti x.list 0) (default:zo)) fun y2=>
  za (zA (bif y1 then(x.list.length:Int)==1 else false) (Lt (⟨y2.kind,y2.name,y2.num,y2.decl,y2.list⟩:zo)) (default:Bool)) fun y3=>
  za (zA (bif bif y1 then(x.list.length:Int)==1 else false then y3 else false) (geti x.list 0) (default:zo)) fun y4=>
  za (zA (bif bif y1 then(x.list.length:Int)==1 else false then y3 else false) (Mt (⟨y4.kind,y4.name,y4.num,y4.decl,y4.list⟩:zo)) (default:Bool)) fun y5=>
  some (bif bif bif y1 then(x.list.length:Int)==1 else false then y3 else false then y5 else false)
 else
  za (Lt (⟨x.kind,x.name,x.num,x.decl,x.list⟩:zo)) fun y6=>
  some y6
def NC(x:zo):Option Bool:=
 za (Vx (⟨x.kind,x.name,x.num,x.decl,x.list⟩:zo)) fun y1=>
 some (!y1)
def vH(x:List zo):Option Int:=
 zZ (fun(s1:Int)=>
   bif decide (s1<(x.length:Int))then
    za (geti x s1) fun y2=>
    za (NC (⟨y2.kind,y2.name,y2.num,y2.decl,y2.list⟩:zo)) fun y3=>
    bif y3 then
     some (LO.ret s1)
    else
     some (LO.again (w64 (s1+1)))
   else
    some (LO.out ()):Int->Option (LO (Int) (Unit) _)) 0 fun o4=>
 some (-1)
def qX(x:List zo):Option Bool:=
 za (vH x) fun y1=>
 some (decide (y1>=0))
def jB(x:zo):Option Int:=
 za (zA (bif bif x.kind==2 then decide ((x.list.length:Int)>0)else false then decide ((x.list.length:Int)<=64)else false) (qX x.list) (default:Bool)) fun y1=>
 za (Qe (⟨x.kind,x.name,x.num,x.decl,x.list⟩:zo)) fun y2=>
 bif bif !y2 then true else bif !(bif x.kind==1 then(x.list.length:Int)==0 else false)then !(bif bif bif x.kind==2 then decide ((x.list.length:Int)>0)else false then decide ((x.list.length:Int)<=64)else false then !y1 else false)else false then
  some 8
 else
  some 0
def Wp(Mi:zo->Option Int)(x:zo):Option Int:=
 bif x.kind==7 then
  za (Nk x.decl.value) fun y1=>
  some (w64 (y1.1+1))
 else
  bif x.kind==8 then
   some 1
  else
   zZ (fun(s2:Int×Int)=>
     bif decide (s2.2<(x.list.length:Int))then
      za (geti x.list s2.2) fun y3=>
      za (Mi (⟨y3.kind,y3.name,y3.num,y3.decl,y3.list⟩:zo)) fun y4=>
      zW (X:=Int×Int) (
        bif bif y3.kind != 7 then y3.kind != 8 else false then
         some (LX.out (s2.1,w64 (y4+1)))
        else
         some (LX.out (s2.1,y4))) fun j5=>
      some (LO.again (if j5.2>j5.1 then j5.2 else j5.1,w64 (s2.2+1)))
     else
      some (LO.out s2.1):Int×Int->Option (LO (Int×Int) (Int) _)) (0,0) fun o6=>
   some o6
def Mi:zo->Option Int:=recE (Wp)
def Bp(Uh:zo×Int->Option ((Int×Bool)×Int))(x:zo×Int):Option ((Int×Bool)×Int):=
 bif decide (w64 (x.2+1)>1500)then
  some ((0,false),w64 (x.2+1))
 else
  bif x.1.kind==7 then
   za (Nk x.1.decl.value) fun y1=>
   za (zA (bif bif bif (x.1.list.length:Int)==0 then x.1.name==[]else false then x.1.num==0 else false then y1.2==0 else false) (Pk x.1.decl) (default:Int)) fun y2=>
   some ((w64 (y1.1+1),bif bif bif bif (x.1.list.length:Int)==0 then x.1.name==[]else false then x.1.num==0 else false then y1.2==0 else false then y2==0 else false),w64 (x.2+1))
  else
   bif x.1.kind==8 then
    za (zA ((x.1.list.length:Int)==0) (Qe (⟨x.1.kind,x.1.name,x.1.num,x.1.decl,x.1.list⟩:zo)) (default:Bool)) fun y3=>
    some ((1,bif (x.1.list.length:Int)==0 then y3 else false),w64 (x.2+1))
   else
    zW (X:=Bool) (
      bif x.1.kind==3 then
       some (LX.out (x.1.kind==3))
      else
       bif x.1.kind==1 then
        some (LX.out (x.1.kind==1))
       else
        some (LX.out (x.1.kind==2))) fun j4=>
    bif j4 then
     za (Qe (⟨x.1.kind,x.1.name,x.1.num,x.1.decl,x.1.list⟩:zo)) fun y5=>
     bif bif bif !y5 then true else bif x.1.kind==3 then(x.1.list.length:Int) != 1 else false then true else bif x.1.kind != 3 then decide ((x.1.list.length:Int)<2)else false then
      some ((0,false),w64 (x.2+1))
     else
      zZ (fun(s6:(Int×Int)×Int)=>
        bif decide (s6.1.2<(x.1.list.length:Int))then
         za (geti x.1.list s6.1.2) fun y7=>
         za (Uh ((⟨y7.kind,y7.name,y7.num,y7.decl,y7.list⟩:zo),s6.2)) fun y8=>
         bif !y8.1.2 then
          some (LO.ret ((0,false),y8.2))
         else
          zW (X:=Int×Int) (
            za (Ht (⟨y7.kind,y7.name,y7.num,y7.decl,y7.list⟩:zo)) fun y9=>
            bif !y9 then
             some (LX.out (s6.1.1,w64 (y8.1.1+1)))
            else
             some (LX.out (s6.1.1,y8.1.1))) fun j10=>
          some (LO.again ((if j10.2>j10.1 then j10.2 else j10.1,w64 (s6.1.2+1)),y8.2))
        else
         some (LO.out (s6.1.1,s6.2)):(Int×Int)×Int->Option (LO ((Int×Int)×Int) (Int×Int) _)) ((0,0),w64 (x.2+1)) fun o11=>
      some ((o11.1,true),o11.2)
    else
     some ((0,false),w64 (x.2+1))
def Uh:zo×Int->Option ((Int×Bool)×Int):=recE (Bp)
def uC(x:zo):Option Int:=
 za (Uh ((⟨x.kind,x.name,x.num,x.decl,x.list⟩:zo),0)) fun y1=>
 bif bif !y1.1.2 then true else decide (y1.1.1>16)then
  some 8
 else
  some 0
def Xp(Ni:List zK->Option zq)(x:List zK):Option zq:=
 zZ (fun(s1:Int×zq)=>
   bif decide (s1.1<(x.length:Int))then
    za (geti x s1.1) fun y2=>
    za (Ni y2.rules) fun y3=>
    za (qH y2.names) fun y4=>
    zW (X:=(Int×Bool)×zq×zq) (
      bif y2.kind==1 then
       za (qM y2.selectors) fun y5=>
       za (zA (!(bif y3.bad then true else y4)) (xA y2.selectors) (default:Int)) fun y6=>
       za (zA (!(bif bif bif y3.bad then true else y4 then true else y6 != 0 then true else decide ((y2.decls.length:Int)>32))) (Rj (⟨y2.cond.kind,y2.cond.name,y2.cond.num,y2.cond.decl,y2.cond.list⟩:zo)) (default:Bool)) fun y7=>
       zZ (fun(s8:(Bool×Int)×zq)=>
         bif decide (s8.1.2<(y2.decls.length:Int))then
          za (geti y2.decls s8.1.2) fun y9=>
          za (Nk y9.value) fun y10=>
          za (zA (!(bif s8.1.1 then true else y10.2 != 0)) (Pk y9) (default:Int)) fun y11=>
          some (LO.again ((bif bif s8.1.1 then true else y10.2 != 0 then true else y11 != 0,w64 (s8.1.2+1)),(⟨s8.2.rules,if y10.1>s8.2.depth then y10.1 else s8.2.depth,s8.2.bad⟩:zq)))
         else
          some (LO.out (s8.1.1,s8.2)):(Bool×Int)×zq->Option (LO ((Bool×Int)×zq) (Bool×zq) _)) ((bif bif bif bif bif y3.bad then true else y4 then true else y6 != 0 then true else decide ((y2.decls.length:Int)>32)then true else !y7 then true else decide (w64 ((y2.names.length:Int)+(y2.rules.length:Int))>0),0),y3) fun o12=>
       some (LX.out ((y5,o12.1),(⟨w64 (s1.2.rules+w64 (y3.rules+1)),s1.2.depth,s1.2.bad⟩:zq),o12.2))
      else
       bif y2.kind==2 then
        za (Sj (⟨y2.cond.kind,y2.cond.name,y2.cond.num,y2.cond.decl,y2.cond.list⟩:zo)) fun y13=>
        za (zA (!(bif bif bif y3.bad then true else y4 then true else decide (w64 ((y2.selectors.length:Int)+(y2.decls.length:Int))>0)then true else decide ((y2.names.length:Int)>0))) (jB (⟨y2.cond.kind,y2.cond.name,y2.cond.num,y2.cond.decl,y2.cond.list⟩:zo)) (default:Int)) fun y14=>
        some (LX.out ((y13,bif bif bif bif y3.bad then true else y4 then true else decide (w64 ((y2.selectors.length:Int)+(y2.decls.length:Int))>0)then true else decide ((y2.names.length:Int)>0)then true else y14 != 0),(⟨w64 (s1.2.rules+w64 (y3.rules+1)),s1.2.depth,s1.2.bad⟩:zq),y3))
       else
        bif y2.kind==3 then
         za (Mi (⟨y2.cond.kind,y2.cond.name,y2.cond.num,y2.cond.decl,y2.cond.list⟩:zo)) fun y15=>
         za (zA (!(bif bif bif y3.bad then true else y4 then true else decide (w64 ((y2.selectors.length:Int)+(y2.decls.length:Int))>0)then true else decide ((y2.names.length:Int)>0))) (uC (⟨y2.cond.kind,y2.cond.name,y2.cond.num,y2.cond.decl,y2.cond.list⟩:zo)) (default:Int)) fun y16=>
         some (LX.out ((y15,bif bif bif bif y3.bad then true else y4 then true else decide (w64 ((y2.selectors.length:Int)+(y2.decls.length:Int))>0)then true else decide ((y2.names.length:Int)>0)then true else y16 != 0),(⟨w64 (s1.2.rules+w64 (y3.rules+1)),s1.2.depth,s1.2.bad⟩:zq),y3))
        else
         bif y2.kind==4 then
          za (zA (!(bif bif bif y3.bad then true else y4 then true else decide (w64 ((y2.selectors.length:Int)+(y2.decls.length:Int))>0)then true else decide ((y2.names.length:Int)>1))) (Rj (⟨y2.cond.kind,y2.cond.name,y2.cond.num,y2.cond.decl,y2.cond.list⟩:zo)) (default:Bool)) fun y17=>
          some (LX.out ((0,bif bif bif bif y3.bad then true else y4 then true else decide (w64 ((y2.selectors.length:Int)+(y2.decls.length:Int))>0)then true else decide ((y2.names.length:Int)>1)then true else !y17),(⟨w64 (s1.2.rules+w64 (y3.rules+1)),s1.2.depth,s1.2.bad⟩:zq),y3))
         else
          bif y2.kind==5 then
           za (zA (!(bif bif bif bif bif y3.bad then true else y4 then true else decide (w64 ((y2.selectors.length:Int)+(y2.decls.length:Int))>0)then true else decide ((y2.names.length:Int)<1)then true else decide ((y2.names.length:Int)>64)then true else decide ((y2.rules.length:Int)>0))) (Rj (⟨y2.cond.kind,y2.cond.name,y2.cond.num,y2.cond.decl,y2.cond.list⟩:zo)) (default:Bool)) fun y18=>
           some (LX.out ((0,bif bif bif bif bif bif y3.bad then true else y4 then true else decide (w64 ((y2.selectors.length:Int)+(y2.decls.length:Int))>0)then true else decide ((y2.names.length:Int)<1)then true else decide ((y2.names.length:Int)>64)then true else decide ((y2.rules.length:Int)>0)then true else !y18),(⟨w64 (s1.2.rules+w64 (y3.rules+1)),s1.2.depth,s1.2.bad⟩:zq),(⟨y3.rules,(-1),y3.bad⟩:zq)))
          else
           some (LX.out ((0,true),(⟨w64 (s1.2.rules+w64 (y3.rules+1)),s1.2.depth,s1.2.bad⟩:zq),y3))) fun j19=>
    some (LO.again (w64 (s1.1+1),(⟨j19.2.1.rules,if j19.1.1>(if w64 (j19.2.2.depth+1)>j19.2.1.depth then w64 (j19.2.2.depth+1)else j19.2.1.depth)then j19.1.1 else if w64 (j19.2.2.depth+1)>j19.2.1.depth then w64 (j19.2.2.depth+1)else j19.2.1.depth,bif j19.2.1.bad then true else j19.1.2⟩:zq)))
   else
    some (LO.out s1.2):Int×zq->Option (LO (Int×zq) (zq) _)) (0,(⟨0,0,false⟩:zq)) fun o20=>
 some o20
def Ni:List zK->Option zq:=recE (Xp)
def Tz(x:List zK):Option Int:=
 za (Ni x) fun y1=>
 bif bif bif y1.bad then true else decide (y1.rules>64)then true else decide (y1.depth>16)then
  some 8
 else
  some 0
def ol(x:ZI):Option Int:=
 za (Tz x.rules) fun y1=>
 some y1
def Pz(x:Ze):Option Int:=
 bif bif bif decide ((x.sheets.length:Int)>8)then true else decide (x.next<0)then true else decide (x.next>1000)then
  some 8
 else
  zZ (fun(s1:Int×Int)=>
    bif decide (s1.2<(x.sheets.length:Int))then
     za (geti x.sheets s1.2) fun y2=>
     za (zA (!(bif bif bif bif decide (y2.number<s1.1)then true else decide (y2.number>=x.next)then true else decide (y2.origin<1)then true else decide (y2.origin>3)then true else decide ((y2.site.length:Int)>64))) (ol y2.sheet) (default:Int)) fun y3=>
     bif bif bif bif bif bif decide (y2.number<s1.1)then true else decide (y2.number>=x.next)then true else decide (y2.origin<1)then true else decide (y2.origin>3)then true else decide ((y2.site.length:Int)>64)then true else y3 != 0 then
      some (LO.ret 8)
     else
      some (LO.again (w64 (y2.number+1),w64 (s1.2+1)))
    else
     some (LO.out ()):Int×Int->Option (LO (Int×Int) (Unit) _)) (0,0) fun o4=>
  some 0
def QV(x:List Zr×Int):Option Int:=
 zZ (fun(s1:Int)=>
   bif decide (s1<(x.1.length:Int))then
    za (geti x.1 s1) fun y2=>
    za (Gy (y2,x.2)) fun y3=>
    bif y3 then
     some (LO.ret s1)
    else
     some (LO.again (w64 (s1+1)))
   else
    some (LO.out ()):Int->Option (LO (Int) (Unit) _)) 0 fun o4=>
 some (-1)
def Js(x:Ze×Int):Option (Int×Int):=
 za (Pz x.1) fun y1=>
 bif y1 != 0 then
  some (0,y1)
 else
  za (QV (x.1.sheets,x.2)) fun y2=>
  bif decide (y2<0)then
   some (0,6)
  else
   some (y2,0)
def gH(x:List UInt8):Option (List UInt8):=
 bif x.isEmpty then
  both (
    some []) (
    need (Zo 0 x.length 1)<|
    some x)
 else
  need (Zo 0 x.length 1)<|
  some x
def sH(x:List zw):Option (List zw):=
 bif x.isEmpty then
  both (
    some []) (
    need (Zo 0 x.length 104)<|
    some x)
 else
  need (Zo 0 x.length 104)<|
  some x
def QW(Zz:List zf->Option (List zf))(x:List zf):Option (List zf):=
 zZ (fun(s1:Int×List zf)=>
   bif decide (s1.1<(x.length:Int))then
    za (geti x s1.1) fun y2=>
    za (gH y2.combs) fun y3=>
    zZ (fun(s4:Int×List zI)=>
      bif decide (s4.1<(y2.parts.length:Int))then
       za (geti y2.parts s4.1) fun y5=>
       za (sH y5.simples) fun y6=>
       zZ (fun(s7:Int×List zw)=>
         bif decide (s7.1<(y6.length:Int))then
          need (decide (0<=s7.1)&&decide (s7.1<(s7.2.length:Int)))<|
          za s7.2[s7.1.toNat]? fun y8=>
          za (Zz y8.list) fun y9=>
          need (decide (0<=s7.1)&&decide (s7.1<(s7.2.length:Int)))<|
          za s7.2[s7.1.toNat]? fun y10=>
          some (LO.again (w64 (s7.1+1),List.set s7.2 s7.1.toNat (⟨y10.kind,y10.name,y10.op,y10.value,y10.fold,y10.anb,y10.of_,y9⟩:zw)))
         else
          some (LO.out s7.2):Int×List zw->Option (LO (Int×List zw) (List zw) _)) (0,y6) fun o11=>
       need (Zo s4.2.length 1 40)<|
       some (LO.again (w64 (s4.1+1),s4.2++[(⟨y5.tag,o11⟩:zI)]))
      else
       some (LO.out s4.2):Int×List zI->Option (LO (Int×List zI) (List zI) _)) (0,[]) fun o12=>
    need (Zo s1.2.length 1 56)<|
    some (LO.again (w64 (s1.1+1),s1.2++[(⟨y2.lead,o12,y3⟩:zf)]))
   else
    some (LO.out s1.2):Int×List zf->Option (LO (Int×List zf) (List zf) _)) (0,[]) fun o13=>
 some o13
def Zz:List zf->Option (List zf):=recE (QW)
def tC(ZC:List ze->Option (List ze))(x:List ze):Option (List ze):=
 zZ (fun(s1:Int×List ze)=>
   bif decide (s1.1<(x.length:Int))then
    za (geti x s1.1) fun y2=>
    za (ZC y2.list) fun y3=>
    need (Zo s1.2.length 1 80)<|
    some (LO.again (w64 (s1.1+1),s1.2++[(⟨y2.token,y3⟩:ze)]))
   else
    some (LO.out s1.2):Int×List ze->Option (LO (Int×List ze) (List ze) _)) (0,[]) fun o4=>
 some o4
def ZC:List ze->Option (List ze):=recE (tC)
def au(x:List Zd):Option (List Zd):=
 zZ (fun(s1:Int×List Zd)=>
   bif decide (s1.1<(x.length:Int))then
    za (geti x s1.1) fun y2=>
    za (ZC y2.value) fun y3=>
    need (Zo s1.2.length 1 48)<|
    some (LO.again (w64 (s1.1+1),s1.2++[(⟨y2.name,y3,y2.important⟩:Zd)]))
   else
    some (LO.out s1.2):Int×List Zd->Option (LO (Int×List Zd) (List Zd) _)) (0,[]) fun o4=>
 some o4
def xB(qo:zo->Option zo)(x:zo):Option zo:=
 za (ZC x.decl.value) fun y1=>
 zZ (fun(s2:Int×List zo)=>
   bif decide (s2.1<(x.list.length:Int))then
    za (geti x.list s2.1) fun y3=>
    za (qo (⟨y3.kind,y3.name,y3.num,y3.decl,y3.list⟩:zo)) fun y4=>
    need (Zo s2.2.length 1 104)<|
    some (LO.again (w64 (s2.1+1),s2.2++[(⟨y4.kind,y4.name,y4.num,y4.decl,y4.list⟩:zo)]))
   else
    some (LO.out s2.2):Int×List zo->Option (LO (Int×List zo) (List zo) _)) (0,[]) fun o5=>
 some (⟨x.kind,x.name,x.num,(⟨x.decl.name,y1,x.decl.important⟩:Zd),o5⟩:zo)
def qo:zo->Option zo:=recE (xB)
def slices_Clone_string(x:List Str):Option (List Str):=
 bif x.isEmpty then
  both (
    some []) (
    need (Zo 0 x.length 16)<|
    some x)
 else
  need (Zo 0 x.length 16)<|
  some x
def XC(ZW:List zK->Option (List zK))(x:List zK):Option (List zK):=
 zZ (fun(s1:Int×List zK)=>
   bif decide (s1.1<(x.length:Int))then
    za (geti x s1.1) fun y2=>
    za (Zz y2.selectors) fun y3=>
    za (au y2.decls) fun y4=>
    za (qo (⟨y2.cond.kind,y2.cond.name,y2.cond.num,y2.cond.decl,y2.cond.list⟩:zo)) fun y5=>
    zZ (fun(s6:Int×List (List Str))=>
      bif decide (s6.1<(y2.names.length:Int))then
       za (geti y2.names s6.1) fun y7=>
       za (slices_Clone_string y7) fun y8=>
       need (Zo s6.2.length 1 24)<|
       some (LO.again (w64 (s6.1+1),s6.2++[y8]))
      else
       some (LO.out s6.2):Int×List (List Str)->Option (LO (Int×List (List Str)) (List (List Str)) _)) (0,[]) fun o9=>
    za (ZW y2.rules) fun y10=>
    need (Zo s1.2.length 1 208)<|
    some (LO.again (w64 (s1.1+1),s1.2++[(⟨y2.kind,y3,y4,(⟨y5.kind,y5.name,y5.num,y5.decl,y5.list⟩:zo),o9,y10⟩:zK)]))
   else
    some (LO.out s1.2):Int×List zK->Option (LO (Int×List zK) (List zK) _)) (0,[]) fun o11=>
 some o11
def ZW:List zK->Option (List zK):=recE (XC)
def Fy(x:Ze):Option (Int×List Zr):=
 zZ (fun(s1:Int×List Zr)=>
   bif decide (s1.1<(x.sheets.length:Int))then
    za (geti x.sheets s1.1) fun y2=>
    za (ZW y2.sheet.rules) fun y3=>
    need (Zo s1.2.length 1 56)<|
    some (LO.again (w64 (s1.1+1),s1.2++[(⟨y2.number,y2.origin,y2.site,(⟨y3⟩:ZI)⟩:Zr)]))
   else
    some (LO.out s1.2):Int×List Zr->Option (LO (Int×List Zr) (List Zr) _)) (0,[]) fun o4=>
 some (x.next,o4)
def Vs(x:Ze×Int×ZI):Option (Ze×Int):=
 za (Js (x.1,x.2.1)) fun y1=>
 bif y1.2 != 0 then
  some ((⟨[],0⟩:Ze),y1.2)
 else
  za (ol x.2.2) fun y2=>
  bif y2 != 0 then
   some ((⟨[],0⟩:Ze),y2)
  else
   za (Fy x.1) fun y3=>
   za (ZW x.2.2.rules) fun y4=>
   need (decide (0<=y1.1)&&decide (y1.1<(y3.2.length:Int)))<|
   za y3.2[y1.1.toNat]? fun y5=>
   some ((⟨List.set y3.2 y1.1.toNat (⟨y5.number,y5.origin,y5.site,(⟨y4⟩:ZI)⟩:Zr),y3.1⟩:Ze),0)
def JA(x:Ze):Option Ze:=
 zZ (fun(s1:Int×List Zr)=>
   bif decide (s1.1<(x.sheets.length:Int))then
    za (geti x.sheets s1.1) fun y2=>
    za (ZW y2.sheet.rules) fun y3=>
    need (Zo s1.2.length 1 56)<|
    some (LO.again (w64 (s1.1+1),s1.2++[(⟨y2.number,y2.origin,y2.site,(⟨y3⟩:ZI)⟩:Zr)]))
   else
    some (LO.out s1.2):Int×List Zr->Option (LO (Int×List Zr) (List Zr) _)) (0,[]) fun o4=>
 some (⟨o4,x.next⟩:Ze)
def Rx(x:Ze×Int):Option (Zr×Int):=
 za (Js (x.1,x.2)) fun y1=>
 bif y1.2 != 0 then
  some ((⟨0,0,[],(⟨[]⟩:ZI)⟩:Zr),y1.2)
 else
  za (JA x.1) fun y2=>
  za (geti y2.sheets y1.1) fun y3=>
  some (y3,0)
def iC(ZG:List zf×List zf->Option Bool)(x:List zw×List zw):Option Bool:=
 bif (x.1.length:Int) != (x.2.length:Int)then
  some false
 else
  zZ (fun(s1:Int)=>
    bif decide (s1<(x.1.length:Int))then
     za (geti x.1 s1) fun y2=>
     za (Np (⟨y2.kind,y2.name,y2.op,y2.value,y2.fold,y2.anb,y2.of_,y2.list⟩:zw)) fun y3=>
     za (geti x.2 s1) fun y4=>
     za (Np (⟨y4.kind,y4.name,y4.op,y4.value,y4.fold,y4.anb,y4.of_,y4.list⟩:zw)) fun y5=>
     za (zA (!(!(y3.kind==y5.kind&&(y3.name==y5.name&&(y3.op==y5.op&&(y3.value==y5.value&&(y3.fold==y5.fold&&(y3.anb.a==y5.anb.a&&(y3.anb.b==y5.anb.b&&(y3.of_==y5.of_&&true)))))))))) (geti x.1 s1) (default:zw)) fun y6=>
     za (zA (!(!(y3.kind==y5.kind&&(y3.name==y5.name&&(y3.op==y5.op&&(y3.value==y5.value&&(y3.fold==y5.fold&&(y3.anb.a==y5.anb.a&&(y3.anb.b==y5.anb.b&&(y3.of_==y5.of_&&true)))))))))) (geti x.2 s1) (default:zw)) fun y7=>
     za (zA (!(!(y3.kind==y5.kind&&(y3.name==y5.name&&(y3.op==y5.op&&(y3.value==y5.value&&(y3.fold==y5.fold&&(y3.anb.a==y5.anb.a&&(y3.anb.b==y5.anb.b&&(y3.of_==y5.of_&&true)))))))))) (ZG (y6.list,y7.list)) (default:Bool)) fun y8=>
     bif bif !(y3.kind==y5.kind&&(y3.name==y5.name&&(y3.op==y5.op&&(y3.value==y5.value&&(y3.fold==y5.fold&&(y3.anb.a==y5.anb.a&&(y3.anb.b==y5.anb.b&&(y3.of_==y5.of_&&true))))))))then true else !y8 then
      some (LO.ret false)
     else
      some (LO.again (w64 (s1+1)))
    else
     some (LO.out ()):Int->Option (LO (Int) (Unit) _)) 0 fun o9=>
  some true
def Gz(ZG:List zf×List zf->Option Bool)(x:zf×zf):Option Bool:=
 bif bif bif x.1.lead != x.2.lead then true else(x.1.parts.length:Int) != (x.2.parts.length:Int)then true else !(x.1.combs==x.2.combs)then
  some false
 else
  zZ (fun(s1:Int)=>
    bif decide (s1<(x.1.parts.length:Int))then
     za (geti x.1.parts s1) fun y2=>
     za (geti x.2.parts s1) fun y3=>
     za (zA (!(!(y2.tag==y3.tag))) (geti x.1.parts s1) (default:zI)) fun y4=>
     za (zA (!(!(y2.tag==y3.tag))) (geti x.2.parts s1) (default:zI)) fun y5=>
     za (zA (!(!(y2.tag==y3.tag))) (iC ZG (y4.simples,y5.simples)) (default:Bool)) fun y6=>
     bif bif !(y2.tag==y3.tag)then true else !y6 then
      some (LO.ret false)
     else
      some (LO.again (w64 (s1+1)))
    else
     some (LO.out ()):Int->Option (LO (Int) (Unit) _)) 0 fun o7=>
  some true
def bz(ZG:List zf×List zf->Option Bool)(x:List zf×List zf):Option Bool:=
 bif (x.1.length:Int) != (x.2.length:Int)then
  some false
 else
  zZ (fun(s1:Int)=>
    bif decide (s1<(x.1.length:Int))then
     za (geti x.1 s1) fun y2=>
     za (geti x.2 s1) fun y3=>
     za (Gz ZG ((⟨y2.lead,y2.parts,y2.combs⟩:zf),(⟨y3.lead,y3.parts,y3.combs⟩:zf))) fun y4=>
     bif !y4 then
      some (LO.ret false)
     else
      some (LO.again (w64 (s1+1)))
    else
     some (LO.out ()):Int->Option (LO (Int) (Unit) _)) 0 fun o5=>
  some true
def ZG:List zf×List zf->Option Bool:=recE (bz)
def Xt(x:List Zd×List Zd):Option Bool:=
 bif (x.1.length:Int) != (x.2.length:Int)then
  some false
 else
  zZ (fun(s1:Int)=>
    bif decide (s1<(x.1.length:Int))then
     za (geti x.1 s1) fun y2=>
     za (geti x.2 s1) fun y3=>
     za (Vk (y2,y3)) fun y4=>
     bif !y4 then
      some (LO.ret false)
     else
      some (LO.again (w64 (s1+1)))
    else
     some (LO.out ()):Int->Option (LO (Int) (Unit) _)) 0 fun o5=>
  some true
def bu(x:List (List Str)×List (List Str)):Option Bool:=
 bif (x.1.length:Int) != (x.2.length:Int)then
  some false
 else
  zZ (fun(s1:Int)=>
    bif decide (s1<(x.1.length:Int))then
     za (geti x.1 s1) fun y2=>
     za (geti x.2 s1) fun y3=>
     bif (y2.length:Int) != (y3.length:Int)then
      some (LO.ret false)
     else
      zZ (fun(s4:Int)=>
        za (geti x.1 s1) fun y5=>
        bif decide (s4<(y5.length:Int))then
         za (geti x.1 s1) fun y6=>
         za (geti y6 s4) fun y7=>
         za (geti x.2 s1) fun y8=>
         za (geti y8 s4) fun y9=>
         bif !(y7==y9)then
          some (LO.ret (LO.ret false))
         else
          some (LO.again (w64 (s4+1)))
        else
         some (LO.out ()):Int->Option (LO (Int) (Unit) _)) 0 fun o10=>
      some (LO.again (w64 (s1+1)))
    else
     some (LO.out ()):Int->Option (LO (Int) (Unit) _)) 0 fun o11=>
  some true
def Dz(qJ:List zK×List zK->Option Bool)(x:zK×zK):Option Bool:=
 za (zA (x.1.kind==x.2.kind) (ZG (x.1.selectors,x.2.selectors)) (default:Bool)) fun y1=>
 za (zA (bif x.1.kind==x.2.kind then y1 else false) (Xt (x.1.decls,x.2.decls)) (default:Bool)) fun y2=>
 za (zA (bif bif x.1.kind==x.2.kind then y1 else false then y2 else false) (QJ ((⟨x.1.cond.kind,x.1.cond.name,x.1.cond.num,x.1.cond.decl,x.1.cond.list⟩:zo),(⟨x.2.cond.kind,x.2.cond.name,x.2.cond.num,x.2.cond.decl,x.2.cond.list⟩:zo))) (default:Bool)) fun y3=>
 za (zA (bif bif bif x.1.kind==x.2.kind then y1 else false then y2 else false then y3 else false) (bu (x.1.names,x.2.names)) (default:Bool)) fun y4=>
 za (zA (bif bif bif bif x.1.kind==x.2.kind then y1 else false then y2 else false then y3 else false then y4 else false) (qJ (x.1.rules,x.2.rules)) (default:Bool)) fun y5=>
 some (bif bif bif bif bif x.1.kind==x.2.kind then y1 else false then y2 else false then y3 else false then y4 else false then y5 else false)
def LA(qJ:List zK×List zK->Option Bool)(x:List zK×List zK):Option Bool:=
 bif (x.1.length:Int) != (x.2.length:Int)then
  some false
 else
  zZ (fun(s1:Int)=>
    bif decide (s1<(x.1.length:Int))then
     za (geti x.1 s1) fun y2=>
     za (geti x.2 s1) fun y3=>
     za (Dz qJ ((⟨y2.kind,y2.selectors,y2.decls,(⟨y2.cond.kind,y2.cond.name,y2.cond.num,y2.cond.decl,y2.cond.list⟩:zo),y2.names,y2.rules⟩:zK),(⟨y3.kind,y3.selectors,y3.decls,(⟨y3.cond.kind,y3.cond.name,y3.cond.num,y3.cond.decl,y3.cond.list⟩:zo),y3.names,y3.rules⟩:zK))) fun y4=>
     bif !y4 then
      some (LO.ret false)
     else
      some (LO.again (w64 (s1+1)))
    else
     some (LO.out ()):Int->Option (LO (Int) (Unit) _)) 0 fun o5=>
  some true
def qJ:List zK×List zK->Option Bool:=recE (LA)
def Jq(x:Zr×Zr):Option Bool:=
 za (zA (bif bif x.1.number==x.2.number then x.1.origin==x.2.origin else false then x.1.site==x.2.site else false) (qJ (x.1.sheet.rules,x.2.sheet.rules)) (default:Bool)) fun y1=>
 some (bif bif bif x.1.number==x.2.number then x.1.origin==x.2.origin else false then x.1.site==x.2.site else false then y1 else false)
def WB(x:List Zr×List Zr):Option Bool:=
 bif (x.1.length:Int) != (x.2.length:Int)then
  some false
 else
  zZ (fun(s1:Int)=>
    bif decide (s1<(x.1.length:Int))then
     za (geti x.1 s1) fun y2=>
     za (geti x.2 s1) fun y3=>
     za (Jq (y2,y3)) fun y4=>
     bif !y4 then
      some (LO.ret false)
     else
      some (LO.again (w64 (s1+1)))
    else
     some (LO.out ()):Int->Option (LO (Int) (Unit) _)) 0 fun o5=>
  some true
def Iy(x:Ze×Ze):Option Bool:=
 za (zA (x.1.next==x.2.next) (WB (x.1.sheets,x.2.sheets)) (default:Bool)) fun y1=>
 some (bif x.1.next==x.2.next then y1 else false)
def JB(x:Ze×Int×ZI):Option Bool:=
 za (oz 1000 ()) fun y1=>
 za (Ay x.1) fun y2=>
 za (zA (!(!y2)) (Uk x.2.2.rules) (default:Bool)) fun y3=>
 za (zA (!(bif !y2 then true else y3)) (Dp x.2.2) (default:Int)) fun y4=>
 bif bif bif bif bif bif !y2 then true else y3 then true else y4 != 0 then true else decide (x.2.1<0)then true else decide (x.2.1>=(x.1.sheets.length:Int))then true else !y1 then
  some y1
 else
  za (geti x.1.sheets x.2.1) fun y5=>
  za (Vs (x.1,y5.number,x.2.2)) fun y6=>
  za (Rx (y6.1,y5.number)) fun y7=>
  za (geti x.1.sheets x.2.1) fun y8=>
  za (Vs (y6.1,y5.number,y8.sheet)) fun y9=>
  za (zA (!(bif bif bif y6.2 != 0 then true else y7.2 != 0 then true else y9.2 != 0 then true else(y6.1.sheets.length:Int) != (x.1.sheets.length:Int))) (Iy (y9.1,x.1)) (default:Bool)) fun y10=>
  bif bif bif bif bif y6.2 != 0 then true else y7.2 != 0 then true else y9.2 != 0 then true else(y6.1.sheets.length:Int) != (x.1.sheets.length:Int)then true else !y10 then
   some false
  else
   zZ (fun(s11:Int)=>
     bif decide (s11<(x.1.sheets.length:Int))then
      za (zA (s11 != x.2.1) (geti y6.1.sheets s11) (default:Zr)) fun y12=>
      za (zA (s11 != x.2.1) (geti x.1.sheets s11) (default:Zr)) fun y13=>
      za (zA (s11 != x.2.1) (Jq (y12,y13)) (default:Bool)) fun y14=>
      bif bif s11 != x.2.1 then !y14 else false then
       some (LO.ret false)
      else
       some (LO.again (w64 (s11+1)))
     else
      some (LO.out ()):Int->Option (LO (Int) (Unit) _)) 0 fun o15=>
   za (geti x.1.sheets x.2.1) fun y16=>
   za (zA y1 (Jq (y7.1,(⟨y16.number,y16.origin,y16.site,x.2.2⟩:Zr))) (default:Bool)) fun y17=>
   some (bif bif y1 then y17 else false then y6.1.next==x.1.next else false)
end Go.Lv.VT
end
