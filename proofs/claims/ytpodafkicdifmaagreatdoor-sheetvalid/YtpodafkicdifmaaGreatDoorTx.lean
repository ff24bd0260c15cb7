/- Texts. -/
import Derived.Test.YtpodafkicdifmaaGreatDoorTy
import Derived.Test.YtpodafkicdifmaaGreatDoorLf
noncomputable section
set_option linter.unusedSimpArgs false
set_option linter.unusedVariables false
namespace Go.Lv.VT
set_option maxRecDepth 100000
variable [Fu]
def strings_IndexByte(x:Str×Int):Option Int:=
 za (IB (x.1,x.2)) fun y1=>
 some y1
def Sz(x:Str):Option Bool:=
 za (zD (!(bif x==[]then true else decide ((x.length:Int)>64))) (strings_IndexByte (x,0)) (default:Int)) fun y1=>
 some (bif bif x==[]then true else decide ((x.length:Int)>64)then true else decide (y1>=0))
def Qn(x:List Str):Option Int:=
 zU (S:=Int) (X:=Unit) (fun s1=>
   bif decide (s1<(x.length:Int))then
    za (geti x s1) fun y2=>
    za (Sz y2) fun y3=>
    bif y3 then
     some (.ret s1)
    else
     some (.again (w64 (s1+1)))
   else
    some (.out ())) 0 fun o4=>
 some (-1)
def qG(x:List Str):Option Bool:=
 za (Qn x) fun y1=>
 some (decide (y1>=0))
def KE(x:List Str):Option Bool:=
 za (zD (bif decide ((x.length:Int)>0)then decide ((x.length:Int)<=16)else false) (qG x) (default:Bool)) fun y1=>
 some (bif bif decide ((x.length:Int)>0)then decide ((x.length:Int)<=16)else false then !y1 else false)
def xE(x:List Str):Option Bool:=
 za (KE x) fun y1=>
 some (!y1)
def UL(x:List (List Str)):Option Int:=
 zU (S:=Int) (X:=Unit) (fun s1=>
   bif decide (s1<(x.length:Int))then
    za (geti x s1) fun y2=>
    za (xE y2) fun y3=>
    bif y3 then
     some (.ret s1)
    else
     some (.again (w64 (s1+1)))
   else
    some (.out ())) 0 fun o4=>
 some (-1)
def qW(x:List (List Str)):Option Bool:=
 za (UL x) fun y1=>
 some (decide (y1>=0))
def NG(Qm:List zm->Option Int)(x:List zm):Option Int:=
 zU (S:=Int×Int) (X:=Int) (fun s1=>
   bif decide (s1.2<(x.length:Int))then
    za (geti x s1.2) fun y2=>
    zU (S:=Int×Int) (X:=Int) (fun s3=>
      bif decide (s3.2<(y2.parts.length:Int))then
       za (geti y2.parts s3.2) fun y4=>
       zU (S:=Int×Int) (X:=Int) (fun s5=>
         bif decide (s5.2<(y4.simples.length:Int))then
          Zh (X:=Int×Int) (
            za (geti y4.simples s5.2) fun y6=>
            bif bif y6.kind==3 then true else bif decide (y6.kind>=9)then !(bif bif bif y6.kind==9 then true else y6.kind==10 then !y6.of_ else false then y6.anb.a==0&&(y6.anb.b==1&&true)else false)else false then
             za (Qm y6.list) fun y7=>
             some (.out (if w64 (y7+1)>s5.1 then w64 (y7+1)else s5.1,s5.2))
            else
             some (.out (s5.1,s5.2))) fun j8=>
          some (.again (j8.1,w64 (j8.2+1)))
         else
          some (.out s5.1)) (s3.1,0) fun o9=>
       some (.again (o9,w64 (s3.2+1)))
      else
       some (.out s3.1)) (s1.1,0) fun o10=>
    some (.again (o10,w64 (s1.2+1)))
   else
    some (.out s1.1)) (0,0) fun o11=>
 some o11
def Qm:List zm->Option Int:=recE (NG)
def Cv(x:Str×Int):Option Bool:=
 za (zD (!(decide ((x.1.length:Int)>x.2))) (strings_IndexByte (x.1,0)) (default:Int)) fun y1=>
 some (bif decide ((x.1.length:Int)>x.2)then true else decide (y1>=0))
def Pv(x:Str):Option Bool:=
 za (zD (!(x==[])) (Cv (x,64)) (default:Bool)) fun y1=>
 some (bif !(x==[])then !y1 else false)
def ZN(x:Str):Option Str:=
 need (decide (x.length<=maxLen))<|
 zU (S:=Int×List UInt8) (X:=List UInt8) (fun s1=>
   bif decide (s1.1<(x.length:Int))then
    Zh (X:=Int×List UInt8) (
      need (decide (0<=s1.1)&&decide (s1.1<(s1.2.length:Int)))<|
      za s1.2[s1.1.toNat]? fun y2=>
      bif bif decide (65<=(y2.toNat:Int))then decide ((y2.toNat:Int)<=90)else false then
       need (decide (0<=s1.1)&&decide (s1.1<(s1.2.length:Int)))<|
       za s1.2[s1.1.toNat]? fun y3=>
       need (decide (0<=s1.1)&&decide (s1.1<(s1.2.length:Int)))<|
       za s1.2[s1.1.toNat]? fun y4=>
       za (QG (ibOr IntKind.u8 (y3.toNat:Int) 32)) fun y5=>
       some (.out (s1.1,List.set s1.2 s1.1.toNat y5))
      else
       some (.out (s1.1,s1.2))) fun j6=>
    some (.again (w64 (j6.1+1),j6.2))
   else
    some (.out s1.2)) (0,x) fun o7=>
 some o7
def Ov(x:Str):Option Bool:=
 za (Pv x) fun y1=>
 za (zD y1 (ZN x) (default:Str)) fun y2=>
 some (bif y1 then y2==x else false)
def aF(x:zI):Option (Bool×Bool):=
 Zh (X:=Bool) (
   bif x.kind==9 then
    some (.out (x.kind==9))
   else
    some (.out (x.kind==10))) fun j1=>
 bif j1 then
  some (x.of_,false)
 else
  Zh (X:=Bool) (
    bif x.kind==11 then
     some (.out (x.kind==11))
    else
     some (.out (x.kind==12))) fun j2=>
  bif j2 then
   some (true,true)
  else
   Zh (X:=Bool) (
     bif x.kind==13 then
      some (.out (x.kind==13))
     else
      some (.out (x.kind==14))) fun j3=>
   bif j3 then
    some (true,false)
   else
    some (false,true)
def QF(x:zg×Int):Option (zg×Bool):=
 bif bif x.1.deep==3 then true else bif x.1.has then x.2==14 else false then
  some ((⟨0,false⟩:zg),false)
 else
  some ((⟨w64 (x.1.deep+1),bif x.1.has then true else x.2==14⟩:zg),true)
def kD(x:Int):Option Bool:=
 some (bif decide ((-1000000000)<=x)then decide (x<=1000000000)else false)
def Su(x:VAnb):Option Int:=
 za (kD x.a) fun y1=>
 za (zD (!(!y1)) (kD x.b) (default:Bool)) fun y2=>
 bif bif !y1 then true else !y2 then
  some 8
 else
  some 0
def DL(zy:zm×zg×Bool->Option Bool)(x:zm×zg×zI):Option Bool:=
 za (zy ((⟨x.1.lead,x.1.parts,x.1.combs⟩:zm),x.2.1,x.2.2.kind==14)) fun y1=>
 some (!y1)
def YL(zy:zm×zg×Bool->Option Bool)(x:List zm×zg×zI):Option Int:=
 zU (S:=Int) (X:=Unit) (fun s1=>
   bif decide (s1<(x.1.length:Int))then
    za (geti x.1 s1) fun y2=>
    za (DL zy ((⟨y2.lead,y2.parts,y2.combs⟩:zm),x.2.1,(⟨x.2.2.kind,x.2.2.name,x.2.2.op,x.2.2.value,x.2.2.fold,x.2.2.anb,x.2.2.of_,x.2.2.list⟩:zI))) fun y3=>
    bif y3 then
     some (.ret s1)
    else
     some (.again (w64 (s1+1)))
   else
    some (.out ())) 0 fun o4=>
 some (-1)
def qx(zy:zm×zg×Bool->Option Bool)(x:List zm×zg×zI):Option Bool:=
 za (YL zy (x.1,x.2.1,(⟨x.2.2.kind,x.2.2.name,x.2.2.op,x.2.2.value,x.2.2.fold,x.2.2.anb,x.2.2.of_,x.2.2.list⟩:zI))) fun y1=>
 some (decide (y1>=0))
def Wz(zy:zm×zg×Bool->Option Bool)(x:zI×zg):Option Bool:=
 za (aF (⟨x.1.kind,x.1.name,x.1.op,x.1.value,x.1.fold,x.1.anb,x.1.of_,x.1.list⟩:zI)) fun y1=>
 Zh (X:=Unit) (
   bif y1.1 then
    za (QF (x.2,x.1.kind)) fun y2=>
    za (zD (!(bif !y2.2 then true else bif !y1.2 then(x.1.list.length:Int)==0 else false)) (qx zy (x.1.list,y2.1,(⟨x.1.kind,x.1.name,x.1.op,x.1.value,x.1.fold,x.1.anb,x.1.of_,x.1.list⟩:zI))) (default:Bool)) fun y3=>
    bif bif bif !y2.2 then true else bif !y1.2 then(x.1.list.length:Int)==0 else false then true else y3 then
     some (.ret false)
    else
     some (.out ())
   else
    bif decide ((x.1.list.length:Int)>0)then
     some (.ret false)
    else
     some (.out ())) fun j4=>
 bif bif bif !(x.1.kind==3)then bif bif x.1.op != 0 then true else !(x.1.value==[])then true else x.1.fold else false then true else bif !(bif x.1.kind==9 then true else x.1.kind==10)then bif x.1.of_ then true else !(x.1.anb.a==0&&(x.1.anb.b==0&&true))else false then
  some false
 else
  Zh (X:=Bool) (
    bif x.1.kind==1 then
     some (.out (x.1.kind==1))
    else
     some (.out (x.1.kind==2))) fun j5=>
  bif j5 then
   za (Pv x.1.name) fun y6=>
   some y6
  else
   bif x.1.kind==3 then
    za (Ov x.1.name) fun y7=>
    za (zD (bif y7 then decide (x.1.op<=6)else false) (Cv (x.1.value,400)) (default:Bool)) fun y8=>
    some (bif bif bif y7 then decide (x.1.op<=6)else false then !y8 else false then bif x.1.op != 0 then true else bif x.1.value==[]then !x.1.fold else false else false)
   else
    za (zD (!(!(bif x.1.kind==9 then true else x.1.kind==10))&&(bif bif x.1.name==[]then decide (x.1.kind>=4)else false then decide (x.1.kind<=14)else false)) (Su x.1.anb) (default:Int)) fun y9=>
    some (bif bif bif x.1.name==[]then decide (x.1.kind>=4)else false then decide (x.1.kind<=14)else false then bif !(bif x.1.kind==9 then true else x.1.kind==10)then true else y9==0 else false)
def Rv(zy:zm×zg×Bool->Option Bool)(x:zO×zg):Option Bool:=
 za (zD (bif !(x.1.tag==[])then !(x.1.tag==[42])else false) (Ov x.1.tag) (default:Bool)) fun y1=>
 bif bif bif bif !(x.1.tag==[])then !(x.1.tag==[42])else false then !y1 else false then true else decide ((x.1.simples.length:Int)>64)then
  some false
 else
  zU (S:=Int) (X:=Unit) (fun s2=>
    bif decide (s2<(x.1.simples.length:Int))then
     za (geti x.1.simples s2) fun y3=>
     za (Wz zy ((⟨y3.kind,y3.name,y3.op,y3.value,y3.fold,y3.anb,y3.of_,y3.list⟩:zI),x.2)) fun y4=>
     bif !y4 then
      some (.ret false)
     else
      some (.again (w64 (s2+1)))
    else
     some (.out ())) 0 fun o5=>
  some (bif !(x.1.tag==[])then true else decide ((x.1.simples.length:Int)>0))
def wK(zy:zm×zg×Bool->Option Bool)(x:zO×zg):Option Bool:=
 za (Rv zy ((⟨x.1.tag,x.1.simples⟩:zO),x.2)) fun y1=>
 some (!y1)
def nL(zy:zm×zg×Bool->Option Bool)(x:List zO×zg):Option Int:=
 zU (S:=Int) (X:=Unit) (fun s1=>
   bif decide (s1<(x.1.length:Int))then
    za (geti x.1 s1) fun y2=>
    za (wK zy ((⟨y2.tag,y2.simples⟩:zO),x.2)) fun y3=>
    bif y3 then
     some (.ret s1)
    else
     some (.again (w64 (s1+1)))
   else
    some (.out ())) 0 fun o4=>
 some (-1)
def qF(zy:zm×zg×Bool->Option Bool)(x:List zO×zg):Option Bool:=
 za (nL zy (x.1,x.2)) fun y1=>
 some (decide (y1>=0))
def kF(zy:zm×zg×Bool->Option Bool)(x:zm×zg×Bool):Option Bool:=
 bif bif bif bif !(x.2.2==(x.1.lead != 0))then true else decide (x.1.lead>4)then true else w64 ((x.1.combs.length:Int)+1) != (x.1.parts.length:Int)then true else decide ((x.1.parts.length:Int)>64)then
  some false
 else
  zU (S:=Int) (X:=Unit) (fun s1=>
    bif decide (s1<(x.1.combs.length:Int))then
     za (geti x.1.combs s1) fun y2=>
     bif bif decide ((y2.toNat:Int)<1)then true else decide ((y2.toNat:Int)>4)then
      some (.ret false)
     else
      some (.again (w64 (s1+1)))
    else
     some (.out ())) 0 fun o3=>
  za (qF zy (x.1.parts,x.2.1)) fun y4=>
  some (!y4)
def zy:zm×zg×Bool->Option Bool:=recE (kF)
def xK(x:zm):Option Bool:=
 za (zy ((⟨x.lead,x.parts,x.combs⟩:zm),(⟨0,false⟩:zg),false)) fun y1=>
 some (!y1)
def dL(x:List zm):Option Int:=
 zU (S:=Int) (X:=Unit) (fun s1=>
   bif decide (s1<(x.length:Int))then
    za (geti x s1) fun y2=>
    za (xK (⟨y2.lead,y2.parts,y2.combs⟩:zm)) fun y3=>
    bif y3 then
     some (.ret s1)
    else
     some (.again (w64 (s1+1)))
   else
    some (.out ())) 0 fun o4=>
 some (-1)
def qM(x:List zm):Option Bool:=
 za (dL x) fun y1=>
 some (decide (y1>=0))
def lF(Ql:List zm->Option Int)(x:List zm):Option Int:=
 zU (S:=Int×Int) (X:=Int) (fun s1=>
   bif decide (s1.2<(x.length:Int))then
    za (geti x s1.2) fun y2=>
    zU (S:=Int×Int) (X:=Int) (fun s3=>
      bif decide (s3.2<(y2.parts.length:Int))then
       za (geti y2.parts s3.2) fun y4=>
       zU (S:=Int×Int) (X:=Int) (fun s5=>
         bif decide (s5.2<(y4.simples.length:Int))then
          za (geti y4.simples s5.2) fun y6=>
          za (Ql y6.list) fun y7=>
          some (.again (w64 (s5.1+y7),w64 (s5.2+1)))
         else
          some (.out s5.1)) (s3.1,0) fun o8=>
       some (.again (o8,w64 (s3.2+1)))
      else
       some (.out s3.1)) (s1.1,0) fun o9=>
    some (.again (o9,w64 (s1.2+1)))
   else
    some (.out s1.1)) ((x.length:Int),0) fun o10=>
 some o10
def Ql:List zm->Option Int:=recE (lF)
def bF(x:List zm):Option Int:=
 za (zD (!((x.length:Int)==0)) (qM x) (default:Bool)) fun y1=>
 bif bif (x.length:Int)==0 then true else y1 then
  some 8
 else
  za (Ql x) fun y2=>
  bif decide (y2>64)then
   some 4
  else
   some 0
def lu(x:zw):Option Bool:=
 some (bif bif bif bif bif bif x.kind==0 then x.name==[]else false then x.num==0 else false then(x.list.length:Int)==0 else false then x.decl.name==[]else false then(x.decl.value.length:Int)==0 else false then !x.decl.important else false)
def uu(x:Int):Option Int:=
 bif x==2 then
  some 22
 else
  Zh (X:=Bool) (
    bif x==19 then
     some (.out (x==19))
    else
     bif x==21 then
      some (.out (x==21))
     else
      some (.out (x==23))) fun j1=>
  bif j1 then
   some (wu8 (x+1))
  else
   some 0
def yD(jl:List zb×Int->Option ZG)(x:List zb×Int):Option ZG:=
 zU (S:=Int×ZG) (X:=ZG) (fun s1=>
   bif decide (s1.1<(x.1.length:Int))then
    Zh (X:=Int×ZG) (
      za (geti x.1 s1.1) fun y2=>
      za (uu y2.token.kind) fun y3=>
      Zh (X:=ZG) (
        bif bif bif x.2 != 0 then y2.token.kind==x.2 else false then true else bif y3==0 then decide ((y2.list.length:Int)>0)else false then
         some (.out (⟨s1.2.depth,w64 (s1.2.tokens+1),true⟩:ZG))
        else
         some (.out (⟨s1.2.depth,w64 (s1.2.tokens+1),s1.2.bad⟩:ZG))) fun j4=>
      bif y3==0 then
       some (.out (s1.1,j4))
      else
       za (jl (y2.list,y3)) fun y5=>
       some (.out (s1.1,(⟨if w64 (y5.depth+1)>j4.depth then w64 (y5.depth+1)else j4.depth,w64 (w64 (j4.tokens+y5.tokens)+1),bif j4.bad then true else y5.bad⟩:ZG)))) fun j6=>
    some (.again (w64 (j6.1+1),j6.2))
   else
    some (.out s1.2)) (0,(⟨0,0,false⟩:ZG)) fun o7=>
 some o7
def jl:List zb×Int->Option ZG:=recE (yD)
def Yl(x:List zb):Option Int:=
 za (jl (x,0)) fun y1=>
 bif decide (y1.depth>16)then
  some 20
 else
  bif decide (y1.tokens>1500)then
   some 4
  else
   bif y1.bad then
    some 8
   else
    some 0
def wo(x:List zb):Option (Int×Int):=
 za (Yl x) fun y1=>
 bif y1 != 0 then
  some (0,y1)
 else
  za (jl (x,0)) fun y2=>
  some (y2.depth,0)
def WF(Sn:List zb×List zf->Option (List zf))(x:List zb×List zf):Option (List zf):=
 zU (S:=Int×List zf) (X:=List zf) (fun s1=>
   bif decide (s1.1<(x.1.length:Int))then
    Zh (X:=Int×List zf) (
      za (geti x.1 s1.1) fun y2=>
      need (ZE s1.2.length 1 56)<|
      za (uu y2.token.kind) fun y3=>
      bif y3 != 0 then
       za (Sn (y2.list,s1.2++[y2.token])) fun y4=>
       need (ZE y4.length 1 56)<|
       some (.out (s1.1,y4++[(⟨y3,[],0,[],false⟩:zf)]))
      else
       some (.out (s1.1,s1.2++[y2.token]))) fun j5=>
    some (.again (w64 (j5.1+1),j5.2))
   else
    some (.out s1.2)) (0,x.2) fun o6=>
 some o6
def Sn:List zb×List zf->Option (List zf):=recE (WF)
def CE(x:List zb):Option (List zf):=
 zU (S:=Int×List zf) (X:=List zf) (fun s1=>
   bif decide (s1.1<(x.length:Int))then
    Zh (X:=Int×List zf) (
      za (geti x s1.1) fun y2=>
      need (ZE s1.2.length 1 56)<|
      za (uu y2.token.kind) fun y3=>
      bif y3 != 0 then
       za (Sn (y2.list,s1.2++[y2.token])) fun y4=>
       need (ZE y4.length 1 56)<|
       some (.out (s1.1,y4++[(⟨y3,[],0,[],false⟩:zf)]))
      else
       some (.out (s1.1,s1.2++[y2.token]))) fun j5=>
    some (.again (w64 (j5.1+1),j5.2))
   else
    some (.out s1.2)) (0,[]) fun o6=>
 some o6
def Gy(x:List zb):Option (List zf×Int):=
 za (Yl x) fun y1=>
 bif y1 != 0 then
  some ([],y1)
 else
  za (CE x) fun y2=>
  some (y2,0)
def stringslite_HasPrefix(x:Str×Str):Option Bool:=
 need (decide (0<=(x.2.length:Int))&&decide ((x.2.length:Int)<=(x.1.length:Int))|| !(decide ((x.1.length:Int)>=(x.2.length:Int))))<|
 some (bif decide ((x.1.length:Int)>=(x.2.length:Int))then List.take x.2.length x.1==x.2 else false)
def strings_HasPrefix(x:Str×Str):Option Bool:=
 za (stringslite_HasPrefix (x.1,x.2)) fun y1=>
 some y1
def fD(x:Str):Option Bool:=
 za (zD (!(bif x==[]then true else decide ((x.length:Int)>64))) (strings_IndexByte (x,0)) (default:Int)) fun y1=>
 bif bif bif x==[]then true else decide ((x.length:Int)>64)then true else decide (y1>=0)then
  some false
 else
  za (strings_HasPrefix (x,[45,45])) fun y2=>
  bif y2 then
   some (!(x==[45,45]))
  else
   za (ZN x) fun y3=>
   some (x==y3)
def stringslite_TrimPrefix(x:Str×Str):Option Str:=
 za (stringslite_HasPrefix (x.1,x.2)) fun y1=>
 bif y1 then
  need (decide (0<=(x.2.length:Int))&&decide ((x.2.length:Int)<=(x.1.length:Int)))<|
  some (List.drop x.2.length x.1)
 else
  some x.1
def strings_TrimPrefix(x:Str×Str):Option Str:=
 za (stringslite_TrimPrefix (x.1,x.2)) fun y1=>
 some y1
def ku(x:Int):Option Bool:=
 some (bif decide (48<=x)then decide (x<=57)else false)
def YE(x:Str):Option Bool:=
 za (strings_TrimPrefix (x,[45])) fun y1=>
 za (zD (!(y1==[])) (geti y1 0) 0) fun y2=>
 za (zD (!(y1==[])) (ku (y2.toNat:Int)) (default:Bool)) fun y3=>
 some (bif !(y1==[])then y3 else false)
def yQ(x:Int):Option Bool:=
 some (bif bif decide (97<=ibOr IntKind.u8 x 32)then decide (ibOr IntKind.u8 x 32<=122)else false then decide (x<128)else false)
def eD(x:Int):Option Bool:=
 za (yQ x) fun y1=>
 za (zD (!y1) (ku x) (default:Bool)) fun y2=>
 some (bif bif bif bif y1 then true else y2 then true else x==95 then true else x==45 then true else decide (x>=128))
def strings_Contains(x:Str×Str):Option Bool:=
 za (Km (x.1,x.2)) fun y1=>
 some (decide (y1>=0))
def TD(x:zf):Option Bool:=
 need (Ph x.text.length x.unit.length)<|
 za (strings_IndexByte (x.text++x.unit,0)) fun y1=>
 Zh (X:=Bool×Bool×Bool×Bool×Bool) (
   Zh (X:=Bool×Bool×Bool×Bool×Bool×Bool) (
     bif x.kind==1 then
      some (.out (false,false,false,false,decide (y1<0),x.kind==1))
     else
      bif x.kind==2 then
       some (.out (false,false,false,false,decide (y1<0),x.kind==2))
      else
       some (.out (false,false,false,false,decide (y1<0),x.kind==3))) fun j2=>
   bif j2.2.2.2.2.2 then
    some (.out (true,j2.2.1,j2.2.2.1,j2.2.2.2.1,bif j2.2.2.2.2.1 then !(x.text==[])else false))
   else
    bif x.kind==4 then
     za (zD (!x.flag&&(bif j2.2.2.2.2.1 then !(x.text==[])else false)) (YE x.text) (default:Bool)) fun y3=>
     za (zD (y3&&(!x.flag&&(bif j2.2.2.2.2.1 then !(x.text==[])else false))) (strings_HasPrefix (x.text,[45,45])) (default:Bool)) fun y4=>
     some (.out (true,j2.2.1,j2.2.2.1,true,bif bif j2.2.2.2.2.1 then !(x.text==[])else false then bif bif x.flag then true else bif y3 then !y4 else false then true else x.text==[45]else false))
    else
     Zh (X:=Bool×Bool×Bool×Bool×Bool×Bool) (
       bif x.kind==5 then
        some (.out (j2.1,j2.2.1,j2.2.2.1,j2.2.2.2.1,j2.2.2.2.2.1,x.kind==5))
       else
        some (.out (j2.1,j2.2.1,j2.2.2.1,j2.2.2.2.1,j2.2.2.2.2.1,x.kind==7))) fun j5=>
     bif j5.2.2.2.2.2 then
      some (.out (true,j5.2.1,j5.2.2.1,j5.2.2.2.1,j5.2.2.2.2.1))
     else
      bif x.kind==9 then
       za (zD (bif j5.2.2.2.2.1 then(x.text.length:Int)==1 else false) (geti x.text 0) 0) fun y6=>
       za (zD (bif j5.2.2.2.2.1 then(x.text.length:Int)==1 else false) (eD (y6.toNat:Int)) (default:Bool)) fun y7=>
       za (zD (bif bif bif j5.2.2.2.2.1 then(x.text.length:Int)==1 else false then !y7 else false then true else x.text==[45]) (strings_Contains ([32,9,10,12,13,34,39,58,59,44,91,93,40,41,123,125],x.text)) (default:Bool)) fun y8=>
       some (.out (true,j5.2.1,j5.2.2.1,j5.2.2.2.1,bif bif bif bif j5.2.2.2.2.1 then(x.text.length:Int)==1 else false then !y7 else false then true else x.text==[45]then !y8 else false))
      else
       Zh (X:=Bool×Bool×Bool×Bool×Bool) (
         bif x.kind==10 then
          some (.out (j5.2.1,j5.2.2.1,j5.2.2.2.1,j5.2.2.2.2.1,x.kind==10))
         else
          bif x.kind==11 then
           some (.out (j5.2.1,j5.2.2.1,j5.2.2.2.1,j5.2.2.2.2.1,x.kind==11))
          else
           some (.out (j5.2.1,j5.2.2.1,j5.2.2.2.1,j5.2.2.2.2.1,x.kind==12))) fun j9=>
       bif j9.2.2.2.2 then
        some (.out (j5.1,x.kind==12,true,x.kind != 11,bif bif bif bif j9.2.2.2.1 then decide (x.num>=(-1000000000000))else false then decide (x.num<=1000000000000)else false then bif !x.flag then true else Int.tmod x.num 1000==0 else false then bif !(x.kind==12)then true else !(x.unit==[])else false))
       else
        some (.out (j5.1,j9.1,j9.2.1,j9.2.2.1,bif decide (x.kind>=13)then decide (x.kind<=24)else false))) fun j10=>
 some (bif bif bif bif j10.2.2.2.2 then bif j10.1 then true else x.text==[]else false then bif j10.2.1 then true else x.unit==[]else false then bif j10.2.2.1 then true else x.num==0 else false then bif j10.2.2.2.1 then true else !x.flag else false)
def Jp(x:(Int×Int)×List zf):Option Bool:=
 za (zD (decide (x.1.1<(x.2.length:Int))) (geti x.2 x.1.1) (default:zf)) fun y1=>
 some (bif decide (x.1.1<(x.2.length:Int))then y1.kind==x.1.2 else false)
def QB(x:Str×Str):Option Bool:=
 za (ZN x.1) fun y1=>
 za (ZN x.2) fun y2=>
 some (y1==y2)
def dD(x:List zf):Option Int:=
 za (geti x 0) fun y1=>
 bif bif y1.kind==9 then y1.text==[92]else false then
  za (Jp ((1,13),x)) fun y2=>
  bif !y2 then
   some 0
  else
   some 2
 else
  za (zD (y1.kind==2) (QB (y1.text,[117,114,108])) (default:Bool)) fun y3=>
  bif bif y1.kind==2 then y3 else false then
   Zh (X:=Int) (
     za (Jp ((1,13),x)) fun y4=>
     bif y4 then
      some (.out 2)
     else
      some (.out 1)) fun j5=>
   za (Jp ((j5,5),x)) fun y6=>
   bif !y6 then
    some 0
   else
    some (w64 (j5+1))
  else
   some 1
def Sy(x:List zf):Option Int:=
 bif decide ((x.length:Int)>1500)then
  some 4
 else
  zU (S:=Int) (X:=Unit) (fun s1=>
    bif decide (s1<(x.length:Int))then
     za (geti x s1) fun y2=>
     za (TD y2) fun y3=>
     need (decide (0<=s1)&&decide (s1<=(x.length:Int))|| !(!(!y3)))<|
     za (zD (!(!y3)) (dD (List.drop s1.toNat x)) (default:Int)) fun y4=>
     bif bif !y3 then true else y4==0 then
      some (.ret 8)
     else
      some (.again (w64 (s1+1)))
    else
     some (.out ())) 0 fun o5=>
  some 0
def QA(x:zb×Int):Option Bool:=
 some (x.1.token.kind==x.2)
def rz(Zr:List zb->Option Bool)(x:zb):Option Bool:=
 za (QA ((⟨x.token,x.list⟩:zb),20)) fun y1=>
 za (zD (!y1) (QA ((⟨x.token,x.list⟩:zb),22)) (default:Bool)) fun y2=>
 za (zD (!(bif y1 then true else y2)) (QA ((⟨x.token,x.list⟩:zb),24)) (default:Bool)) fun y3=>
 za (zD (!(bif bif y1 then true else y2 then true else y3)) (Zr x.list) (default:Bool)) fun y4=>
 some (bif bif bif y1 then true else y2 then true else y3 then true else y4)
def NL(Zr:List zb->Option Bool)(x:List zb):Option Int:=
 zU (S:=Int) (X:=Unit) (fun s1=>
   bif decide (s1<(x.length:Int))then
    za (geti x s1) fun y2=>
    za (rz Zr (⟨y2.token,y2.list⟩:zb)) fun y3=>
    bif y3 then
     some (.ret s1)
    else
     some (.again (w64 (s1+1)))
   else
    some (.out ())) 0 fun o4=>
 some (-1)
def oL(Zr:List zb->Option Bool)(x:List zb):Option Bool:=
 za (NL Zr x) fun y1=>
 some (decide (y1>=0))
def KG(Zr:List zb->Option Bool)(x:List zb):Option Bool:=
 za (oL Zr x) fun y1=>
 some y1
def Zr:List zb->Option Bool:=recE (KG)
def rq(x:zb):Option Bool:=
 za (QA ((⟨x.token,x.list⟩:zb),9)) fun y1=>
 some (bif y1 then x.token.text==[33]else false)
def bE(x:zb):Option Bool:=
 za (QA ((⟨x.token,x.list⟩:zb),17)) fun y1=>
 za (zD (!y1) (rq (⟨x.token,x.list⟩:zb)) (default:Bool)) fun y2=>
 some (bif y1 then true else y2)
def bL(x:List zb):Option Int:=
 zU (S:=Int) (X:=Unit) (fun s1=>
   bif decide (s1<(x.length:Int))then
    za (geti x s1) fun y2=>
    za (bE (⟨y2.token,y2.list⟩:zb)) fun y3=>
    bif y3 then
     some (.ret s1)
    else
     some (.again (w64 (s1+1)))
   else
    some (.out ())) 0 fun o4=>
 some (-1)
def qN(x:List zb):Option Bool:=
 za (bL x) fun y1=>
 some (decide (y1>=0))
def Gn(x:Zx):Option Int:=
 za (Gy x.value) fun y1=>
 za (fD x.name) fun y2=>
 za (zD (!(bif !y2 then true else y1.2 != 0)) (Sy y1.1) (default:Int)) fun y3=>
 za (zD (!(bif bif !y2 then true else y1.2 != 0 then true else y3 != 0)) (Zr x.value) (default:Bool)) fun y4=>
 bif bif bif bif !y2 then true else y1.2 != 0 then true else y3 != 0 then true else y4 then
  some 8
 else
  za (qN x.value) fun y5=>
  bif y5 then
   some 8
  else
   za (zD ((x.value.length:Int)==0) (strings_HasPrefix (x.name,[45,45])) (default:Bool)) fun y6=>
   za (zD (decide ((x.value.length:Int)>0)&& !(bif (x.value.length:Int)==0 then !y6 else false)) (geti x.value 0) (default:zb)) fun y7=>
   za (zD (decide ((x.value.length:Int)>0)&& !(bif (x.value.length:Int)==0 then !y6 else false)) (QA ((⟨y7.token,y7.list⟩:zb),13)) (default:Bool)) fun y8=>
   za (zD (!y8&&(decide ((x.value.length:Int)>0)&& !(bif (x.value.length:Int)==0 then !y6 else false))) (geti x.value (w64 ((x.value.length:Int) - 1))) (default:zb)) fun y9=>
   za (zD (!y8&&(decide ((x.value.length:Int)>0)&& !(bif (x.value.length:Int)==0 then !y6 else false))) (QA ((⟨y9.token,y9.list⟩:zb),13)) (default:Bool)) fun y10=>
   bif bif bif (x.value.length:Int)==0 then !y6 else false then true else bif decide ((x.value.length:Int)>0)then bif y8 then true else y10 else false then
    some 8
   else
    some 0
def TF(Bn:zw->Option Int)(x:zw):Option Int:=
 Zh (X:=Int) (
   bif bif x.kind==5 then true else x.kind==6 then
    some (.out 1)
   else
    some (.out 0)) fun j1=>
 zU (S:=Int×Int) (X:=Int) (fun s2=>
   bif decide (s2.2<(x.list.length:Int))then
    za (geti x.list s2.2) fun y3=>
    za (Bn (⟨y3.kind,y3.name,y3.num,y3.decl,y3.list⟩:zw)) fun y4=>
    some (.again (if y4>s2.1 then y4 else s2.1,w64 (s2.2+1)))
   else
    some (.out s2.1)) (j1,0) fun o5=>
 some o5
def Bn:zw->Option Int:=recE (TF)
def ol(x:zw):Option Bool:=
 some (bif bif bif bif x.name==[]then x.num==0 else false then x.decl.name==[]else false then(x.decl.value.length:Int)==0 else false then !x.decl.important else false)
def slices_Index_string(x:List Str×Str):Option Int:=
 zU (S:=Int) (X:=Unit) (fun s1=>
   bif decide (s1<(x.1.length:Int))then
    za (geti x.1 s1) fun y2=>
    bif x.2==y2 then
     some (.ret s1)
    else
     some (.again (w64 (s1+1)))
   else
    some (.out ())) 0 fun o3=>
 some (-1)
def slices_Contains_string(x:List Str×Str):Option Bool:=
 za (slices_Index_string (x.1,x.2)) fun y1=>
 some (decide (y1>=0))
def xu(x:Str):Option Bool:=
 za (slices_Contains_string ([[],[97,110,100],[111,114],[110,111,116],[111,110,108,121]],x)) fun y1=>
 za (zD (bif !y1 then decide ((x.length:Int)<=64)else false) (ZN x) (default:Str)) fun y2=>
 za (zD (bif bif !y1 then decide ((x.length:Int)<=64)else false then y2==x else false) (strings_IndexByte (x,0)) (default:Int)) fun y3=>
 some (bif bif bif !y1 then decide ((x.length:Int)<=64)else false then y2==x else false then decide (y3<0)else false)
def CK(x:List Int):Option Int:=
 zU (S:=Int) (X:=Unit) (fun s1=>
   bif decide (s1<(x.length:Int))then
    za (geti x s1) fun y2=>
    bif bif decide (y2<(-1000000000000))then true else decide (y2>1000000000000)then
     some (.ret 8)
    else
     some (.again (w64 (s1+1)))
   else
    some (.out ())) 0 fun o3=>
 some 0
def wu(x:Int):Option Int:=
 za (CK [x]) fun y1=>
 some y1
def Vy(x:zw):Option Bool:=
 za (zD (!(x.kind != 1)) (ol (⟨x.kind,x.name,x.num,x.decl,x.list⟩:zw)) (default:Bool)) fun y1=>
 bif bif bif x.kind != 1 then true else !y1 then true else(x.list.length:Int)==0 then
  some false
 else
  zU (S:=Int) (X:=Unit) (fun s2=>
    bif decide (s2<(x.list.length:Int))then
     Zh (X:=Int) (
       za (geti x.list s2) fun y3=>
       za (zD (!(decide ((y3.list.length:Int)>0))) (ol (⟨y3.kind,[],0,y3.decl,y3.list⟩:zw)) (default:Bool)) fun y4=>
       bif bif decide ((y3.list.length:Int)>0)then true else !y4 then
        some (.ret (LO.ret false))
       else
        bif y3.kind==4 then
         za (zD (!(bif decide (s2>0)then true else y3.num != 0)) (xu y3.name) (default:Bool)) fun y5=>
         bif bif bif decide (s2>0)then true else y3.num != 0 then true else !y5 then
          some (.ret (LO.ret false))
         else
          some (.out s2)
        else
         Zh (X:=Bool) (
           bif y3.kind==5 then
            some (.out (y3.kind==5))
           else
            some (.out (y3.kind==6))) fun j6=>
         bif j6 then
          za (zD (!(bif !(y3.name==[])then true else decide (y3.num<0))) (wu y3.num) (default:Int)) fun y7=>
          bif bif bif !(y3.name==[])then true else decide (y3.num<0)then true else y7 != 0 then
           some (.ret (LO.ret false))
          else
           some (.out s2)
         else
          some (.ret (LO.ret false))) fun j8=>
     some (.again (w64 (j8+1)))
    else
     some (.out ())) 0 fun o9=>
  some true
def gD(x:zw):Option Bool:=
 za (zD (decide ((x.list.length:Int)>0)) (geti x.list 0) (default:zw)) fun y1=>
 some (bif decide ((x.list.length:Int)>0)then y1.kind==4 else false)
def OD(x:zw):Option Bool:=
 bif x.kind==3 then
  za (ol (⟨x.kind,x.name,x.num,x.decl,x.list⟩:zw)) fun y1=>
  za (zD (bif y1 then(x.list.length:Int)==1 else false) (geti x.list 0) (default:zw)) fun y2=>
  za (zD (bif y1 then(x.list.length:Int)==1 else false) (Vy (⟨y2.kind,y2.name,y2.num,y2.decl,y2.list⟩:zw)) (default:Bool)) fun y3=>
  za (zD (bif bif y1 then(x.list.length:Int)==1 else false then y3 else false) (geti x.list 0) (default:zw)) fun y4=>
  za (zD (bif bif y1 then(x.list.length:Int)==1 else false then y3 else false) (gD (⟨y4.kind,y4.name,y4.num,y4.decl,y4.list⟩:zw)) (default:Bool)) fun y5=>
  some (bif bif bif y1 then(x.list.length:Int)==1 else false then y3 else false then y5 else false)
 else
  za (Vy (⟨x.kind,x.name,x.num,x.decl,x.list⟩:zw)) fun y6=>
  some y6
def lG(x:zw):Option Bool:=
 za (OD (⟨x.kind,x.name,x.num,x.decl,x.list⟩:zw)) fun y1=>
 some (!y1)
def WL(x:List zw):Option Int:=
 zU (S:=Int) (X:=Unit) (fun s1=>
   bif decide (s1<(x.length:Int))then
    za (geti x s1) fun y2=>
    za (lG (⟨y2.kind,y2.name,y2.num,y2.decl,y2.list⟩:zw)) fun y3=>
    bif y3 then
     some (.ret s1)
    else
     some (.again (w64 (s1+1)))
   else
    some (.out ())) 0 fun o4=>
 some (-1)
def Qw(x:List zw):Option Bool:=
 za (WL x) fun y1=>
 some (decide (y1>=0))
def XG(x:zw):Option Int:=
 za (zD (bif bif x.kind==2 then decide ((x.list.length:Int)>0)else false then decide ((x.list.length:Int)<=64)else false) (Qw x.list) (default:Bool)) fun y1=>
 za (ol (⟨x.kind,x.name,x.num,x.decl,x.list⟩:zw)) fun y2=>
 bif bif !y2 then true else bif !(bif x.kind==1 then(x.list.length:Int)==0 else false)then !(bif bif bif x.kind==2 then decide ((x.list.length:Int)>0)else false then decide ((x.list.length:Int)<=64)else false then !y1 else false)else false then
  some 8
 else
  some 0
def Av(Vl:zw->Option Int)(x:zw):Option Int:=
 bif x.kind==7 then
  za (wo x.decl.value) fun y1=>
  some (w64 (y1.1+1))
 else
  bif x.kind==8 then
   some 1
  else
   zU (S:=Int×Int) (X:=Int) (fun s2=>
     bif decide (s2.2<(x.list.length:Int))then
      za (geti x.list s2.2) fun y3=>
      za (Vl (⟨y3.kind,y3.name,y3.num,y3.decl,y3.list⟩:zw)) fun y4=>
      Zh (X:=Int×Int) (
        bif bif y3.kind != 7 then y3.kind != 8 else false then
         some (.out (s2.1,w64 (y4+1)))
        else
         some (.out (s2.1,y4))) fun j5=>
      some (.again (if j5.2>j5.1 then j5.2 else j5.1,w64 (s2.2+1)))
     else
      some (.out s2.1)) (0,0) fun o6=>
   some o6
def Vl:zw->Option Int:=recE (Av)
def ND(x:zw):Option Bool:=
 some (bif x.kind==7 then true else x.kind==8)
def yu(Mk:zw×Int->Option ((Int×Bool)×Int))(x:zw×Int):Option ((Int×Bool)×Int):=
 bif decide (w64 (x.2+1)>1500)then
  some ((0,false),w64 (x.2+1))
 else
  bif x.1.kind==7 then
   za (wo x.1.decl.value) fun y1=>
   za (zD (bif bif bif (x.1.list.length:Int)==0 then x.1.name==[]else false then x.1.num==0 else false then y1.2==0 else false) (Gn x.1.decl) (default:Int)) fun y2=>
   some ((w64 (y1.1+1),bif bif bif bif (x.1.list.length:Int)==0 then x.1.name==[]else false then x.1.num==0 else false then y1.2==0 else false then y2==0 else false),w64 (x.2+1))
  else
   bif x.1.kind==8 then
    za (zD ((x.1.list.length:Int)==0) (ol (⟨x.1.kind,x.1.name,x.1.num,x.1.decl,x.1.list⟩:zw)) (default:Bool)) fun y3=>
    some ((1,bif (x.1.list.length:Int)==0 then y3 else false),w64 (x.2+1))
   else
    Zh (X:=Bool) (
      bif x.1.kind==3 then
       some (.out (x.1.kind==3))
      else
       bif x.1.kind==1 then
        some (.out (x.1.kind==1))
       else
        some (.out (x.1.kind==2))) fun j4=>
    bif j4 then
     za (ol (⟨x.1.kind,x.1.name,x.1.num,x.1.decl,x.1.list⟩:zw)) fun y5=>
     bif bif bif !y5 then true else bif x.1.kind==3 then(x.1.list.length:Int) != 1 else false then true else bif x.1.kind != 3 then decide ((x.1.list.length:Int)<2)else false then
      some ((0,false),w64 (x.2+1))
     else
      zU (S:=(Int×Int)×Int) (X:=Int×Int) (fun s6=>
        bif decide (s6.1.2<(x.1.list.length:Int))then
         za (geti x.1.list s6.1.2) fun y7=>
         za (Mk ((⟨y7.kind,y7.name,y7.num,y7.decl,y7.list⟩:zw),s6.2)) fun y8=>
         bif !y8.1.2 then
          some (.ret ((0,false),y8.2))
         else
          Zh (X:=Int×Int) (
            za (ND (⟨y7.kind,y7.name,y7.num,y7.decl,y7.list⟩:zw)) fun y9=>
            bif !y9 then
             some (.out (s6.1.1,w64 (y8.1.1+1)))
            else
             some (.out (s6.1.1,y8.1.1))) fun j10=>
          some (.again ((if j10.2>j10.1 then j10.2 else j10.1,w64 (s6.1.2+1)),y8.2))
        else
         some (.out (s6.1.1,s6.2))) ((0,0),w64 (x.2+1)) fun o11=>
      some ((o11.1,true),o11.2)
    else
     some ((0,false),w64 (x.2+1))
def Mk:zw×Int->Option ((Int×Bool)×Int):=recE (yu)
def uz(x:zw):Option Int:=
 za (Mk ((⟨x.kind,x.name,x.num,x.decl,x.list⟩:zw),0)) fun y1=>
 bif bif !y1.1.2 then true else decide (y1.1.1>16)then
  some 8
 else
  some 0
def Bv(Il:List zM->Option zG)(x:List zM):Option zG:=
 zU (S:=Int×zG) (X:=zG) (fun s1=>
   bif decide (s1.1<(x.length:Int))then
    za (geti x s1.1) fun y2=>
    za (Il y2.rules) fun y3=>
    za (qW y2.names) fun y4=>
    Zh (X:=(Int×Bool)×zG×zG) (
      bif y2.kind==1 then
       za (Qm y2.selectors) fun y5=>
       za (zD (!(bif y3.bad then true else y4)) (bF y2.selectors) (default:Int)) fun y6=>
       za (zD (!(bif bif bif y3.bad then true else y4 then true else y6 != 0 then true else decide ((y2.decls.length:Int)>32))) (lu (⟨y2.cond.kind,y2.cond.name,y2.cond.num,y2.cond.decl,y2.cond.list⟩:zw)) (default:Bool)) fun y7=>
       zU (S:=(Bool×Int)×zG) (X:=Bool×zG) (fun s8=>
         bif decide (s8.1.2<(y2.decls.length:Int))then
          za (geti y2.decls s8.1.2) fun y9=>
          za (wo y9.value) fun y10=>
          za (zD (!(bif s8.1.1 then true else y10.2 != 0)) (Gn y9) (default:Int)) fun y11=>
          some (.again ((bif bif s8.1.1 then true else y10.2 != 0 then true else y11 != 0,w64 (s8.1.2+1)),(⟨s8.2.rules,if y10.1>s8.2.depth then y10.1 else s8.2.depth,s8.2.bad⟩:zG)))
         else
          some (.out (s8.1.1,s8.2))) ((bif bif bif bif bif y3.bad then true else y4 then true else y6 != 0 then true else decide ((y2.decls.length:Int)>32)then true else !y7 then true else decide (w64 ((y2.names.length:Int)+(y2.rules.length:Int))>0),0),y3) fun o12=>
       some (.out ((y5,o12.1),(⟨w64 (s1.2.rules+w64 (y3.rules+1)),s1.2.depth,s1.2.bad⟩:zG),o12.2))
      else
       bif y2.kind==2 then
        za (Bn (⟨y2.cond.kind,y2.cond.name,y2.cond.num,y2.cond.decl,y2.cond.list⟩:zw)) fun y13=>
        za (zD (!(bif bif bif y3.bad then true else y4 then true else decide (w64 ((y2.selectors.length:Int)+(y2.decls.length:Int))>0)then true else decide ((y2.names.length:Int)>0))) (XG (⟨y2.cond.kind,y2.cond.name,y2.cond.num,y2.cond.decl,y2.cond.list⟩:zw)) (default:Int)) fun y14=>
        some (.out ((y13,bif bif bif bif y3.bad then true else y4 then true else decide (w64 ((y2.selectors.length:Int)+(y2.decls.length:Int))>0)then true else decide ((y2.names.length:Int)>0)then true else y14 != 0),(⟨w64 (s1.2.rules+w64 (y3.rules+1)),s1.2.depth,s1.2.bad⟩:zG),y3))
       else
        bif y2.kind==3 then
         za (Vl (⟨y2.cond.kind,y2.cond.name,y2.cond.num,y2.cond.decl,y2.cond.list⟩:zw)) fun y15=>
         za (zD (!(bif bif bif y3.bad then true else y4 then true else decide (w64 ((y2.selectors.length:Int)+(y2.decls.length:Int))>0)then true else decide ((y2.names.length:Int)>0))) (uz (⟨y2.cond.kind,y2.cond.name,y2.cond.num,y2.cond.decl,y2.cond.list⟩:zw)) (default:Int)) fun y16=>
         some (.out ((y15,bif bif bif bif y3.bad then true else y4 then true else decide (w64 ((y2.selectors.length:Int)+(y2.decls.length:Int))>0)then true else decide ((y2.names.length:Int)>0)then true else y16 != 0),(⟨w64 (s1.2.rules+w64 (y3.rules+1)),s1.2.depth,s1.2.bad⟩:zG),y3))
        else
         bif y2.kind==4 then
          za (zD (!(bif bif bif y3.bad then true else y4 then true else decide (w64 ((y2.selectors.length:Int)+(y2.decls.length:Int))>0)then true else decide ((y2.names.length:Int)>1))) (lu (⟨y2.cond.kind,y2.cond.name,y2.cond.num,y2.cond.decl,y2.cond.list⟩:zw)) (default:Bool)) fun y17=>
          some (.out ((0,bif bif bif bif y3.bad then true else y4 then true else decide (w64 ((y2.selectors.length:Int)+(y2.decls.length:Int))>0)then true else decide ((y2.names.length:Int)>1)then true else !y17),(⟨w64 (s1.2.rules+w64 (y3.rules+1)),s1.2.depth,s1.2.bad⟩:zG),y3))
         else
          bif y2.kind==5 then
           za (zD (!(bif bif bif bif bif y3.bad then true else y4 then true else decide (w64 ((y2.selectors.length:Int)+(y2.decls.length:Int))>0)then true else decide ((y2.names.length:Int)<1)then true else decide ((y2.names.length:Int)>64)then true else decide ((y2.rules.length:Int)>0))) (lu (⟨y2.cond.kind,y2.cond.name,y2.cond.num,y2.cond.decl,y2.cond.list⟩:zw)) (default:Bool)) fun y18=>
           some (.out ((0,bif bif bif bif bif bif y3.bad then true else y4 then true else decide (w64 ((y2.selectors.length:Int)+(y2.decls.length:Int))>0)then true else decide ((y2.names.length:Int)<1)then true else decide ((y2.names.length:Int)>64)then true else decide ((y2.rules.length:Int)>0)then true else !y18),(⟨w64 (s1.2.rules+w64 (y3.rules+1)),s1.2.depth,s1.2.bad⟩:zG),(⟨y3.rules,(-1),y3.bad⟩:zG)))
          else
           some (.out ((0,true),(⟨w64 (s1.2.rules+w64 (y3.rules+1)),s1.2.depth,s1.2.bad⟩:zG),y3))) fun j19=>
    some (.again (w64 (s1.1+1),(⟨j19.2.1.rules,if j19.1.1>(if w64 (j19.2.2.depth+1)>j19.2.1.depth then w64 (j19.2.2.depth+1)else j19.2.1.depth)then j19.1.1 else if w64 (j19.2.2.depth+1)>j19.2.1.depth then w64 (j19.2.2.depth+1)else j19.2.1.depth,bif j19.2.1.bad then true else j19.1.2⟩:zG)))
   else
    some (.out s1.2)) (0,(⟨0,0,false⟩:zG)) fun o20=>
 some o20
def Il:List zM->Option zG:=recE (Bv)
def nu(x:List zM):Option Int:=
 za (Il x) fun y1=>
 bif bif bif y1.bad then true else decide (y1.rules>64)then true else decide (y1.depth>16)then
  some 8
 else
  some 0
def Er(x:zc1):Option Int:=
 za (nu x.rules) fun y1=>
 some y1
def ZF(x:ze):Option ze:=
 zU (S:=ze) (X:=ze) (fun s1=>
   need (decide (0<=s1.at_)&&decide (s1.at_<=(s1.s.length:Int)))<|
   za (strings_HasPrefix (List.drop s1.at_.toNat s1.s,[47,42])) fun y2=>
   bif y2 then
    need (decide (0<=w64 (s1.at_+2))&&decide (w64 (s1.at_+2)<=(s1.s.length:Int)))<|
    za (Km (List.drop (w64 (s1.at_+2)).toNat s1.s,[42,47])) fun y3=>
    bif decide (y3<0)then
     some (.ret (⟨s1.s,(s1.s.length:Int)⟩:ze))
    else
     some (.again (⟨s1.s,w64 (s1.at_+w64 (y3+4))⟩:ze))
   else
    some (.out s1)) x fun o4=>
 some o4
def zo(x:Int×ze):Option Int:=
 bif decide (w64 (x.2.at_+x.1)<(x.2.s.length:Int))then
  za (geti x.2.s (w64 (x.2.at_+x.1))) fun y1=>
  some (w64 (y1.toNat:Int))
 else
  some (-1)
def Dr(x:Int):Option Bool:=
 some (bif bif x==32 then true else x==9 then true else x==10)
def qa(x:ze):Option ze:=
 zU (S:=ze) (X:=ze) (fun s1=>
   za (zo (0,s1)) fun y2=>
   za (Dr y2) fun y3=>
   bif y3 then
    some (.again (⟨s1.s,w64 (s1.at_+1)⟩:ze))
   else
    some (.out s1)) x fun o4=>
 some o4
def kL(x:Int):Option (List UInt8):=
 bif decide (wu32 x<=2047)then
  za (QG (ibOr IntKind.u8 192 (wu8 (dh IntKind.i32 x 6)))) fun y1=>
  za (QG (ibOr IntKind.u8 128 (Ti IntKind.u8 (wu8 x) 63))) fun y2=>
  need (ZE 0 2 1)<|
  some [y1,y2]
 else
  Zh (X:=Bool) (
    bif decide (wu32 x<55296)then
     some (.out (decide (wu32 x<55296)))
    else
     some (.out (bif decide (57343<wu32 x)then decide (wu32 x<=65535)else false))) fun j3=>
  bif j3 then
   za (QG (ibOr IntKind.u8 224 (wu8 (dh IntKind.i32 x 12)))) fun y4=>
   za (QG (ibOr IntKind.u8 128 (Ti IntKind.u8 (wu8 (dh IntKind.i32 x 6)) 63))) fun y5=>
   za (QG (ibOr IntKind.u8 128 (Ti IntKind.u8 (wu8 x) 63))) fun y6=>
   need (ZE 0 3 1)<|
   some [y4,y5,y6]
  else
   bif bif decide (wu32 x>65535)then decide (wu32 x<=1114111)else false then
    za (QG (ibOr IntKind.u8 240 (wu8 (dh IntKind.i32 x 18)))) fun y7=>
    za (QG (ibOr IntKind.u8 128 (Ti IntKind.u8 (wu8 (dh IntKind.i32 x 12)) 63))) fun y8=>
    za (QG (ibOr IntKind.u8 128 (Ti IntKind.u8 (wu8 (dh IntKind.i32 x 6)) 63))) fun y9=>
    za (QG (ibOr IntKind.u8 128 (Ti IntKind.u8 (wu8 x) 63))) fun y10=>
    need (ZE 0 4 1)<|
    some [y7,y8,y9,y10]
   else
    need (ZE 0 3 1)<|
    some [(239:UInt8),(191:UInt8),(189:UInt8)]
def QT(x:Int):Option (List UInt8):=
 bif decide (wu32 x<=127)then
  za (QG (wu8 x)) fun y1=>
  need (ZE 0 1 1)<|
  some [y1]
 else
  za (kL x) fun y2=>
  some y2
def Np(x:Int×Int×Int):Option Bool:=
 some (bif decide (x.2.1<=x.1)then decide (x.1<=x.2.2)else false)
def Q9(x:Int):Option Bool:=
 za (Np (x,48,57)) fun y1=>
 some y1
def Uu(x:Int):Option Int:=
 za (Q9 x) fun y1=>
 bif y1 then
  some (w64 (x - 48))
 else
  za (zD (x != (-1)) (Np (ibOr IntKind.i64 x 32,97,102)) (default:Bool)) fun y2=>
  bif bif bif bif x != (-1)then y2 else false then decide (x>64)else false then decide (x<128)else false then
   some (w64 (w64 (ibOr IntKind.i64 x 32 - 97)+10))
  else
   some (-1)
def QO(x:ze):Option (ze×List UInt8):=
 za (zo (0,(⟨x.s,w64 (x.at_+1)⟩:ze))) fun y1=>
 bif y1==(-1)then
  za (QT 65533) fun y2=>
  some ((⟨x.s,w64 (x.at_+1)⟩:ze),y2)
 else
  za (Uu y1) fun y3=>
  bif decide (y3<0)then
   za (QG (wu8 y1)) fun y4=>
   need (ZE 0 1 1)<|
   some ((⟨x.s,w64 (w64 (x.at_+1)+1)⟩:ze),[y4])
  else
   zU (S:=(Int×Int)×ze) (X:=Int×ze) (fun s5=>
     bif decide (s5.1.2<6)then
      za (zo (0,s5.2)) fun y6=>
      za (Uu y6) fun y7=>
      bif decide (y7<0)then
       some (.out (s5.1.1,s5.2))
      else
       some (.again ((ibOr IntKind.i64 (XA IntKind.i64 s5.1.1 4) y7,w64 (s5.1.2+1)),(⟨s5.2.s,w64 (s5.2.at_+1)⟩:ze)))
     else
      some (.out (s5.1.1,s5.2))) ((0,0),(⟨x.s,w64 (x.at_+1)⟩:ze)) fun o8=>
   Zh (X:=Int×ze) (
     za (zo (0,o8.2)) fun y9=>
     za (Dr y9) fun y10=>
     bif y10 then
      some (.out (o8.1,(⟨o8.2.s,w64 (o8.2.at_+1)⟩:ze)))
     else
      some (.out (o8.1,o8.2))) fun j11=>
   Zh (X:=Int) (
     bif j11.1==0 then
      some (.out 65533)
     else
      some (.out j11.1)) fun j12=>
   za (QT (w32 j12)) fun y13=>
   some (j11.2,y13)
def jL(x:Int×List UInt8):Option (List UInt8):=
 bif decide (wu32 x.1<=2047)then
  za (QG (ibOr IntKind.u8 192 (wu8 (dh IntKind.i32 x.1 6)))) fun y1=>
  za (QG (ibOr IntKind.u8 128 (Ti IntKind.u8 (wu8 x.1) 63))) fun y2=>
  need (ZE x.2.length 2 1)<|
  some (x.2++[y1,y2])
 else
  Zh (X:=Bool×List UInt8) (
    bif decide (wu32 x.1<55296)then
     some (.out (decide (wu32 x.1<55296),x.2))
    else
     some (.out (bif decide (57343<wu32 x.1)then decide (wu32 x.1<=65535)else false,x.2))) fun j3=>
  bif j3.1 then
   za (QG (ibOr IntKind.u8 224 (wu8 (dh IntKind.i32 x.1 12)))) fun y4=>
   za (QG (ibOr IntKind.u8 128 (Ti IntKind.u8 (wu8 (dh IntKind.i32 x.1 6)) 63))) fun y5=>
   za (QG (ibOr IntKind.u8 128 (Ti IntKind.u8 (wu8 x.1) 63))) fun y6=>
   need (ZE j3.2.length 3 1)<|
   some (j3.2++[y4,y5,y6])
  else
   bif bif decide (wu32 x.1>65535)then decide (wu32 x.1<=1114111)else false then
    za (QG (ibOr IntKind.u8 240 (wu8 (dh IntKind.i32 x.1 18)))) fun y7=>
    za (QG (ibOr IntKind.u8 128 (Ti IntKind.u8 (wu8 (dh IntKind.i32 x.1 12)) 63))) fun y8=>
    za (QG (ibOr IntKind.u8 128 (Ti IntKind.u8 (wu8 (dh IntKind.i32 x.1 6)) 63))) fun y9=>
    za (QG (ibOr IntKind.u8 128 (Ti IntKind.u8 (wu8 x.1) 63))) fun y10=>
    need (ZE j3.2.length 4 1)<|
    some (j3.2++[y7,y8,y9,y10])
   else
    need (ZE j3.2.length 3 1)<|
    some (j3.2++[(239:UInt8),(191:UInt8),(189:UInt8)])
def QU(x:Int×List UInt8):Option (List UInt8):=
 bif decide (wu32 x.1<=127)then
  za (QG (wu8 x.1)) fun y1=>
  need (ZE x.2.length 1 1)<|
  some (x.2++[y1])
 else
  za (jL (x.1,x.2)) fun y2=>
  some y2
def qd(x:ze×List UInt8):Option (ze×List UInt8):=
 za (zo (0,(⟨x.1.s,w64 (x.1.at_+1)⟩:ze))) fun y1=>
 bif y1==(-1)then
  za (QU (65533,x.2)) fun y2=>
  some ((⟨x.1.s,w64 (x.1.at_+1)⟩:ze),y2)
 else
  za (Uu y1) fun y3=>
  bif decide (y3<0)then
   za (QG (wu8 y1)) fun y4=>
   need (ZE x.2.length 1 1)<|
   some ((⟨x.1.s,w64 (w64 (x.1.at_+1)+1)⟩:ze),x.2++[y4])
  else
   zU (S:=(Int×Int)×ze) (X:=Int×ze) (fun s5=>
     bif decide (s5.1.2<6)then
      za (zo (0,s5.2)) fun y6=>
      za (Uu y6) fun y7=>
      bif decide (y7<0)then
       some (.out (s5.1.1,s5.2))
      else
       some (.again ((ibOr IntKind.i64 (XA IntKind.i64 s5.1.1 4) y7,w64 (s5.1.2+1)),(⟨s5.2.s,w64 (s5.2.at_+1)⟩:ze)))
     else
      some (.out (s5.1.1,s5.2))) ((0,0),(⟨x.1.s,w64 (x.1.at_+1)⟩:ze)) fun o8=>
   Zh (X:=Int×ze×List UInt8) (
     za (zo (0,o8.2)) fun y9=>
     za (Dr y9) fun y10=>
     bif y10 then
      some (.out (o8.1,(⟨o8.2.s,w64 (o8.2.at_+1)⟩:ze),x.2))
     else
      some (.out (o8.1,o8.2,x.2))) fun j11=>
   Zh (X:=Int×List UInt8) (
     bif j11.1==0 then
      some (.out (65533,j11.2.2))
     else
      some (.out (j11.1,j11.2.2))) fun j12=>
   za (QU (w32 j12.1,j12.2)) fun y13=>
   some (j11.2.1,y13)
def sG(x:ze):Option (zf×ze):=
 za (zo (0,x)) fun y1=>
 zU (S:=ze×zf×List UInt8) (X:=ze×zf×List UInt8) (fun s2=>
   za (zo (0,s2.1)) fun y3=>
   bif y3==(-1)then
    some (.out (s2.1,s2.2.1,s2.2.2))
   else
    bif y3==y1 then
     some (.out ((⟨s2.1.s,w64 (s2.1.at_+1)⟩:ze),s2.2.1,s2.2.2))
    else
     bif y3==10 then
      some (.ret ((⟨6,[],0,[],false⟩:zf),s2.1))
     else
      za (zD (y3==92) (zo (1,s2.1)) (default:Int)) fun y4=>
      za (zD (!(y4==(-1))&&y3==92) (zo (1,s2.1)) (default:Int)) fun y5=>
      bif bif y3==92 then bif y4==(-1)then true else y5==10 else false then
       some (.again ((⟨s2.1.s,if(s2.1.s.length:Int)<w64 (s2.1.at_+2)then(s2.1.s.length:Int)else w64 (s2.1.at_+2)⟩:ze),s2.2.1,s2.2.2))
      else
       bif y3==92 then
        za (qd (s2.1,s2.2.2)) fun y6=>
        some (.again (y6.1,s2.2.1,y6.2))
       else
        za (QG (wu8 y3)) fun y7=>
        need (ZE s2.2.2.length 1 1)<|
        some (.again ((⟨s2.1.s,w64 (s2.1.at_+1)⟩:ze),s2.2.1,s2.2.2++[y7]))) ((⟨x.s,w64 (x.at_+1)⟩:ze),(⟨0,[],0,[],false⟩:zf),[]) fun o8=>
 some ((⟨5,o8.2.2,0,[],false⟩:zf),o8.1)
def Bz(x:Int):Option Bool:=
 za (Np (ibOr IntKind.i64 x 32,97,122)) fun y1=>
 some (bif bif bif bif y1 then decide (x<128)else false then decide (x>64)else false then true else x==95 then true else decide (x>=128))
def wE(x:Int):Option Bool:=
 za (Bz x) fun y1=>
 za (zD (!y1) (Q9 x) (default:Bool)) fun y2=>
 some (bif bif y1 then true else y2 then true else x==45)
def Zy(x:Int×ze):Option Bool:=
 za (zo (x.1,x.2)) fun y1=>
 za (zD (y1==92) (zo (w64 (x.1+1),x.2)) (default:Int)) fun y2=>
 some (bif y1==92 then y2 != 10 else false)
def ZA(x:Int×ze):Option Bool:=
 za (zo (x.1,x.2)) fun y1=>
 bif y1 != 45 then
  za (zo (x.1,x.2)) fun y2=>
  za (Bz y2) fun y3=>
  za (zD (!y3) (Zy (x.1,x.2)) (default:Bool)) fun y4=>
  some (bif y3 then true else y4)
 else
  za (zo (w64 (x.1+1),x.2)) fun y5=>
  za (Bz y5) fun y6=>
  za (zD (!y6) (zo (w64 (x.1+1),x.2)) (default:Int)) fun y7=>
  za (zD (!(bif y6 then true else y7==45)) (Zy (w64 (x.1+1),x.2)) (default:Bool)) fun y8=>
  some (bif bif y6 then true else y7==45 then true else y8)
def ZO(x:ze):Option (Str×ze):=
 zU (S:=ze×List UInt8) (X:=Unit) (fun s1=>
   za (zo (0,s1.1)) fun y2=>
   za (wE y2) fun y3=>
   bif y3 then
    za (QG (wu8 y2)) fun y4=>
    need (ZE s1.2.length 1 1)<|
    some (.again ((⟨s1.1.s,w64 (s1.1.at_+1)⟩:ze),s1.2++[y4]))
   else
    za (zD (y2 != (-1)) (Zy (0,s1.1)) (default:Bool)) fun y5=>
    bif bif y2 != (-1)then y5 else false then
     za (qd (s1.1,s1.2)) fun y6=>
     some (.again (y6.1,y6.2))
    else
     some (.ret (s1.2,s1.1))) (x,[]) fun o7=>
 none
def qR(x:ze):Option Bool:=
 Zh (X:=Int) (
   za (zo (0,x)) fun y1=>
   bif bif y1==43 then true else y1==45 then
    some (.out 1)
   else
    some (.out 0)) fun j2=>
 Zh (X:=Int) (
   za (zo (j2,x)) fun y3=>
   bif y3==46 then
    some (.out (w64 (j2+1)))
   else
    some (.out j2)) fun j4=>
 za (zo (j4,x)) fun y5=>
 za (Q9 y5) fun y6=>
 some y6
def ZJ(x:ze):Option ze:=
 zU (S:=ze) (X:=ze) (fun s1=>
   za (zo (0,s1)) fun y2=>
   za (Q9 y2) fun y3=>
   bif y3 then
    some (.again (⟨s1.s,w64 (s1.at_+1)⟩:ze))
   else
    some (.out s1)) x fun o4=>
 some o4
def oG(x:ze):Option (Bool×ze):=
 Zh (X:=ze) (
   za (zo (0,x)) fun y1=>
   bif bif y1==43 then true else y1==45 then
    some (.out (⟨x.s,w64 (x.at_+1)⟩:ze))
   else
    some (.out x)) fun j2=>
 za (ZJ j2) fun y3=>
 Zh (X:=Bool×ze) (
   za (zo (0,y3)) fun y4=>
   za (zD (y4==46) (zo (1,y3)) (default:Int)) fun y5=>
   za (zD (y4==46) (Q9 y5) (default:Bool)) fun y6=>
   bif bif y4==46 then y6 else false then
    za (ZJ (⟨y3.s,w64 (y3.at_+1)⟩:ze)) fun y7=>
    some (.out (false,y7))
   else
    some (.out (true,y3))) fun j8=>
 Zh (X:=Bool×ze) (
   za (zo (0,j8.2)) fun y9=>
   za (zD (!(y9==101)) (zo (0,j8.2)) (default:Int)) fun y10=>
   bif bif y9==101 then true else y10==69 then
    Zh (X:=(Bool×Int)×ze) (
      za (zo (1,j8.2)) fun y11=>
      bif bif y11==43 then true else y11==45 then
       some (.out ((j8.1,2),j8.2))
      else
       some (.out ((j8.1,1),j8.2))) fun j12=>
    za (zo (j12.1.2,j12.2)) fun y13=>
    za (Q9 y13) fun y14=>
    bif y14 then
     za (ZJ (⟨j12.2.s,w64 (j12.2.at_+j12.1.2)⟩:ze)) fun y15=>
     some (.out (false,y15))
    else
     some (.out (j12.1.1,j12.2))
   else
    some (.out (j8.1,j8.2))) fun j16=>
 some (j16.1,j16.2)
def nG(x:Str):Option Int:=
 za (geti x 0) fun y1=>
 za (Ao (x,[43,45])) fun y2=>
 Zh (X:=Str×Int) (
   za (mo (y2,[101,69])) fun y3=>
   bif decide (y3>=0)then
    need (decide (0<=w64 (y3+1))&&decide (w64 (y3+1)<=(y2.length:Int)))<|
    za (Ao (List.drop (w64 (y3+1)).toNat y2,[43,45])) fun y4=>
    need (decide (y4.length<=maxLen))<|
    zU (S:=Int×Int) (X:=Int) (fun s5=>
      bif decide (s5.2<(y4.length:Int))then
       need (decide (0<=s5.2)&&decide (s5.2<(y4.length:Int)))<|
       za y4[s5.2.toNat]? fun y6=>
       some (.again (if 1048576<w64 (w64 (10*s5.1)+w64 (wu8 ((y6.toNat:Int) - 48)))then 1048576 else w64 (w64 (10*s5.1)+w64 (wu8 ((y6.toNat:Int) - 48))),w64 (s5.2+1)))
      else
       some (.out s5.1)) (0,0) fun o7=>
    Zh (X:=Str×Int×Int) (
      za (geti y2 (w64 (y3+1))) fun y8=>
      bif (y8.toNat:Int)==45 then
       some (.out (y2,3,w64 (0 - o7)))
      else
       some (.out (y2,3,o7))) fun j9=>
    need (decide (0<=y3)&&decide (y3<=(j9.1.length:Int)))<|
    some (.out (List.take y3.toNat j9.1,w64 (j9.2.1+j9.2.2)))
   else
    some (.out (y2,3))) fun j10=>
 za (cutF (j10.1,[46])) fun y11=>
 need (Ph y11.1.length y11.2.1.length)<|
 Zh (X:=Str×Int) (
   bif decide (w64 (j10.2 - (y11.2.1.length:Int))<0)then
    need (decide (0<=(if w64 (((y11.1++y11.2.1).length:Int)+w64 (j10.2 - (y11.2.1.length:Int)))>0 then w64 (((y11.1++y11.2.1).length:Int)+w64 (j10.2 - (y11.2.1.length:Int)))else 0))&&decide ((if w64 (((y11.1++y11.2.1).length:Int)+w64 (j10.2 - (y11.2.1.length:Int)))>0 then w64 (((y11.1++y11.2.1).length:Int)+w64 (j10.2 - (y11.2.1.length:Int)))else 0)<=((y11.1++y11.2.1).length:Int)))<|
    some (.out (List.take (if w64 (((y11.1++y11.2.1).length:Int)+w64 (j10.2 - (y11.2.1.length:Int)))>0 then w64 (((y11.1++y11.2.1).length:Int)+w64 (j10.2 - (y11.2.1.length:Int)))else 0).toNat (y11.1++y11.2.1),w64 (j10.2 - (y11.2.1.length:Int))))
   else
    some (.out (y11.1++y11.2.1,w64 (j10.2 - (y11.2.1.length:Int))))) fun j12=>
 need (decide (j12.1.length<=maxLen))<|
 zU (S:=Int×Int) (X:=Int) (fun s13=>
   bif decide (s13.2<(j12.1.length:Int))then
    need (decide (0<=s13.2)&&decide (s13.2<(j12.1.length:Int)))<|
    za j12.1[s13.2.toNat]? fun y14=>
    some (.again (if 1000000000000<w64 (w64 (10*s13.1)+w64 (wu8 ((y14.toNat:Int) - 48)))then 1000000000000 else w64 (w64 (10*s13.1)+w64 (wu8 ((y14.toNat:Int) - 48))),w64 (s13.2+1)))
   else
    some (.out s13.1)) (0,0) fun o15=>
 zU (S:=Int×Int) (X:=Int) (fun s16=>
   bif bif bif decide (s16.1>0)then decide (s16.2>0)else false then decide (s16.2<1000000000000)else false then
    some (.again (w64 (s16.1 - 1),if 1000000000000<w64 (10*s16.2)then 1000000000000 else w64 (10*s16.2)))
   else
    some (.out s16.2)) (j12.2,o15) fun o17=>
 Zh (X:=Int) (
   bif (y1.toNat:Int)==45 then
    some (.out (w64 (0 - o17)))
   else
    some (.out o17)) fun j18=>
 some j18
def Qs(x:ze):Option (zf×ze):=
 za (oG x) fun y1=>
 need (decide (0<=x.at_)&&(decide (x.at_<=y1.2.at_)&&decide (y1.2.at_<=(y1.2.s.length:Int))))<|
 za (nG (List.drop x.at_.toNat (List.take y1.2.at_.toNat y1.2.s))) fun y2=>
 Zh (X:=ze×zf×zf) (
   za (ZA (0,y1.2)) fun y3=>
   bif y3 then
    za (ZO y1.2) fun y4=>
    some (.out (y4.2,(⟨0,[],0,[],false⟩:zf),(⟨12,[],y2,y4.1,y1.1⟩:zf)))
   else
    za (zo (0,y1.2)) fun y5=>
    bif y5==37 then
     some (.out ((⟨y1.2.s,w64 (y1.2.at_+1)⟩:ze),(⟨0,[],0,[],false⟩:zf),(⟨11,[],y2,[],false⟩:zf)))
    else
     some (.out (y1.2,(⟨0,[],0,[],false⟩:zf),(⟨10,[],y2,[],y1.1⟩:zf)))) fun j6=>
 some (j6.2.2,j6.1)
def QR(x:ze):Option (zf×ze):=
 zU (S:=ze×zf) (X:=Unit) (fun s1=>
   za (zo (0,s1.1)) fun y2=>
   bif y2==(-1)then
    some (.ret ((⟨8,[],0,[],false⟩:zf),s1.1))
   else
    za (Zy (0,s1.1)) fun y3=>
    bif y3 then
     za (QO s1.1) fun y4=>
     some (.again (y4.1,s1.2))
    else
     za (geti s1.1.s (w64 (w64 (s1.1.at_+1) - 1))) fun y5=>
     bif (y5.toNat:Int)==41 then
      some (.ret ((⟨8,[],0,[],false⟩:zf),(⟨s1.1.s,w64 (s1.1.at_+1)⟩:ze)))
     else
      some (.again ((⟨s1.1.s,w64 (s1.1.at_+1)⟩:ze),s1.2))) (x,(⟨0,[],0,[],false⟩:zf)) fun o6=>
 none
def eG(x:ze):Option (zf×ze):=
 za (qa x) fun y1=>
 zU (S:=ze×zf×List UInt8) (X:=Unit) (fun s2=>
   za (zo (0,s2.1)) fun y3=>
   Zh (X:=Int×ze×zf×List UInt8) (
     za (Dr y3) fun y4=>
     bif y4 then
      za (qa s2.1) fun y5=>
      za (zo (0,y5)) fun y6=>
      bif bif y6 != 41 then y6 != (-1)else false then
       za (QR y5) fun y7=>
       some (.ret (LO.ret (y7.1,y7.2)))
      else
       some (.out (y6,y5,s2.2.1,s2.2.2))
     else
      some (.out (y3,s2.1,s2.2.1,s2.2.2))) fun j8=>
   bif j8.1==(-1)then
    some (.ret ((⟨7,j8.2.2.2,0,[],false⟩:zf),j8.2.1))
   else
    bif j8.1==41 then
     some (.ret ((⟨7,j8.2.2.2,0,[],false⟩:zf),(⟨j8.2.1.s,w64 (j8.2.1.at_+1)⟩:ze)))
    else
     za (zD (!(bif bif bif bif j8.1==34 then true else j8.1==39 then true else j8.1==40 then true else decide (j8.1<=8)then true else j8.1==11)) (Np (j8.1,14,31)) (default:Bool)) fun y9=>
     bif bif bif bif bif bif bif j8.1==34 then true else j8.1==39 then true else j8.1==40 then true else decide (j8.1<=8)then true else j8.1==11 then true else y9 then true else j8.1==127 then
      za (QR j8.2.1) fun y10=>
      some (.ret (y10.1,y10.2))
     else
      bif j8.1 != 92 then
       za (QG (wu8 j8.1)) fun y11=>
       need (ZE j8.2.2.2.length 1 1)<|
       some (.again ((⟨j8.2.1.s,w64 (j8.2.1.at_+1)⟩:ze),j8.2.2.1,j8.2.2.2++[y11]))
      else
       za (Zy (0,j8.2.1)) fun y12=>
       bif y12 then
        za (qd (j8.2.1,j8.2.2.2)) fun y13=>
        some (.again (y13.1,j8.2.2.1,y13.2))
       else
        za (QR j8.2.1) fun y14=>
        some (.ret (y14.1,y14.2))) (y1,(⟨0,[],0,[],false⟩:zf),[]) fun o15=>
 none
def Qh(x:ze):Option (zf×ze):=
 za (ZO x) fun y1=>
 za (zo (0,y1.2)) fun y2=>
 bif y2 != 40 then
  some ((⟨1,y1.1,0,[],false⟩:zf),y1.2)
 else
  Zh (X:=ze×zf) (
    za (QB (y1.1,[117,114,108])) fun y3=>
    bif y3 then
     za (qa (⟨y1.2.s,w64 (y1.2.at_+1)⟩:ze)) fun y4=>
     za (zo (0,y4)) fun y5=>
     bif bif y5 != 34 then y5 != 39 else false then
      za (eG (⟨y1.2.s,w64 (y1.2.at_+1)⟩:ze)) fun y6=>
      some (.ret (y6.1,y6.2))
     else
      some (.out ((⟨y1.2.s,w64 (y1.2.at_+1)⟩:ze),(⟨0,[],0,[],false⟩:zf)))
    else
     some (.out ((⟨y1.2.s,w64 (y1.2.at_+1)⟩:ze),(⟨0,[],0,[],false⟩:zf)))) fun j7=>
  some ((⟨2,y1.1,0,[],false⟩:zf),j7.1)
def qO(x:ze):Option (zf×ze):=
 za (zo (0,x)) fun y1=>
 need (decide (0<=x.at_)&&decide (x.at_<=(x.s.length:Int)))<|
 za (Dr y1) fun y2=>
 bif y2 then
  za (qa x) fun y3=>
  some ((⟨13,[],0,[],false⟩:zf),y3)
 else
  bif bif y1==34 then true else y1==39 then
   za (sG x) fun y4=>
   some (y4.1,y4.2)
  else
   za (zD (y1==35) (zo (1,x)) (default:Int)) fun y5=>
   za (zD (y1==35) (wE y5) (default:Bool)) fun y6=>
   za (zD (!y6&&y1==35) (Zy (1,x)) (default:Bool)) fun y7=>
   bif bif y1==35 then bif y6 then true else y7 else false then
    za (ZA (1,x)) fun y8=>
    za (ZO (⟨x.s,w64 (x.at_+1)⟩:ze)) fun y9=>
    some ((⟨4,y9.1,0,[],y8⟩:zf),y9.2)
   else
    za (qR x) fun y10=>
    bif y10 then
     za (Qs x) fun y11=>
     some (y11.1,y11.2)
    else
     za (strings_HasPrefix (List.drop x.at_.toNat x.s,[45,45,62])) fun y12=>
     bif y12 then
      some ((⟨15,[],0,[],false⟩:zf),(⟨x.s,w64 (x.at_+3)⟩:ze))
     else
      za (strings_HasPrefix (List.drop x.at_.toNat x.s,[60,33,45,45])) fun y13=>
      bif y13 then
       some ((⟨14,[],0,[],false⟩:zf),(⟨x.s,w64 (x.at_+4)⟩:ze))
      else
       za (zD (y1==64) (ZA (1,x)) (default:Bool)) fun y14=>
       bif bif y1==64 then y14 else false then
        za (ZO (⟨x.s,w64 (x.at_+1)⟩:ze)) fun y15=>
        some ((⟨3,y15.1,0,[],false⟩:zf),y15.2)
       else
        za (ZA (0,x)) fun y16=>
        bif y16 then
         za (Qh x) fun y17=>
         some (y17.1,y17.2)
        else
         za (strings_IndexByte ([58,59,44,91,93,40,41,123,125],wu8 y1)) fun y18=>
         bif decide (y18>=0)then
          some ((⟨wu8 (16+wu8 y18),[],0,[],false⟩:zf),(⟨x.s,w64 (x.at_+1)⟩:ze))
         else
          need (decide (1<=((List.drop x.at_.toNat x.s).length:Int)))<|
          some ((⟨9,List.take 1 (List.drop x.at_.toNat x.s),0,[],false⟩:zf),(⟨x.s,w64 (x.at_+1)⟩:ze))
def MG(x:(zf×Int×Int)×List zf):Option (List zf):=
 need (ZE x.2.length 1 56)<|
 some (x.2++[x.1.1])
def vE(x:Str):Option (Int×List zf):=
 za (Ck x) fun y1=>
 bif y1.2 != 0 then
  some (y1.2,[])
 else
  za (ZF (⟨y1.1,0⟩:ze)) fun y2=>
  zU (S:=Int×List zf×ze) (X:=List zf×ze) (fun s3=>
    bif decide (s3.2.2.at_<(y1.1.length:Int))then
     bif decide (w64 (s3.1+1)>1500)then
      some (.ret (4,s3.2.1))
     else
      za (qO s3.2.2) fun y4=>
      za (MG ((y4.1,s3.2.2.at_,y4.2.at_),s3.2.1)) fun y5=>
      za (ZF y4.2) fun y6=>
      some (.again (w64 (s3.1+1),y5,y6))
    else
     some (.out (s3.2.1,s3.2.2))) (0,[],y2) fun o7=>
  some (0,o7.1)
def Pp(x:Str):Option (List zf×Int):=
 za (vE x) fun y1=>
 bif y1.1 != 0 then
  some ([],y1.1)
 else
  some (y1.2,0)
def Xy(x:List zb):Option Int:=
 bif (x.length:Int)==0 then
  some 0
 else
  za (geti x 0) fun y1=>
  some y1.token.kind
def GL(x:Int×List UInt8):Option Int:=
 zU (S:=Int) (X:=Unit) (fun s1=>
   bif decide (s1<(x.2.length:Int))then
    need (decide (0<=s1)&&decide (s1<(x.2.length:Int)))<|
    za x.2[s1.toNat]? fun y2=>
    bif x.1==(y2.toNat:Int)then
     some (.ret s1)
    else
     some (.again (w64 (s1+1)))
   else
    some (.out ())) 0 fun o3=>
 some (-1)
def pG(x:Int×List UInt8):Option Bool:=
 za (GL (x.1,x.2)) fun y1=>
 some (decide (y1>=0))
def bK(x:zb×List UInt8):Option Bool:=
 za (pG (x.1.token.kind,x.2)) fun y1=>
 some y1
def Qx(x:List zb×List UInt8):Option Int:=
 zU (S:=Int) (X:=Unit) (fun s1=>
   bif decide (s1<(x.1.length:Int))then
    za (geti x.1 s1) fun y2=>
    za (bK ((⟨y2.token,y2.list⟩:zb),x.2)) fun y3=>
    bif y3 then
     some (.ret s1)
    else
     some (.again (w64 (s1+1)))
   else
    some (.out ())) 0 fun o4=>
 some (-1)
def JE(x:List zb×List UInt8):Option (List zb×List zb):=
 za (Qx (x.1,x.2)) fun y1=>
 bif decide (y1<0)then
  some (x.1,[])
 else
  need (decide (0<=y1)&&decide (y1<=(x.1.length:Int)))<|
  need (decide (0<=y1)&&decide (y1<=(x.1.length:Int)))<|
  some (List.take y1.toNat x.1,List.drop y1.toNat x.1)
def Zl(x:Int×zu):Option zf:=
 bif decide (w64 (x.2.at_+x.1)<(x.2.v.length:Int))then
  za (geti x.2.v (w64 (x.2.at_+x.1))) fun y1=>
  some y1.token
 else
  some (⟨0,[],0,[],false⟩:zf)
def Zw(x:zu):Option (Bool×zu):=
 zU (S:=zu) (X:=zu) (fun s1=>
   za (Zl (0,s1)) fun y2=>
   bif y2.kind==13 then
    some (.again (⟨s1.v,w64 (s1.at_+1)⟩:zu))
   else
    some (.out s1)) x fun o3=>
 some (decide (o3.at_>x.at_),o3)
def Z9(x:Str×zu):Option (Bool×zu):=
 za (Zl (0,x.2)) fun y1=>
 bif bif y1.kind != 9 then true else !(y1.text==x.1)then
  some (false,x.2)
 else
  some (true,(⟨x.2.v,w64 (x.2.at_+1)⟩:zu))
def Qf(x:zu):Option (Int×zu):=
 zU (S:=Int×zu) (X:=zu) (fun s1=>
   bif decide (s1.1<3)then
    need (decide (0<=s1.1)&&(decide (s1.1<=w64 (s1.1+1))&&decide (w64 (s1.1+1)<=3)))<|
    za (Z9 (List.drop s1.1.toNat (List.take (w64 (s1.1+1)).toNat ([62,43,126]:Str)),s1.2)) fun y2=>
    bif y2.1 then
     za (Zw y2.2) fun y3=>
     some (.ret (wu8 (2+wu8 s1.1),y3.2))
    else
     some (.again (w64 (s1.1+1),y2.2))
   else
    some (.out s1.2)) (0,x) fun o4=>
 some (0,o4)
def Q7(x:Int×zu):Option (List zb):=
 za (geti x.2.v (w64 (x.2.at_+x.1))) fun y1=>
 some y1.list
def Qg(x:zu):Option Bool:=
 some (x.at_==(x.v.length:Int))
def BF(x:List zb):Option (zI×Bool):=
 za (Zw (⟨x,0⟩:zu)) fun y1=>
 za (Zl (0,y1.2)) fun y2=>
 za (ZN y2.text) fun y3=>
 za (Zl (0,y1.2)) fun y4=>
 bif y4.kind != 1 then
  some ((⟨3,y3,0,[],false,(⟨0,0⟩:VAnb),false,[]⟩:zI),false)
 else
  za (Zw (⟨y1.2.v,w64 (y1.2.at_+1)⟩:zu)) fun y5=>
  za (Qg y5.2) fun y6=>
  bif y6 then
   some ((⟨3,y3,0,[],false,(⟨0,0⟩:VAnb),false,[]⟩:zI),true)
  else
   Zh (X:=(Int×Str×Int×Str×Bool×Int×Int×Bool)×zu×(Int×Str×Int×Str×Bool×Int×Int×Bool)) (
     za (Z9 ([61],y5.2)) fun y7=>
     bif y7.1 then
      some (.out ((0,[],0,[],false,0,0,false),y7.2,(3,y3,1,[],false,0,0,false)))
     else
      za (Zl (0,y7.2)) fun y8=>
      za (Km ([126,124,94,36,42],y8.text)) fun y9=>
      bif bif y8.kind != 9 then true else decide (y9<0)then
       some (.ret ((⟨3,y3,0,[],false,(⟨0,0⟩:VAnb),false,[]⟩:zI),false))
      else
       za (Z9 ([61],(⟨y7.2.v,w64 (y7.2.at_+1)⟩:zu))) fun y10=>
       bif !y10.1 then
        some (.ret ((⟨3,y3,0,[],false,(⟨0,0⟩:VAnb),false,[]⟩:zI),false))
       else
        some (.out ((0,[],0,[],false,0,0,false),y10.2,(3,y3,wu8 (2+wu8 y9),[],false,0,0,false)))) fun j11=>
   za (Zw j11.2.1) fun y12=>
   za (Zl (0,y12.2)) fun y13=>
   bif bif y13.kind != 1 then y13.kind != 5 else false then
    some ((⟨j11.2.2.1,j11.2.2.2.1,j11.2.2.2.2.1,j11.2.2.2.2.2.1,j11.2.2.2.2.2.2.1,(⟨j11.2.2.2.2.2.2.2.1,j11.2.2.2.2.2.2.2.2.1⟩:VAnb),j11.2.2.2.2.2.2.2.2.2,[]⟩:zI),false)
   else
    za (Zw (⟨y12.2.v,w64 (y12.2.at_+1)⟩:zu)) fun y14=>
    za (Zl (0,y14.2)) fun y15=>
    bif y15.kind==1 then
     za (Zw (⟨y14.2.v,w64 (y14.2.at_+1)⟩:zu)) fun y16=>
     za (QB (y15.text,[105])) fun y17=>
     za (Qg y16.2) fun y18=>
     za (zD (!y17&&y18) (QB (y15.text,[115])) (default:Bool)) fun y19=>
     some ((⟨j11.2.2.1,j11.2.2.2.1,j11.2.2.2.2.1,y13.text,y17,(⟨j11.2.2.2.2.2.2.2.1,j11.2.2.2.2.2.2.2.2.1⟩:VAnb),j11.2.2.2.2.2.2.2.2.2,[]⟩:zI),bif y18 then bif y17 then true else y19 else false)
    else
     za (Qg y14.2) fun y20=>
     some ((⟨j11.2.2.1,j11.2.2.2.1,j11.2.2.2.2.1,y13.text,j11.2.2.2.2.2.2.1,(⟨j11.2.2.2.2.2.2.2.1,j11.2.2.2.2.2.2.2.2.1⟩:VAnb),j11.2.2.2.2.2.2.2.2.2,[]⟩:zI),y20)
def Tz(x:Unit):Option (List Str):=
 some [[108,105,110,107],[118,105,115,105,116,101,100],[97,110,121,45,108,105,110,107],[114,111,111,116],[101,109,112,116,121],[110,116,104,45,99,104,105,108,100],[110,116,104,45,108,97,115,116,45,99,104,105,108,100],[105,115],[119,104,101,114,101],[110,111,116],[104,97,115]]
def yE(x:Str):Option (zI×Bool):=
 za (ZN x) fun y1=>
 bif y1==[102,105,114,115,116,45,99,104,105,108,100]then
  some ((⟨9,[],0,[],false,(⟨0,1⟩:VAnb),false,[]⟩:zI),true)
 else
  bif y1==[108,97,115,116,45,99,104,105,108,100]then
   some ((⟨10,[],0,[],false,(⟨0,1⟩:VAnb),false,[]⟩:zI),true)
  else
   za (Tz ()) fun y2=>
   za (ZN x) fun y3=>
   za (slices_Index_string (y2,y3)) fun y4=>
   some ((⟨wu8 (4+wu8 (if 0>y4 then 0 else y4)),[],0,[],false,(⟨0,0⟩:VAnb),false,[]⟩:zI),bif decide (y4>=0)then decide (y4<5)else false)
def dK(x:zb):Option Bool:=
 za (zD (x.token.kind==1) (QB (x.token.text,[111,102])) (default:Bool)) fun y1=>
 some (bif x.token.kind==1 then y1 else false)
def Qy(x:List zb):Option Int:=
 zU (S:=Int) (X:=Unit) (fun s1=>
   bif decide (s1<(x.length:Int))then
    za (geti x s1) fun y2=>
    za (dK (⟨y2.token,y2.list⟩:zb)) fun y3=>
    bif y3 then
     some (.ret s1)
    else
     some (.again (w64 (s1+1)))
   else
    some (.out ())) 0 fun o4=>
 some (-1)
def qZ(x:zY):Option zY:=
 zU (S:=zY) (X:=zY) (fun s1=>
   za (zD (decide ((s1.l.length:Int)>0)) (geti s1.l 0) (default:zf)) fun y2=>
   bif bif decide ((s1.l.length:Int)>0)then y2.kind==13 else false then
    need (decide (1<=(s1.l.length:Int)))<|
    some (.again (⟨List.drop 1 s1.l⟩:zY))
   else
    some (.out s1)) x fun o3=>
 some o3
def Tv(x:Int×zY):Option ((zf×Bool)×zY):=
 za (zD (!((x.2.l.length:Int)==0)) (geti x.2.l 0) (default:zf)) fun y1=>
 bif bif (x.2.l.length:Int)==0 then true else y1.kind != x.1 then
  some (((⟨0,[],0,[],false⟩:zf),false),x.2)
 else
  za (geti x.2.l 0) fun y2=>
  need (decide (1<=(x.2.l.length:Int)))<|
  some ((y2,true),(⟨List.drop 1 x.2.l⟩:zY))
def kz(x:zY):Option ((Int×Bool)×zY):=
 za (Tv (10,x)) fun y1=>
 some ((w64 (Int.tdiv y1.1.1.num 1000),bif bif y1.1.2 then y1.1.1.flag else false then Int.tmod y1.1.1.num 1000==0 else false),y1.2)
def stringslite_CutPrefix(x:Str×Str):Option (Str×Bool):=
 za (stringslite_HasPrefix (x.1,x.2)) fun y1=>
 bif !y1 then
  some (x.1,false)
 else
  need (decide (0<=(x.2.length:Int))&&decide ((x.2.length:Int)<=(x.1.length:Int)))<|
  some (List.drop x.2.length x.1,true)
def strings_CutPrefix(x:Str×Str):Option (Str×Bool):=
 za (stringslite_CutPrefix (x.1,x.2)) fun y1=>
 some (y1.1,y1.2)
def dz(x:zY):Option (Int×zY):=
 za (zD (!((x.l.length:Int)==0)) (geti x.l 0) (default:zf)) fun y1=>
 bif bif (x.l.length:Int)==0 then true else y1.kind != 9 then
  some (0,x)
 else
  za (geti x.l 0) fun y2=>
  za (Km ([45,32,43],y2.text)) fun y3=>
  za (geti x.l 0) fun y4=>
  za (zD (!(y4.text==[43])) (geti x.l 0) (default:zf)) fun y5=>
  bif bif y4.text==[43]then true else y5.text==[45]then
   need (decide (1<=(x.l.length:Int)))<|
   some (w64 (y3 - 1),(⟨List.drop 1 x.l⟩:zY))
  else
   some (0,x)
def xz(x:Str×zY):Option ((Int×Bool)×zY):=
 Zh (X:=Int×zY) (
   bif x.1==[45]then
    some (.out ((-1),x.2))
   else
    bif !(x.1==[])then
     za (strings_CutPrefix (x.1,[45])) fun y1=>
     za (zD (!(!y1.2)) (trimF (y1.1,[48,49,50,51,52,53,54,55,56,57])) (default:Str)) fun y2=>
     bif bif !y1.2 then true else !(y2==[])then
      some (.ret ((0,false),x.2))
     else
      za (uw (y1.1,10,64)) fun y3=>
      Zh (X:=Int) (
        bif bif y3.2 then true else decide (y3.1>1000000000)then
         some (.out 1000000000)
        else
         some (.out y3.1)) fun j4=>
      some (.ret ((w64 (0 - j4),true),x.2))
    else
     za (qZ x.2) fun y5=>
     bif (y5.l.length:Int)==0 then
      some (.ret ((0,true),y5))
     else
      za (dz y5) fun y6=>
      some (.out (y6.1,y6.2))) fun j7=>
 za (qZ j7.2) fun y8=>
 za (kz y8) fun y9=>
 bif j7.1==0 then
  some ((y9.1.1,y9.1.2),y9.2)
 else
  some ((w64 (j7.1*y9.1.1),bif y9.1.2 then decide (y9.1.1>=0)else false),y9.2)
def bG(x:zY):Option ((VAnb×Bool)×zY):=
 za (kz x) fun y1=>
 bif y1.1.2 then
  some (((⟨0,y1.1.1⟩:VAnb),true),y1.2)
 else
  za (Tv (12,y1.2)) fun y2=>
  bif y2.1.2 then
   za (ZN y2.1.1.unit) fun y3=>
   za (strings_CutPrefix (y3,[110])) fun y4=>
   bif bif bif !y4.2 then true else !y2.1.1.flag then true else Int.tmod y2.1.1.num 1000 != 0 then
    some (((⟨0,0⟩:VAnb),false),y2.2)
   else
    za (xz (y4.1,y2.2)) fun y5=>
    some (((⟨w64 (Int.tdiv y2.1.1.num 1000),y5.1.1⟩:VAnb),y5.1.2),y5.2)
  else
   za (dz y2.2) fun y6=>
   za (Tv (1,y6.2)) fun y7=>
   bif bif !y7.1.2 then true else decide (y6.1<0)then
    some (((⟨0,0⟩:VAnb),false),y7.2)
   else
    za (ZN y7.1.1.text) fun y8=>
    Zh (X:=(Str×Int)×zY×VAnb) (
      bif y6.1==0 then
       bif y8==[111,100,100]then
        some (.ret (((⟨2,1⟩:VAnb),true),y7.2))
       else
        bif y8==[101,118,101,110]then
         some (.ret (((⟨2,0⟩:VAnb),true),y7.2))
        else
         za (strings_CutPrefix (y8,[45])) fun y9=>
         bif y9.2 then
          some (.out ((y9.1,(-1)),y7.2,(⟨0,0⟩:VAnb)))
         else
          some (.out ((y8,1),y7.2,(⟨0,0⟩:VAnb)))
      else
       some (.out ((y8,1),y7.2,(⟨0,0⟩:VAnb)))) fun j10=>
    za (strings_CutPrefix (j10.1.1,[110])) fun y11=>
    bif !y11.2 then
     some (((⟨0,0⟩:VAnb),false),j10.2.1)
    else
     za (xz (y11.1,j10.2.1)) fun y12=>
     some (((⟨j10.1.2,y12.1.1⟩:VAnb),y12.1.2),y12.2)
def bH(x:List zf):Option (VAnb×Int):=
 za (qZ (⟨x⟩:zY)) fun y1=>
 za (bG y1) fun y2=>
 za (qZ y2.2) fun y3=>
 za (zD (!(bif !y2.1.2 then true else decide ((y3.l.length:Int)>0))) (Su y2.1.1) (default:Int)) fun y4=>
 bif bif bif !y2.1.2 then true else decide ((y3.l.length:Int)>0)then true else y4 != 0 then
  some ((⟨0,0⟩:VAnb),12)
 else
  some (y2.1.1,0)
def Hr(zJ:List zb×zg×Bool×Bool->Option (List zm×Bool))(x:zI×List zb×zg):Option (zI×Bool):=
 za (Qy x.2.1) fun y1=>
 Zh (X:=List zb×zI×(Int×Str×Int×Str×Bool×Int×Int×Bool)) (
   bif decide (y1>=0)then
    za (QF (x.2.2,x.1.kind)) fun y2=>
    need (decide (0<=w64 (y1+1))&&decide (w64 (y1+1)<=(x.2.1.length:Int)))<|
    za (zJ (List.drop (w64 (y1+1)).toNat x.2.1,y2.1,false,false)) fun y3=>
    bif bif !y2.2 then true else !y3.2 then
     some (.ret ((⟨x.1.kind,x.1.name,x.1.op,x.1.value,x.1.fold,x.1.anb,x.1.of_,x.1.list⟩:zI),false))
    else
     need (decide (0<=y1)&&decide (y1<=(x.2.1.length:Int)))<|
     some (.out (List.take y1.toNat x.2.1,(⟨x.1.kind,x.1.name,x.1.op,x.1.value,x.1.fold,x.1.anb,true,y3.1⟩:zI),(0,[],0,[],false,0,0,false)))
   else
    some (.out (x.2.1,(⟨x.1.kind,x.1.name,x.1.op,x.1.value,x.1.fold,x.1.anb,x.1.of_,x.1.list⟩:zI),(0,[],0,[],false,0,0,false)))) fun j4=>
 za (Gy j4.1) fun y5=>
 bif y5.2 != 0 then
  some ((⟨j4.2.1.kind,j4.2.1.name,j4.2.1.op,j4.2.1.value,j4.2.1.fold,j4.2.1.anb,j4.2.1.of_,j4.2.1.list⟩:zI),false)
 else
  za (bH y5.1) fun y6=>
  some ((⟨j4.2.1.kind,j4.2.1.name,j4.2.1.op,j4.2.1.value,j4.2.1.fold,y6.1,j4.2.1.of_,j4.2.1.list⟩:zI),y6.2==0)
def QE(zJ:List zb×zg×Bool×Bool->Option (List zm×Bool))(x:Str×List zb×zg):Option (zI×Bool):=
 za (Tz ()) fun y1=>
 za (ZN x.1) fun y2=>
 za (slices_Index_string (y1,y2)) fun y3=>
 bif decide (y3<5)then
  some ((⟨0,[],0,[],false,(⟨0,0⟩:VAnb),false,[]⟩:zI),false)
 else
  bif decide (wu8 (4+wu8 y3)<=10)then
   za (Hr zJ ((⟨wu8 (4+wu8 y3),[],0,[],false,(⟨0,0⟩:VAnb),false,[]⟩:zI),x.2.1,x.2.2)) fun y4=>
   some ((⟨y4.1.kind,y4.1.name,y4.1.op,y4.1.value,y4.1.fold,y4.1.anb,y4.1.of_,y4.1.list⟩:zI),y4.2)
  else
   za (QF (x.2.2,wu8 (4+wu8 y3))) fun y5=>
   bif !y5.2 then
    some ((⟨wu8 (4+wu8 y3),[],0,[],false,(⟨0,0⟩:VAnb),false,[]⟩:zI),false)
   else
    za (zJ (x.2.1,y5.1,wu8 (4+wu8 y3)==14,decide (wu8 (4+wu8 y3)<=12))) fun y6=>
    some ((⟨wu8 (4+wu8 y3),[],0,[],false,(⟨0,0⟩:VAnb),false,y6.1⟩:zI),y6.2)
def Z0(zJ:List zb×zg×Bool×Bool->Option (List zm×Bool))(x:zg×zu):Option ((List zI×Bool)×zu):=
 zU (S:=zu×List zI) (X:=Unit) (fun s1=>
   za (Zl (1,s1.1)) fun y2=>
   Zh (X:=Bool×zu×List zI×zI) (
     za (Zl (0,s1.1)) fun y3=>
     bif y3.kind==4 then
      some (.out (y3.flag,(⟨s1.1.v,w64 (s1.1.at_+1)⟩:zu),s1.2,(⟨1,y3.text,0,[],false,(⟨0,0⟩:VAnb),false,[]⟩:zI)))
     else
      bif bif y3.kind==9 then y3.text==[46]else false then
       some (.out (y2.kind==1,(⟨s1.1.v,w64 (s1.1.at_+2)⟩:zu),s1.2,(⟨2,y2.text,0,[],false,(⟨0,0⟩:VAnb),false,[]⟩:zI)))
      else
       bif y3.kind==19 then
        za (Q7 (0,s1.1)) fun y4=>
        za (BF y4) fun y5=>
        some (.out (y5.2,(⟨s1.1.v,w64 (s1.1.at_+1)⟩:zu),s1.2,(⟨y5.1.kind,y5.1.name,y5.1.op,y5.1.value,y5.1.fold,y5.1.anb,y5.1.of_,y5.1.list⟩:zI)))
       else
        bif y3.kind==16 then
         Zh (X:=Bool×zu×zI) (
           bif y2.kind==1 then
            za (yE y2.text) fun y6=>
            some (.out (y6.2,s1.1,(⟨y6.1.kind,y6.1.name,y6.1.op,y6.1.value,y6.1.fold,y6.1.anb,y6.1.of_,y6.1.list⟩:zI)))
           else
            bif y2.kind==2 then
             za (Q7 (1,s1.1)) fun y7=>
             za (QE zJ (y2.text,y7,x.1)) fun y8=>
             some (.out (y8.2,s1.1,(⟨y8.1.kind,y8.1.name,y8.1.op,y8.1.value,y8.1.fold,y8.1.anb,y8.1.of_,y8.1.list⟩:zI)))
            else
             some (.out (false,s1.1,(⟨0,[],0,[],false,(⟨0,0⟩:VAnb),false,[]⟩:zI)))) fun j9=>
         some (.out (j9.1,(⟨j9.2.1.v,w64 (j9.2.1.at_+2)⟩:zu),s1.2,(⟨j9.2.2.kind,j9.2.2.name,j9.2.2.op,j9.2.2.value,j9.2.2.fold,j9.2.2.anb,j9.2.2.of_,j9.2.2.list⟩:zI)))
        else
         some (.ret (LO.ret ((s1.2,true),s1.1)))) fun j10=>
   bif !j10.1 then
    some (.ret (([],false),j10.2.1))
   else
    need (ZE j10.2.2.1.length 1 104)<|
    some (.again (j10.2.1,j10.2.2.1++[(⟨j10.2.2.2.kind,j10.2.2.2.name,j10.2.2.2.op,j10.2.2.2.value,j10.2.2.2.fold,j10.2.2.2.anb,j10.2.2.2.of_,j10.2.2.2.list⟩:zI)]))) (x.2,[]) fun o11=>
 none
def Qe(zJ:List zb×zg×Bool×Bool->Option (List zm×Bool))(x:List zb×zg×Bool):Option (zm×Bool):=
 za (Zw (⟨x.1,0⟩:zu)) fun y1=>
 Zh (X:=Int×zu×Int) (
   bif x.2.2 then
    za (Qf y1.2) fun y2=>
    bif y2.1==0 then
     some (.out (0,y2.2,1))
    else
     some (.out (0,y2.2,y2.1))
   else
    some (.out (0,y1.2,0))) fun j3=>
 Zh (X:=Int×zu×Int) (
   some (.out (j3.1,j3.2.1,j3.2.2))) fun j4=>
 zU (S:=Int×zu×Int×List zO×List UInt8) (X:=Int×zu×Int×List zO×List UInt8) (fun s5=>
   Zh (X:=Int×zu×Int×List zO×List UInt8×Str) (
     za (Zl (0,s5.2.1)) fun y6=>
     bif y6.kind==1 then
      za (ZN y6.text) fun y7=>
      some (.out (s5.1,(⟨s5.2.1.v,w64 (s5.2.1.at_+1)⟩:zu),s5.2.2.1,s5.2.2.2.1,s5.2.2.2.2,y7))
     else
      za (Z9 ([42],s5.2.1)) fun y8=>
      bif y8.1 then
       some (.out (s5.1,y8.2,s5.2.2.1,s5.2.2.2.1,s5.2.2.2.2,[42]))
      else
       some (.out (s5.1,y8.2,s5.2.2.1,s5.2.2.2.1,s5.2.2.2.2,[]))) fun j9=>
   za (Z0 zJ (x.2.1,j9.2.1)) fun y10=>
   za (zD (!(!y10.1.2)) (Rv zy ((⟨j9.2.2.2.2.2,y10.1.1⟩:zO),x.2.1)) (default:Bool)) fun y11=>
   bif bif !y10.1.2 then true else !y11 then
    some (.ret ((⟨j9.2.2.1,j9.2.2.2.1,j9.2.2.2.2.1⟩:zm),false))
   else
    need (ZE j9.2.2.2.1.length 1 40)<|
    za (Zw y10.2) fun y12=>
    za (Qg y12.2) fun y13=>
    bif y13 then
     some (.out (j9.1,y12.2,j9.2.2.1,j9.2.2.2.1++[(⟨j9.2.2.2.2.2,y10.1.1⟩:zO)],j9.2.2.2.2.1))
    else
     za (Qf y12.2) fun y14=>
     Zh (X:=Int×Int×Int×List zO×List UInt8) (
       bif bif y14.1==0 then !y12.1 else false then
        some (.ret (LO.ret ((⟨j9.2.2.1,j9.2.2.2.1++[(⟨j9.2.2.2.2.2,y10.1.1⟩:zO)],j9.2.2.2.2.1⟩:zm),false)))
       else
        bif y14.1==0 then
         some (.out (1,j9.1,j9.2.2.1,j9.2.2.2.1++[(⟨j9.2.2.2.2.2,y10.1.1⟩:zO)],j9.2.2.2.2.1))
        else
         some (.out (y14.1,j9.1,j9.2.2.1,j9.2.2.2.1++[(⟨j9.2.2.2.2.2,y10.1.1⟩:zO)],j9.2.2.2.2.1))) fun j15=>
     za (QG j15.1) fun y16=>
     need (ZE j15.2.2.2.2.length 1 1)<|
     some (.again (j15.2.1,y14.2,j15.2.2.1,j15.2.2.2.1,j15.2.2.2.2++[y16]))) (j4.1,j4.2.1,j4.2.2,[],[]) fun o17=>
 some ((⟨o17.2.2.1,o17.2.2.2.1,o17.2.2.2.2⟩:zm),decide ((o17.2.2.2.1.length:Int)<=64))
def Q6(zJ:List zb×zg×Bool×Bool->Option (List zm×Bool))(x:List zb×zg×Bool×Bool):Option (List zm×Bool):=
 zU (S:=(Int×Int)×List zm) (X:=List zm) (fun s1=>
   bif decide (s1.1.2<w64 ((x.1.length:Int)+1))then
    Zh (X:=(Int×Int)×List zm) (
      za (zD (decide (s1.1.2<(x.1.length:Int))) (geti x.1 s1.1.2) (default:zb)) fun y2=>
      bif bif decide (s1.1.2<(x.1.length:Int))then y2.token.kind != 18 else false then
       some (.out ((s1.1.1,s1.1.2),s1.2))
      else
       Zh (X:=List zm) (
         need (decide (0<=s1.1.1)&&(decide (s1.1.1<=s1.1.2)&&decide (s1.1.2<=(x.1.length:Int))))<|
         za (Qe zJ (List.drop s1.1.1.toNat (List.take s1.1.2.toNat x.1),x.2.1,x.2.2.1)) fun y3=>
         bif y3.2 then
          need (ZE s1.2.length 1 56)<|
          some (.out (s1.2++[(⟨y3.1.lead,y3.1.parts,y3.1.combs⟩:zm)]))
         else
          bif !x.2.2.2 then
           some (.ret (LX.ret (LO.ret ([],false))))
          else
           some (.out s1.2)) fun j4=>
       some (.out ((w64 (s1.1.2+1),s1.1.2),j4))) fun j5=>
    some (.again ((j5.1.1,w64 (j5.1.2+1)),j5.2))
   else
    some (.out s1.2)) ((0,0),[]) fun o6=>
 some (o6,true)
def zJ:List zb×zg×Bool×Bool->Option (List zm×Bool):=recE (Q6)
def nD(x:List zb):Option (List zm×Int):=
 za (Yl x) fun y1=>
 bif y1 != 0 then
  some ([],y1)
 else
  za (zJ (x,(⟨0,false⟩:zg),false,false)) fun y2=>
  bif !y2.2 then
   some ([],12)
  else
   za (Ql y2.1) fun y3=>
   bif decide (y3>64)then
    some ([],4)
   else
    some (y2.1,0)
def dG(x:List zb):Option (List zb):=need (ZE 0 x.length 80) (some x)
def xD(Gl:List zb->Option (List zb))(x:List zb):Option (List zb):=
 za (dG x) fun y1=>
 zU (S:=Int×List zb) (X:=List zb) (fun s2=>
   bif decide (s2.1<(y1.length:Int))then
    need (decide (0<=s2.1)&&decide (s2.1<(s2.2.length:Int)))<|
    za s2.2[s2.1.toNat]? fun y3=>
    za (Gl y3.list) fun y4=>
    need (decide (0<=s2.1)&&decide (s2.1<(s2.2.length:Int)))<|
    za s2.2[s2.1.toNat]? fun y5=>
    some (.again (w64 (s2.1+1),List.set s2.2 s2.1.toNat (⟨y5.token,y4⟩:zb)))
   else
    some (.out s2.2)) (0,y1) fun o6=>
 some o6
def Gl:List zb->Option (List zb):=recE (xD)
def Cr(x:List zb×Int):Option (List (List zb)×Int):=
 za (Yl x.1) fun y1=>
 bif y1 != 0 then
  some ([],y1)
 else
  bif bif decide (x.2<1)then true else decide (x.2>24)then
   some ([],2)
  else
   zU (S:=(Int×Int)×List (List zb)) (X:=Int×List (List zb)) (fun s2=>
     bif decide (s2.1.2<(x.1.length:Int))then
      Zh (X:=(Int×Int)×List (List zb)) (
        za (geti x.1 s2.1.2) fun y3=>
        bif y3.token.kind==x.2 then
         need (decide (0<=s2.1.1)&&(decide (s2.1.1<=s2.1.2)&&(decide (s2.1.2<=s2.1.2)&&decide (s2.1.2<=(x.1.length:Int))))&&decide (s2.1.2=s2.1.2))<|
         za (Gl (List.drop s2.1.1.toNat (List.take s2.1.2.toNat x.1))) fun y4=>
         need (ZE s2.2.length 1 24)<|
         some (.out ((w64 (s2.1.2+1),s2.1.2),s2.2++[y4]))
        else
         some (.out ((s2.1.1,s2.1.2),s2.2))) fun j5=>
      some (.again ((j5.1.1,w64 (j5.1.2+1)),j5.2))
     else
      some (.out (s2.1.1,s2.2))) ((0,0),[]) fun o6=>
   need (decide (0<=o6.1)&&decide (o6.1<=(x.1.length:Int)))<|
   za (Gl (List.drop o6.1.toNat x.1)) fun y7=>
   need (ZE o6.2.length 1 24)<|
   some (o6.2++[y7],0)
def Ou(x:List zb):Option (List zb):=
 zU (S:=List zb) (X:=List zb) (fun s1=>
   za (zD (decide ((s1.length:Int)>0)) (geti s1 0) (default:zb)) fun y2=>
   za (zD (decide ((s1.length:Int)>0)) (QA ((⟨y2.token,y2.list⟩:zb),13)) (default:Bool)) fun y3=>
   bif bif decide ((s1.length:Int)>0)then y3 else false then
    need (decide (1<=(s1.length:Int)))<|
    some (.again (List.drop 1 s1))
   else
    some (.out s1)) x fun o4=>
 some o4
def yo(x:List zb):Option (List zb):=
 zU (S:=List zb) (X:=List zb) (fun s1=>
   za (zD (decide ((s1.length:Int)>0)) (geti s1 (w64 ((s1.length:Int) - 1))) (default:zb)) fun y2=>
   za (zD (decide ((s1.length:Int)>0)) (QA ((⟨y2.token,y2.list⟩:zb),13)) (default:Bool)) fun y3=>
   bif bif decide ((s1.length:Int)>0)then y3 else false then
    need (decide (0<=w64 ((s1.length:Int) - 1))&&decide (w64 ((s1.length:Int) - 1)<=(s1.length:Int)))<|
    some (.again (List.take (w64 ((s1.length:Int) - 1)).toNat s1))
   else
    some (.out s1)) x fun o4=>
 some o4
def Az(x:Int×List zb):Option Bool:=
 za (geti x.2 x.1) fun y1=>
 some (y1.token.kind==13)
def Ju(x:List zb):Option (List zb×Int):=
 za (Yl x) fun y1=>
 bif y1 != 0 then
  some ([],y1)
 else
  zU (S:=Int) (X:=Int) (fun s2=>
    za (zD (decide (s2<(x.length:Int))) (Az (s2,x)) (default:Bool)) fun y3=>
    bif bif decide (s2<(x.length:Int))then y3 else false then
     some (.again (w64 (s2+1)))
    else
     some (.out s2)) 0 fun o4=>
  zU (S:=Int) (X:=Int) (fun s5=>
    za (zD (decide (o4<s5)) (Az (w64 (s5 - 1),x)) (default:Bool)) fun y6=>
    bif bif decide (o4<s5)then y6 else false then
     some (.again (w64 (s5 - 1)))
    else
     some (.out s5)) (x.length:Int) fun o7=>
  need (decide (0<=o4)&&(decide (o4<=o7)&&(decide (o7<=o7)&&decide (o7<=(x.length:Int))))&&decide (o7=o7))<|
  za (Gl (List.drop o4.toNat (List.take o7.toNat x))) fun y8=>
  some (y8,0)
def Ux(x:List zb):Option (Zx×Bool):=
 za (Ou x) fun y1=>
 za (yo y1) fun y2=>
 za (zD (!((y2.length:Int)==0)) (geti y2 0) (default:zb)) fun y3=>
 za (zD (!((y2.length:Int)==0)) (QA ((⟨y3.token,y3.list⟩:zb),1)) (default:Bool)) fun y4=>
 bif bif (y2.length:Int)==0 then true else !y4 then
  some ((⟨[],[],false⟩:Zx),false)
 else
  za (geti y2 0) fun y5=>
  Zh (X:=List zb×(Str×Bool)×(Str×Bool)) (
    za (strings_HasPrefix (y5.token.text,[45,45])) fun y6=>
    bif !y6 then
     za (ZN y5.token.text) fun y7=>
     some (.out (y2,([],false),(y7,false)))
    else
     some (.out (y2,([],false),(y5.token.text,false)))) fun j8=>
  need (decide (1<=(j8.1.length:Int)))<|
  za (Ou (List.drop 1 j8.1)) fun y9=>
  za (zD (!((y9.length:Int)==0)) (geti y9 0) (default:zb)) fun y10=>
  za (zD (!((y9.length:Int)==0)) (QA ((⟨y10.token,y10.list⟩:zb),16)) (default:Bool)) fun y11=>
  bif bif (y9.length:Int)==0 then true else !y11 then
   some ((⟨[],[],false⟩:Zx),false)
  else
   need (decide (1<=(y9.length:Int)))<|
   za (Ou (List.drop 1 y9)) fun y12=>
   Zh (X:=List zb×(Str×Bool)×(Str×Bool)) (
     za (zD (decide (w64 ((y12.length:Int) - 1)>0)) (geti y12 (w64 ((y12.length:Int) - 1))) (default:zb)) fun y13=>
     za (zD (decide (w64 ((y12.length:Int) - 1)>0)) (QA ((⟨y13.token,y13.list⟩:zb),1)) (default:Bool)) fun y14=>
     za (zD (bif decide (w64 ((y12.length:Int) - 1)>0)then y14 else false) (geti y12 (w64 ((y12.length:Int) - 1))) (default:zb)) fun y15=>
     za (zD (bif decide (w64 ((y12.length:Int) - 1)>0)then y14 else false) (QB (y15.token.text,[105,109,112,111,114,116,97,110,116])) (default:Bool)) fun y16=>
     bif bif bif decide (w64 ((y12.length:Int) - 1)>0)then y14 else false then y16 else false then
      need (decide (0<=w64 ((y12.length:Int) - 1))&&decide (w64 ((y12.length:Int) - 1)<=(y12.length:Int)))<|
      za (yo (List.take (w64 ((y12.length:Int) - 1)).toNat y12)) fun y17=>
      za (zD (decide ((y17.length:Int)>0)) (geti y17 (w64 ((y17.length:Int) - 1))) (default:zb)) fun y18=>
      za (zD (decide ((y17.length:Int)>0)) (rq (⟨y18.token,y18.list⟩:zb)) (default:Bool)) fun y19=>
      bif bif decide ((y17.length:Int)>0)then y19 else false then
       need (decide (0<=w64 ((y17.length:Int) - 1))&&decide (w64 ((y17.length:Int) - 1)<=(y17.length:Int)))<|
       za (yo (List.take (w64 ((y17.length:Int) - 1)).toNat y17)) fun y20=>
       some (.out (y20,(j8.2.1.1,j8.2.1.2),(j8.2.2.1,true)))
      else
       some (.out (y12,(j8.2.1.1,j8.2.1.2),(j8.2.2.1,j8.2.2.2)))
     else
      some (.out (y12,(j8.2.1.1,j8.2.1.2),(j8.2.2.1,j8.2.2.2)))) fun j21=>
   za (Ju j21.1) fun y22=>
   za (zD (!(y22.2 != 0)) (Gn (⟨j21.2.2.1,y22.1,j21.2.2.2⟩:Zx)) (default:Int)) fun y23=>
   bif bif y22.2 != 0 then true else y23 != 0 then
    some ((⟨[],[],false⟩:Zx),false)
   else
    some ((⟨j21.2.2.1,y22.1,j21.2.2.2⟩:Zx),true)
def UB(x:List zb):Option (List Zx×Int):=
 za (Cr (x,17)) fun y1=>
 bif y1.2 != 0 then
  some ([],y1.2)
 else
  zU (S:=Int×List Zx) (X:=List Zx) (fun s2=>
    bif decide (s2.1<(y1.1.length:Int))then
     Zh (X:=Int×List Zx) (
       za (geti y1.1 s2.1) fun y3=>
       za (Ux y3) fun y4=>
       bif bif y4.2 then decide ((s2.2.length:Int)<32)else false then
        need (ZE s2.2.length 1 48)<|
        some (.out (s2.1,s2.2++[y4.1]))
       else
        some (.out (s2.1,s2.2))) fun j5=>
     some (.again (w64 (j5.1+1),j5.2))
    else
     some (.out s2.2)) (0,[]) fun o6=>
  some (o6,0)
def Dz(x:List zb×List zb):Option (zM×Bool):=
 za (nD x.1) fun y1=>
 bif y1.2 != 0 then
  some ((⟨0,[],[],(⟨0,[],0,(⟨[],[],false⟩:Zx),[]⟩:zw),[],[]⟩:zM),false)
 else
  za (UB x.2) fun y2=>
  some ((⟨1,y1.1,y2.1,(⟨0,[],0,(⟨[],[],false⟩:Zx),[]⟩:zw),[],[]⟩:zM),y2.2==0)
def lL(x:List Str):Option Int:=
 zU (S:=Int) (X:=Unit) (fun s1=>
   bif decide (s1<(x.length:Int))then
    need (decide (0<=s1)&&decide (s1<(x.length:Int)))<|
    za x[s1.toNat]? fun y2=>
    za (Sz y2) fun y3=>
    bif y3 then
     some (.ret s1)
    else
     some (.again (w64 (s1+1)))
   else
    some (.out ())) 0 fun o4=>
 some (-1)
def qH(x:List Str):Option Bool:=
 za (lL x) fun y1=>
 some (decide (y1>=0))
def SF(x:List Str):Option Bool:=
 za (zD (bif decide ((x.length:Int)>0)then decide ((x.length:Int)<=16)else false) (qH x) (default:Bool)) fun y1=>
 some (bif bif decide ((x.length:Int)>0)then decide ((x.length:Int)<=16)else false then !y1 else false)
def mD(x:List zb):Option (List Str×Bool):=
 za (Ju x) fun y1=>
 bif bif y1.2 != 0 then true else Int.tmod (y1.1.length:Int) 2==0 then
  some ([],false)
 else
  zU (S:=Int×List Str) (X:=List Str) (fun s2=>
    bif decide (s2.1<(y1.1.length:Int))then
     Zh (X:=Int×List Str) (
       za (geti y1.1 s2.1) fun y3=>
       bif Int.tmod s2.1 2==1 then
        bif bif y3.token.kind != 9 then true else !(y3.token.text==[46])then
         some (.ret (LO.ret ([],false)))
        else
         some (.out (s2.1,s2.2))
       else
        bif y3.token.kind != 1 then
         some (.ret (LO.ret ([],false)))
        else
         need (ZE s2.2.length 1 16)<|
         some (.out (s2.1,s2.2++[y3.token.text]))) fun j4=>
     some (.again (w64 (j4.1+1),j4.2))
    else
     some (.out s2.2)) (0,[]) fun o5=>
  za (SF o5) fun y6=>
  some (o5,y6)
def ym(x:List zb×Bool):Option (zM×Bool):=
 za (Cr (x.1,18)) fun y1=>
 bif bif y1.2 != 0 then true else decide ((y1.1.length:Int)>64)then
  some ((⟨0,[],[],(⟨0,[],0,(⟨[],[],false⟩:Zx),[]⟩:zw),[],[]⟩:zM),false)
 else
  Zh (X:=(Int×Int×Str×Int×Str×Bool)×(Int×Int×Str×Int×Str×Bool)) (
    bif x.2 then
     za (Ju x.1) fun y2=>
     bif (y2.1.length:Int)==0 then
      some (.ret ((⟨4,[],[],(⟨0,[],0,(⟨[],[],false⟩:Zx),[]⟩:zw),[],[]⟩:zM),true))
     else
      some (.out ((0,0,[],0,[],false),(4,0,[],0,[],false)))
    else
     some (.out ((0,0,[],0,[],false),(5,0,[],0,[],false)))) fun j3=>
  zU (S:=Int×(Int×Int×Str×Int×Str×Bool)×(Int×Int×Str×Int×Str×Bool)×List (List Str)) (X:=(Int×Int×Str×Int×Str×Bool)×(Int×Int×Str×Int×Str×Bool)×List (List Str)) (fun s4=>
    bif decide (s4.1<(y1.1.length:Int))then
     za (geti y1.1 s4.1) fun y5=>
     za (mD y5) fun y6=>
     bif !y6.2 then
      some (.ret ((⟨0,[],[],(⟨0,[],0,(⟨[],[],false⟩:Zx),[]⟩:zw),[],[]⟩:zM),false))
     else
      need (ZE s4.2.2.2.length 1 24)<|
      some (.again (w64 (s4.1+1),(s4.2.1.1,s4.2.1.2.1,s4.2.1.2.2.1,s4.2.1.2.2.2.1,s4.2.1.2.2.2.2.1,s4.2.1.2.2.2.2.2),(s4.2.2.1.1,s4.2.2.1.2.1,s4.2.2.1.2.2.1,s4.2.2.1.2.2.2.1,s4.2.2.1.2.2.2.2.1,s4.2.2.1.2.2.2.2.2),s4.2.2.2++[y6.1]))
    else
     some (.out ((s4.2.1.1,s4.2.1.2.1,s4.2.1.2.2.1,s4.2.1.2.2.2.1,s4.2.1.2.2.2.2.1,s4.2.1.2.2.2.2.2),(s4.2.2.1.1,s4.2.2.1.2.1,s4.2.2.1.2.2.1,s4.2.2.1.2.2.2.1,s4.2.2.1.2.2.2.2.1,s4.2.2.1.2.2.2.2.2),s4.2.2.2))) (0,(j3.1.1,j3.1.2.1,j3.1.2.2.1,j3.1.2.2.2.1,j3.1.2.2.2.2.1,j3.1.2.2.2.2.2),(j3.2.1,j3.2.2.1,j3.2.2.2.1,j3.2.2.2.2.1,j3.2.2.2.2.2.1,j3.2.2.2.2.2.2),[]) fun o7=>
  some ((⟨o7.2.1.1,[],[],(⟨o7.2.1.2.1,o7.2.1.2.2.1,o7.2.1.2.2.2.1,(⟨o7.2.1.2.2.2.2.1,[],o7.2.1.2.2.2.2.2⟩:Zx),[]⟩:zw),o7.2.2,[]⟩:zM),bif !x.2 then true else(o7.2.2.length:Int)==1)
def ZV(x:zx):Option Int:=
 bif (x.v.length:Int)==0 then
  some 0
 else
  za (geti x.v 0) fun y1=>
  some y1.token.kind
def ZW(x:zx):Option (zb×zx):=
 za (geti x.v 0) fun y1=>
 need (decide (1<=(x.v.length:Int)))<|
 some ((⟨y1.token,y1.list⟩:zb),(⟨List.drop 1 x.v⟩:zx))
def Zg(x:zx):Option (Bool×zx):=
 zU (S:=zx) (X:=zx) (fun s1=>
   za (ZV s1) fun y2=>
   bif y2==13 then
    za (ZW s1) fun y3=>
    some (.again y3.2)
   else
    some (.out s1)) x fun o4=>
 some (decide ((o4.v.length:Int)<(x.v.length:Int)),o4)
def qU(x:List Str×zx):Option (Str×zx):=
 zU (S:=Int×zx) (X:=zx) (fun s1=>
   bif decide (s1.1<(x.1.length:Int))then
    za (geti x.1 s1.1) fun y2=>
    za (ZV s1.2) fun y3=>
    za (zD (y3==1) (geti s1.2.v 0) (default:zb)) fun y4=>
    za (zD (y3==1) (QB (y4.token.text,y2)) (default:Bool)) fun y5=>
    bif bif y3==1 then y5 else false then
     za (ZW s1.2) fun y6=>
     some (.ret (y2,y6.2))
    else
     some (.again (w64 (s1.1+1),s1.2))
   else
    some (.out s1.2)) (0,x.2) fun o7=>
 some ([],o7)
def QW(x:zx):Option ((zw×Bool)×zx):=
 za (ZV x) fun y1=>
 bif y1 != 21 then
  some (((⟨0,[],0,(⟨[],[],false⟩:Zx),[]⟩:zw),false),x)
 else
  za (ZW x) fun y2=>
  za (Zg (⟨y2.1.list⟩:zx)) fun y3=>
  Zh (X:=(Int×Str×Int×Str×Bool)×zx×(Int×Str×Int×Str×Bool)) (
    za (qU ([[109,105,110,45,119,105,100,116,104],[109,97,120,45,119,105,100,116,104]],y3.2)) fun y4=>
    bif y4.1==[]then
     some (.ret (((⟨5,[],0,(⟨[],[],false⟩:Zx),[]⟩:zw),false),y2.2))
    else
     bif y4.1==[109,97,120,45,119,105,100,116,104]then
      some (.out ((0,[],0,[],false),y4.2,(6,[],0,[],false)))
     else
      some (.out ((0,[],0,[],false),y4.2,(5,[],0,[],false)))) fun j5=>
  za (Zg j5.2.1) fun y6=>
  za (ZV y6.2) fun y7=>
  bif y7 != 16 then
   some (((⟨j5.2.2.1,j5.2.2.2.1,j5.2.2.2.2.1,(⟨j5.2.2.2.2.2.1,[],j5.2.2.2.2.2.2⟩:Zx),[]⟩:zw),false),y2.2)
  else
   za (ZW y6.2) fun y8=>
   za (Zg y8.2) fun y9=>
   za (ZV y9.2) fun y10=>
   za (zD (y10 != 12) (ZV y9.2) (default:Int)) fun y11=>
   bif bif y10 != 12 then y11 != 10 else false then
    some (((⟨j5.2.2.1,j5.2.2.2.1,j5.2.2.2.2.1,(⟨j5.2.2.2.2.2.1,[],j5.2.2.2.2.2.2⟩:Zx),[]⟩:zw),false),y2.2)
   else
    za (ZW y9.2) fun y12=>
    za (Zg y12.2) fun y13=>
    za (zD (y12.1.token.kind==12) (QB (y12.1.token.unit,[112,120])) (default:Bool)) fun y14=>
    za (zD (bif bif bif y12.1.token.kind==12 then y14 else false then true else bif y12.1.token.kind==10 then y12.1.token.num==0 else false then decide (y12.1.token.num>=0)else false) (wu y12.1.token.num) (default:Int)) fun y15=>
    some (((⟨j5.2.2.1,j5.2.2.2.1,y12.1.token.num,(⟨j5.2.2.2.2.2.1,[],j5.2.2.2.2.2.2⟩:Zx),[]⟩:zw),bif bif bif bif bif y12.1.token.kind==12 then y14 else false then true else bif y12.1.token.kind==10 then y12.1.token.num==0 else false then decide (y12.1.token.num>=0)else false then y15==0 else false then(y13.2.v.length:Int)==0 else false),y2.2)
def kG(x:zx):Option ((zw×Bool)×zx):=
 za (Zg x) fun y1=>
 za (qU ([[110,111,116],[111,110,108,121]],y1.2)) fun y2=>
 za (Zg y2.2) fun y3=>
 Zh (X:=zx×(Int×Str×Int×Str×Bool)×(Int×Str×Int×Str×Bool)×List zw) (
   za (ZV y3.2) fun y4=>
   bif y4==1 then
    za (ZW y3.2) fun y5=>
    za (ZN y5.1.token.text) fun y6=>
    za (xu y6) fun y7=>
    bif !y7 then
     some (.ret (((⟨1,[],0,(⟨[],[],false⟩:Zx),[]⟩:zw),false),y5.2))
    else
     need (ZE 0 1 104)<|
     some (.out (y5.2,(0,[],0,[],false),(1,[],0,[],false),[(⟨4,y6,0,(⟨[],[],false⟩:Zx),[]⟩:zw)]))
   else
    za (QW y3.2) fun y8=>
    bif bif !y8.1.2 then true else !(y2.1==[])then
     some (.ret (((⟨1,[],0,(⟨[],[],false⟩:Zx),[]⟩:zw),false),y8.2))
    else
     need (ZE 0 1 104)<|
     some (.out (y8.2,(0,[],0,[],false),(1,[],0,[],false),[(⟨y8.1.1.kind,y8.1.1.name,y8.1.1.num,y8.1.1.decl,y8.1.1.list⟩:zw)]))) fun j9=>
 za (Zg j9.1) fun y10=>
 zU (S:=zx×(Int×Str×Int×Str×Bool)×(Int×Str×Int×Str×Bool)×List zw) (X:=zx×(Int×Str×Int×Str×Bool)×(Int×Str×Int×Str×Bool)×List zw) (fun s11=>
   bif decide ((s11.1.v.length:Int)>0)then
    za (qU ([[97,110,100]],s11.1)) fun y12=>
    bif y12.1==[]then
     some (.ret (((⟨s11.2.2.1.1,s11.2.2.1.2.1,s11.2.2.1.2.2.1,(⟨s11.2.2.1.2.2.2.1,[],s11.2.2.1.2.2.2.2⟩:Zx),s11.2.2.2⟩:zw),false),y12.2))
    else
     za (Zg y12.2) fun y13=>
     za (QW y13.2) fun y14=>
     bif !y14.1.2 then
      some (.ret (((⟨s11.2.2.1.1,s11.2.2.1.2.1,s11.2.2.1.2.2.1,(⟨s11.2.2.1.2.2.2.1,[],s11.2.2.1.2.2.2.2⟩:Zx),s11.2.2.2⟩:zw),false),y14.2))
     else
      need (ZE s11.2.2.2.length 1 104)<|
      za (Zg y14.2) fun y15=>
      some (.again (y15.2,(s11.2.1.1,s11.2.1.2.1,s11.2.1.2.2.1,s11.2.1.2.2.2.1,s11.2.1.2.2.2.2),(s11.2.2.1.1,s11.2.2.1.2.1,s11.2.2.1.2.2.1,s11.2.2.1.2.2.2.1,s11.2.2.1.2.2.2.2),s11.2.2.2++[(⟨y14.1.1.kind,y14.1.1.name,y14.1.1.num,y14.1.1.decl,y14.1.1.list⟩:zw)]))
   else
    some (.out (s11.1,(s11.2.1.1,s11.2.1.2.1,s11.2.1.2.2.1,s11.2.1.2.2.2.1,s11.2.1.2.2.2.2),(s11.2.2.1.1,s11.2.2.1.2.1,s11.2.2.1.2.2.1,s11.2.2.1.2.2.2.1,s11.2.2.1.2.2.2.2),s11.2.2.2))) (y10.2,(j9.2.1.1,j9.2.1.2.1,j9.2.1.2.2.1,j9.2.1.2.2.2.1,j9.2.1.2.2.2.2),(j9.2.2.1.1,j9.2.2.1.2.1,j9.2.2.1.2.2.1,j9.2.2.1.2.2.2.1,j9.2.2.1.2.2.2.2),j9.2.2.2) fun o16=>
 Zh (X:=(Int×Str×Int×Str×Bool)×(Int×Str×Int×Str×Bool×List zw)) (
   bif y2.1==[110,111,116]then
    some (.out ((o16.2.1.1,o16.2.1.2.1,o16.2.1.2.2.1,o16.2.1.2.2.2.1,o16.2.1.2.2.2.2),(3,[],0,[],false,[(⟨o16.2.2.1.1,o16.2.2.1.2.1,o16.2.2.1.2.2.1,(⟨o16.2.2.1.2.2.2.1,[],o16.2.2.1.2.2.2.2⟩:Zx),o16.2.2.2⟩:zw)])))
   else
    some (.out ((o16.2.1.1,o16.2.1.2.1,o16.2.1.2.2.1,o16.2.1.2.2.2.1,o16.2.1.2.2.2.2),(o16.2.2.1.1,o16.2.2.1.2.1,o16.2.2.1.2.2.1,o16.2.2.1.2.2.2.1,o16.2.2.1.2.2.2.2,o16.2.2.2)))) fun j17=>
 some (((⟨j17.2.1,j17.2.2.1,j17.2.2.2.1,(⟨j17.2.2.2.2.1,[],j17.2.2.2.2.2.1⟩:Zx),j17.2.2.2.2.2.2⟩:zw),true),o16.1)
def tq(x:List zb):Option (zw×Int):=
 za (Cr (x,18)) fun y1=>
 bif y1.2 != 0 then
  some ((⟨0,[],0,(⟨[],[],false⟩:Zx),[]⟩:zw),y1.2)
 else
  Zh (X:=Int×Str×Int×Str×Bool) (
    bif (y1.1.length:Int)==1 then
     za (Zg (⟨x⟩:zx)) fun y2=>
     bif (y2.2.v.length:Int)==0 then
      some (.ret ((⟨1,[],0,(⟨[],[],false⟩:Zx),[]⟩:zw),0))
     else
      some (.out (0,[],0,[],false))
    else
     some (.out (0,[],0,[],false))) fun j3=>
  bif decide ((y1.1.length:Int)>64)then
   some ((⟨0,[],0,(⟨[],[],false⟩:Zx),[]⟩:zw),4)
  else
   zU (S:=Int×(Int×Str×Int×Str×Bool)×List zw) (X:=(Int×Str×Int×Str×Bool)×List zw) (fun s4=>
     bif decide (s4.1<(y1.1.length:Int))then
      za (geti y1.1 s4.1) fun y5=>
      za (kG (⟨y5⟩:zx)) fun y6=>
      Zh (X:=(Int×Str×Int×Str×Bool)×List zw×zw) (
        bif !y6.1.2 then
         some (.out ((s4.2.1.1,s4.2.1.2.1,s4.2.1.2.2.1,s4.2.1.2.2.2.1,s4.2.1.2.2.2.2),s4.2.2,(⟨3,[],0,(⟨[],[],false⟩:Zx),[(⟨1,[],0,(⟨[],[],false⟩:Zx),[(⟨4,[97,108,108],0,(⟨[],[],false⟩:Zx),[]⟩:zw)]⟩:zw)]⟩:zw)))
        else
         some (.out ((s4.2.1.1,s4.2.1.2.1,s4.2.1.2.2.1,s4.2.1.2.2.2.1,s4.2.1.2.2.2.2),s4.2.2,(⟨y6.1.1.kind,y6.1.1.name,y6.1.1.num,y6.1.1.decl,y6.1.1.list⟩:zw)))) fun j7=>
      need (ZE j7.2.1.length 1 104)<|
      some (.again (w64 (s4.1+1),(j7.1.1,j7.1.2.1,j7.1.2.2.1,j7.1.2.2.2.1,j7.1.2.2.2.2),j7.2.1++[(⟨j7.2.2.kind,j7.2.2.name,j7.2.2.num,j7.2.2.decl,j7.2.2.list⟩:zw)]))
     else
      some (.out ((s4.2.1.1,s4.2.1.2.1,s4.2.1.2.2.1,s4.2.1.2.2.2.1,s4.2.1.2.2.2.2),s4.2.2))) (0,(2,[],0,[],false),[]) fun o8=>
   some ((⟨o8.1.1,o8.1.2.1,o8.1.2.2.1,(⟨o8.1.2.2.2.1,[],o8.1.2.2.2.2⟩:Zx),o8.2⟩:zw),0)
def YC(x:List zb):Option (Zx×Bool×Int):=
 za (Yl x) fun y1=>
 bif y1 != 0 then
  some ((⟨[],[],false⟩:Zx),false,y1)
 else
  za (Ux x) fun y2=>
  some (y2.1,y2.2,0)
def qo(Zm:zx->Option ((zw×Bool)×zx))(x:zx):Option ((zw×Bool)×zx):=
 za (ZV x) fun y1=>
 bif y1==2 then
  za (ZW x) fun y2=>
  some (((⟨8,[],0,(⟨[],[],false⟩:Zx),[]⟩:zw),true),y2.2)
 else
  bif y1==21 then
   za (ZW x) fun y3=>
   za (YC y3.1.list) fun y4=>
   bif bif y4.2.2==0 then y4.2.1 else false then
    some (((⟨7,[],0,y4.1,[]⟩:zw),true),y3.2)
   else
    za (Zm (⟨y3.1.list⟩:zx)) fun y5=>
    bif y5.1.2 then
     some (((⟨y5.1.1.kind,y5.1.1.name,y5.1.1.num,y5.1.1.decl,y5.1.1.list⟩:zw),true),y3.2)
    else
     some (((⟨8,[],0,(⟨[],[],false⟩:Zx),[]⟩:zw),true),y3.2)
  else
   some (((⟨8,[],0,(⟨[],[],false⟩:Zx),[]⟩:zw),false),x)
def qJ(Zm:zx->Option ((zw×Bool)×zx))(x:zx):Option ((zw×Bool)×zx):=
 za (Zg x) fun y1=>
 za (qU ([[110,111,116]],y1.2)) fun y2=>
 bif !(y2.1==[])then
  za (Zg y2.2) fun y3=>
  za (qo Zm y3.2) fun y4=>
  za (Zg y4.2) fun y5=>
  some (((⟨3,[],0,(⟨[],[],false⟩:Zx),[(⟨y4.1.1.kind,y4.1.1.name,y4.1.1.num,y4.1.1.decl,y4.1.1.list⟩:zw)]⟩:zw),bif bif y4.1.2 then y3.1 else false then(y5.2.v.length:Int)==0 else false),y5.2)
 else
  za (qo Zm y2.2) fun y6=>
  bif !y6.1.2 then
   some (((⟨y6.1.1.kind,y6.1.1.name,y6.1.1.num,y6.1.1.decl,y6.1.1.list⟩:zw),false),y6.2)
  else
   za (Zg y6.2) fun y7=>
   bif (y7.2.v.length:Int)==0 then
    some (((⟨y6.1.1.kind,y6.1.1.name,y6.1.1.num,y6.1.1.decl,y6.1.1.list⟩:zw),true),y7.2)
   else
    zU (S:=Bool×zx×(Int×Str×Int×Str×Bool)×(Int×Str×Int×Str×Bool)×List zw) (X:=zx×(Int×Str×Int×Str×Bool)×(Int×Str×Int×Str×Bool)×List zw) (fun s8=>
      bif decide ((s8.2.1.v.length:Int)>0)then
       za (qU ([[97,110,100],[111,114]],s8.2.1)) fun y9=>
       bif bif bif (bif y9.1==[97,110,100]then 1 else bif y9.1==[111,114]then 2 else(0:Int))==0 then true else !s8.1 then true else bif s8.2.2.2.1.1 != 0 then s8.2.2.2.1.1 != (bif y9.1==[97,110,100]then 1 else bif y9.1==[111,114]then 2 else(0:Int))else false then
        some (.ret (((⟨s8.2.2.2.1.1,s8.2.2.2.1.2.1,s8.2.2.2.1.2.2.1,(⟨s8.2.2.2.1.2.2.2.1,[],s8.2.2.2.1.2.2.2.2⟩:Zx),s8.2.2.2.2⟩:zw),false),y9.2))
       else
        za (Zg y9.2) fun y10=>
        za (qo Zm y10.2) fun y11=>
        bif bif !y10.1 then true else !y11.1.2 then
         some (.ret (((⟨bif y9.1==[97,110,100]then 1 else bif y9.1==[111,114]then 2 else(0:Int),s8.2.2.2.1.2.1,s8.2.2.2.1.2.2.1,(⟨s8.2.2.2.1.2.2.2.1,[],s8.2.2.2.1.2.2.2.2⟩:Zx),s8.2.2.2.2⟩:zw),false),y11.2))
        else
         need (ZE s8.2.2.2.2.length 1 104)<|
         za (Zg y11.2) fun y12=>
         some (.again (y12.1,y12.2,(s8.2.2.1.1,s8.2.2.1.2.1,s8.2.2.1.2.2.1,s8.2.2.1.2.2.2.1,s8.2.2.1.2.2.2.2),(bif y9.1==[97,110,100]then 1 else bif y9.1==[111,114]then 2 else(0:Int),s8.2.2.2.1.2.1,s8.2.2.2.1.2.2.1,s8.2.2.2.1.2.2.2.1,s8.2.2.2.1.2.2.2.2),s8.2.2.2.2++[(⟨y11.1.1.kind,y11.1.1.name,y11.1.1.num,y11.1.1.decl,y11.1.1.list⟩:zw)]))
      else
       some (.out (s8.2.1,(s8.2.2.1.1,s8.2.2.1.2.1,s8.2.2.1.2.2.1,s8.2.2.1.2.2.2.1,s8.2.2.1.2.2.2.2),(s8.2.2.2.1.1,s8.2.2.2.1.2.1,s8.2.2.2.1.2.2.1,s8.2.2.2.1.2.2.2.1,s8.2.2.2.1.2.2.2.2),s8.2.2.2.2))) (y7.1,y7.2,(0,[],0,[],false),(0,[],0,[],false),[(⟨y6.1.1.kind,y6.1.1.name,y6.1.1.num,y6.1.1.decl,y6.1.1.list⟩:zw)]) fun o13=>
    some (((⟨o13.2.2.1.1,o13.2.2.1.2.1,o13.2.2.1.2.2.1,(⟨o13.2.2.1.2.2.2.1,[],o13.2.2.1.2.2.2.2⟩:Zx),o13.2.2.2⟩:zw),true),o13.1)
def Zm:zx->Option ((zw×Bool)×zx):=recE (qJ)
def Yr(x:List zb):Option (zw×Int):=
 za (Yl x) fun y1=>
 bif y1 != 0 then
  some ((⟨0,[],0,(⟨[],[],false⟩:Zx),[]⟩:zw),y1)
 else
  za (Zm (⟨x⟩:zx)) fun y2=>
  za (zD (!(!y2.1.2)) (uz (⟨y2.1.1.kind,y2.1.1.name,y2.1.1.num,y2.1.1.decl,y2.1.1.list⟩:zw)) (default:Int)) fun y3=>
  bif bif !y2.1.2 then true else y3 != 0 then
   some ((⟨0,[],0,(⟨[],[],false⟩:Zx),[]⟩:zw),12)
  else
   some ((⟨y2.1.1.kind,y2.1.1.name,y2.1.1.num,y2.1.1.decl,y2.1.1.list⟩:zw),0)
def Q8(x:(Bool×Str×List zb)×zq):Option ((zM×Bool)×zq):=
 Zh (X:=Bool×zq×(Int×Int×Str×Int×Str×Bool)×zM) (
   bif bif !x.1.1 then false else false then
    none
   else
    bif bif x.1.1 then x.1.2.1==[108,97,121,101,114]else false then
     za (ym (x.1.2.2,false)) fun y1=>
     some (.out (y1.2,x.2,(0,0,[],0,[],false),(⟨y1.1.kind,y1.1.selectors,y1.1.decls,(⟨y1.1.cond.kind,y1.1.cond.name,y1.1.cond.num,y1.1.cond.decl,y1.1.cond.list⟩:zw),y1.1.names,y1.1.rules⟩:zM)))
    else
     bif bif bif x.1.1 then x.1.2.1==[109,101,100,105,97]else false then false else false then
      za (tq x.1.2.2) fun y2=>
      some (.out (y2.2==0,x.2,(0,0,[],0,[],false),(⟨2,[],[],(⟨y2.1.kind,y2.1.name,y2.1.num,y2.1.decl,y2.1.list⟩:zw),[],[]⟩:zM)))
     else
      bif bif bif x.1.1 then x.1.2.1==[115,117,112,112,111,114,116,115]else false then false else false then
       za (Yr x.1.2.2) fun y3=>
       some (.out (y3.2==0,x.2,(0,0,[],0,[],false),(⟨3,[],[],(⟨y3.1.kind,y3.1.name,y3.1.num,y3.1.decl,y3.1.list⟩:zw),[],[]⟩:zM)))
      else
       some (.out (false,x.2,(0,0,[],0,[],false),(⟨0,[],[],(⟨0,[],0,(⟨[],[],false⟩:Zx),[]⟩:zw),[],[]⟩:zM)))) fun j4=>
 bif !j4.1 then
  some (((⟨0,[],[],(⟨0,[],0,(⟨[],[],false⟩:Zx),[]⟩:zw),[],[]⟩:zM),false),j4.2.1)
 else
  bif bif bif j4.2.2.2.kind==2 then true else j4.2.2.2.kind==3 then true else j4.2.2.2.kind==4 then
   none
  else
   some (((⟨j4.2.2.2.kind,j4.2.2.2.selectors,j4.2.2.2.decls,(⟨j4.2.2.2.cond.kind,j4.2.2.2.cond.name,j4.2.2.2.cond.num,j4.2.2.2.cond.decl,j4.2.2.2.cond.list⟩:zw),j4.2.2.2.names,j4.2.2.2.rules⟩:zM),true),(⟨w64 (j4.2.1.room - 1),j4.2.1.constructs⟩:zq))
def qB(Zc:(List zb×Bool)×zq->Option (List zM×zq))(x:(Bool×Str×List zb×zb)×zq):Option ((zM×Bool)×zq):=
 Zh (X:=Bool×zq×(Int×Int×Str×Int×Str×Bool)×zM) (
   bif bif !x.1.1 then true else false then
    za (Dz (x.1.2.2.1,x.1.2.2.2.list)) fun y1=>
    some (.out (y1.2,x.2,(0,0,[],0,[],false),(⟨y1.1.kind,y1.1.selectors,y1.1.decls,(⟨y1.1.cond.kind,y1.1.cond.name,y1.1.cond.num,y1.1.cond.decl,y1.1.cond.list⟩:zw),y1.1.names,y1.1.rules⟩:zM)))
   else
    bif bif x.1.1 then x.1.2.1==[108,97,121,101,114]else false then
     za (ym (x.1.2.2.1,true)) fun y2=>
     some (.out (y2.2,x.2,(0,0,[],0,[],false),(⟨y2.1.kind,y2.1.selectors,y2.1.decls,(⟨y2.1.cond.kind,y2.1.cond.name,y2.1.cond.num,y2.1.cond.decl,y2.1.cond.list⟩:zw),y2.1.names,y2.1.rules⟩:zM)))
    else
     bif bif bif x.1.1 then x.1.2.1==[109,101,100,105,97]else false then true else false then
      za (tq x.1.2.2.1) fun y3=>
      some (.out (y3.2==0,x.2,(0,0,[],0,[],false),(⟨2,[],[],(⟨y3.1.kind,y3.1.name,y3.1.num,y3.1.decl,y3.1.list⟩:zw),[],[]⟩:zM)))
     else
      bif bif bif x.1.1 then x.1.2.1==[115,117,112,112,111,114,116,115]else false then true else false then
       za (Yr x.1.2.2.1) fun y4=>
       some (.out (y4.2==0,x.2,(0,0,[],0,[],false),(⟨3,[],[],(⟨y4.1.kind,y4.1.name,y4.1.num,y4.1.decl,y4.1.list⟩:zw),[],[]⟩:zM)))
      else
       some (.out (false,x.2,(0,0,[],0,[],false),(⟨0,[],[],(⟨0,[],0,(⟨[],[],false⟩:Zx),[]⟩:zw),[],[]⟩:zM)))) fun j5=>
 bif !j5.1 then
  some (((⟨0,[],[],(⟨0,[],0,(⟨[],[],false⟩:Zx),[]⟩:zw),[],[]⟩:zM),false),j5.2.1)
 else
  Zh (X:=zq×(Int×Int×Str×Int×Str×Bool)×zM) (
    bif bif bif j5.2.2.2.kind==2 then true else j5.2.2.2.kind==3 then true else j5.2.2.2.kind==4 then
     za (Zc ((x.1.2.2.2.list,false),(⟨w64 (j5.2.1.room - 1),j5.2.1.constructs⟩:zq))) fun y6=>
     some (.out (y6.2,(j5.2.2.1.1,j5.2.2.1.2.1,j5.2.2.1.2.2.1,j5.2.2.1.2.2.2.1,j5.2.2.1.2.2.2.2.1,j5.2.2.1.2.2.2.2.2),(⟨j5.2.2.2.kind,j5.2.2.2.selectors,j5.2.2.2.decls,(⟨j5.2.2.2.cond.kind,j5.2.2.2.cond.name,j5.2.2.2.cond.num,j5.2.2.2.cond.decl,j5.2.2.2.cond.list⟩:zw),j5.2.2.2.names,y6.1⟩:zM)))
    else
     some (.out ((⟨w64 (j5.2.1.room - 1),j5.2.1.constructs⟩:zq),(j5.2.2.1.1,j5.2.2.1.2.1,j5.2.2.1.2.2.1,j5.2.2.1.2.2.2.1,j5.2.2.1.2.2.2.2.1,j5.2.2.1.2.2.2.2.2),(⟨j5.2.2.2.kind,j5.2.2.2.selectors,j5.2.2.2.decls,(⟨j5.2.2.2.cond.kind,j5.2.2.2.cond.name,j5.2.2.2.cond.num,j5.2.2.2.cond.decl,j5.2.2.2.cond.list⟩:zw),j5.2.2.2.names,j5.2.2.2.rules⟩:zM)))) fun j7=>
  some (((⟨j7.2.2.kind,j7.2.2.selectors,j7.2.2.decls,(⟨j7.2.2.cond.kind,j7.2.2.cond.name,j7.2.2.cond.num,j7.2.2.cond.decl,j7.2.2.cond.list⟩:zw),j7.2.2.names,j7.2.2.rules⟩:zM),true),j7.1)
def qh(Zc:(List zb×Bool)×zq->Option (List zM×zq))(x:(List zb×Bool)×zq):Option (List zM×zq):=
 zU (S:=List zb×zq×List zM) (X:=zq×List zM) (fun s1=>
   bif decide ((s1.1.length:Int)>0)then
    za (Xy s1.1) fun y2=>
    bif bif y2==13 then true else bif x.1.2 then bif y2==14 then true else y2==15 else false then
     need (decide (1<=(s1.1.length:Int)))<|
     some (.again (List.drop 1 s1.1,s1.2.1,s1.2.2))
    else
     Zh (X:=List zb×zq×List zM) (
       bif x.1.2 then
        some (.out (s1.1,(⟨s1.2.1.room,w64 (s1.2.1.constructs+1)⟩:zq),s1.2.2))
       else
        some (.out (s1.1,s1.2.1,s1.2.2))) fun j3=>
     Zh (X:=(List zb×Str)×zq×List zM×List UInt8) (
       bif y2==3 then
        za (geti j3.1 0) fun y4=>
        za (ZN y4.token.text) fun y5=>
        need (ZE 1 1 1)<|
        need (decide (1<=(j3.1.length:Int)))<|
        some (.out ((List.drop 1 j3.1,y5),j3.2.1,j3.2.2,[(23:UInt8),(17:UInt8)]))
       else
        some (.out ((j3.1,[]),j3.2.1,j3.2.2,[(23:UInt8)]))) fun j6=>
     za (JE (j6.1.1,j6.2.2.2)) fun y7=>
     za (Xy y7.2) fun y8=>
     bif y8==23 then
      za (geti y7.2 0) fun y9=>
      Zh (X:=List zb×zq×List zM) (
        bif decide ((y7.2.length:Int)>0)then
         need (decide (1<=(y7.2.length:Int)))<|
         some (.out (List.drop 1 y7.2,j6.2.1,j6.2.2.1))
        else
         some (.out (y7.2,j6.2.1,j6.2.2.1))) fun j10=>
      bif j10.2.1.room==0 then
       some (.again (j10.1,j10.2.1,j10.2.2))
      else
       za (qB Zc ((y2==3,j6.1.2,y7.1,y9),j10.2.1)) fun y11=>
       bif y11.1.2 then
        need (ZE j10.2.2.length 1 208)<|
        some (.again (j10.1,y11.2,j10.2.2++[(⟨y11.1.1.kind,y11.1.1.selectors,y11.1.1.decls,(⟨y11.1.1.cond.kind,y11.1.1.cond.name,y11.1.1.cond.num,y11.1.1.cond.decl,y11.1.1.cond.list⟩:zw),y11.1.1.names,y11.1.1.rules⟩:zM)]))
       else
        some (.again (j10.1,y11.2,j10.2.2))
     else
      Zh (X:=List zb×zq×List zM) (
        bif decide ((y7.2.length:Int)>0)then
         need (decide (1<=(y7.2.length:Int)))<|
         some (.out (List.drop 1 y7.2,j6.2.1,j6.2.2.1))
        else
         some (.out (y7.2,j6.2.1,j6.2.2.1))) fun j12=>
      bif j12.2.1.room==0 then
       some (.again (j12.1,j12.2.1,j12.2.2))
      else
       za (Q8 ((y2==3,j6.1.2,y7.1),j12.2.1)) fun y13=>
       bif y13.1.2 then
        need (ZE j12.2.2.length 1 208)<|
        some (.again (j12.1,y13.2,j12.2.2++[(⟨y13.1.1.kind,y13.1.1.selectors,y13.1.1.decls,(⟨y13.1.1.cond.kind,y13.1.1.cond.name,y13.1.1.cond.num,y13.1.1.cond.decl,y13.1.1.cond.list⟩:zw),y13.1.1.names,y13.1.1.rules⟩:zM)]))
       else
        some (.again (j12.1,y13.2,j12.2.2))
   else
    some (.out (s1.2.1,s1.2.2))) (x.1.1,x.2,[]) fun o14=>
 some (o14.2,o14.1)
def Zc:(List zb×Bool)×zq->Option (List zM×zq):=recE (qh)
def bJ(x:Str):Option (List zM×Int):=
 za (Pp x) fun y1=>
 bif y1.2 != 0 then
  some ([],y1.2)
 else
  za (parseF y1.1) fun y2=>
  bif y2.2 != 0 then
   some ([],y2.2)
  else
   za (Zc ((y2.1,true),(⟨64,0⟩:zq))) fun y3=>
   none
def bu(x:Str):Option (zc1×Int):=
 za (bJ x) fun y1=>
 bif y1.2 != 0 then
  some ((⟨[]⟩:zc1),y1.2)
 else
  some ((⟨y1.1⟩:zc1),0)
def TK(x:Str):Option ((List zM×Int)×zq):=
 za (Pp x) fun y1=>
 bif y1.2 != 0 then
  none
 else
  za (parseF y1.1) fun y2=>
  bif y2.2 != 0 then
   none
  else
   za (Zc ((y2.1,true),(⟨64,0⟩:zq))) fun y3=>
   some ((y3.1,0),y3.2)
def Fz(x:Str):Option (zc1×Int):=
 za (TK x) fun y1=>
 bif y1.1.2 != 0 then
  some ((⟨[]⟩:zc1),y1.1.2)
 else
  some ((⟨y1.1.1⟩:zc1),0)
def qA(x:Str):Option (zc1×Int):=
 za (Pp x) fun y1=>
 bif !(y1.2==0)then
  za (bu x) fun z1=>
  some z1
 else
  za (parseF y1.1) fun y2=>
  bif !(y2.2==0)then
   za (bu x) fun z1=>
   some z1
  else
   za (Fz x) fun z1=>
   some z1
def xQ(x:Str×List UInt8):Option Bool:=
 za (qA x.1) fun y1=>
 za (zD (!(bif y1.2 != 0 then true else(y1.1.rules.length:Int) != (x.2.length:Int))) (Er y1.1) (default:Int)) fun y2=>
 bif bif bif y1.2 != 0 then true else(y1.1.rules.length:Int) != (x.2.length:Int)then true else y2 != 0 then
  some false
 else
  zU (S:=Int) (X:=Unit) (fun s3=>
    bif decide (s3<(x.2.length:Int))then
     za (geti y1.1.rules s3) fun y4=>
     za (geti x.2 s3) fun y5=>
     bif y4.kind != (y5.toNat:Int)then
      some (.ret false)
     else
      some (.again (w64 (s3+1)))
    else
     some (.out ())) 0 fun o6=>
  some true
def Cm(x:Unit):Option Bool:=
 za (qA [97,123,98,58,99,125,32,120,32,121,59,32,100,123,101,58,102,125,32,64,109,101,100,105,97,32,112,114,105,110,116,123,103,123,125,125,32,64,108,97,121,101,114,32,112,46,113,44,32,114,59,32,64,102,111,110,116,45,102,97,99,101,123,125]) fun y1=>
 za (zD (!(y1.2 != 0)) (xQ ([97,123,98,58,99,125,32,120,32,121,59,32,100,123,101,58,102,125,32,64,109,101,100,105,97,32,112,114,105,110,116,123,103,123,125,125,32,64,108,97,121,101,114,32,112,46,113,44,32,114,59,32,64,102,111,110,116,45,102,97,99,101,123,125],[(1:UInt8),(2:UInt8),(5:UInt8)])) (default:Bool)) fun y2=>
 za (zD (!(bif y1.2 != 0 then true else !y2)) (geti y1.1.rules 1) (default:zM)) fun y3=>
 bif bif bif y1.2 != 0 then true else !y2 then true else(y3.rules.length:Int) != 1 then
  some false
 else
  za (geti y1.1.rules 2) fun y4=>
  za (zD ((y4.names.length:Int)==2) (geti y4.names 0) (default:List Str)) fun y5=>
  za (zD (bif (y4.names.length:Int)==2 then(y5.length:Int)==2 else false) (geti y4.names 0) (default:List Str)) fun y6=>
  za (zD (bif (y4.names.length:Int)==2 then(y5.length:Int)==2 else false) (geti y6 0) (default:Str)) fun y7=>
  za (zD (bif bif (y4.names.length:Int)==2 then(y5.length:Int)==2 else false then y7==[112]else false) (geti y4.names 0) (default:List Str)) fun y8=>
  za (zD (bif bif (y4.names.length:Int)==2 then(y5.length:Int)==2 else false then y7==[112]else false) (geti y8 1) (default:Str)) fun y9=>
  za (zD (bif bif bif (y4.names.length:Int)==2 then(y5.length:Int)==2 else false then y7==[112]else false then y9==[113]else false) (geti y4.names 1) (default:List Str)) fun y10=>
  za (zD (bif bif bif bif (y4.names.length:Int)==2 then(y5.length:Int)==2 else false then y7==[112]else false then y9==[113]else false then(y10.length:Int)==1 else false) (geti y4.names 1) (default:List Str)) fun y11=>
  za (zD (bif bif bif bif (y4.names.length:Int)==2 then(y5.length:Int)==2 else false then y7==[112]else false then y9==[113]else false then(y10.length:Int)==1 else false) (geti y11 0) (default:Str)) fun y12=>
  some (bif bif bif bif bif (y4.names.length:Int)==2 then(y5.length:Int)==2 else false then y7==[112]else false then y9==[113]else false then(y10.length:Int)==1 else false then y12==[114]else false)
def Ez(x:zc1):Option (Int×Int):=
 za (Il x.rules) fun y1=>
 za (Er x) fun y2=>
 bif y2 != 0 then
  some (0,y2)
 else
  some (y1.rules,0)
def VF(QP:List zM->Option Int)(x:List zM):Option Int:=
 zU (S:=Int×Int) (X:=Int) (fun s1=>
   bif decide (s1.2<(x.length:Int))then
    za (geti x s1.2) fun y2=>
    za (QP y2.rules) fun y3=>
    some (.again (w64 (s1.1+y3),w64 (s1.2+1)))
   else
    some (.out s1.1)) ((x.length:Int),0) fun o4=>
 some o4
def QP:List zM->Option Int:=recE (VF)
def ry(x:Str×Int):Option Bool:=
 zU (S:=Int) (X:=Unit) (fun s1=>
   bif decide (s1<(x.1.length:Int))then
    za (geti x.1 s1) fun y2=>
    bif (y2.toNat:Int)==0 then
     some (.ret false)
    else
     some (.again (w64 (s1+1)))
   else
    some (.out ())) 0 fun o3=>
 some (decide ((x.1.length:Int)<=x.2))
def Ir(x:Str):Option Bool:=
 za (zD (!(x==[])) (ry (x,64)) (default:Bool)) fun y1=>
 some (bif !(x==[])then y1 else false)
def tu(x:Int):Option Int:=
 bif bif decide (x>=65)then decide (x<=90)else false then
  some (wu8 (wu8 (x - 65)+97))
 else
  some x
def QC(x:Str):Option Str:=
 need (decide (x.length<=maxLen))<|
 zU (S:=Int×List UInt8) (X:=List UInt8) (fun s1=>
   bif decide (s1.1<(s1.2.length:Int))then
    need (decide (0<=s1.1)&&decide (s1.1<(s1.2.length:Int)))<|
    za s1.2[s1.1.toNat]? fun y2=>
    za (tu (y2.toNat:Int)) fun y3=>
    need (decide (0<=s1.1)&&decide (s1.1<(s1.2.length:Int)))<|
    za s1.2[s1.1.toNat]? fun y4=>
    za (QG y3) fun y5=>
    some (.again (w64 (s1.1+1),List.set s1.2 s1.1.toNat y5))
   else
    some (.out s1.2)) (0,x) fun o6=>
 some o6
def uy(x:Str):Option Bool:=
 za (Ir x) fun y1=>
 za (zD y1 (QC x) (default:Str)) fun y2=>
 some (bif y1 then x==y2 else false)
def Gv(x:zI):Option za5:=
 some (⟨x.kind,x.name,x.op,x.value,x.fold,x.anb,x.of_⟩:za5)
def uD(x:VAnb):Option Bool:=
 some (bif bif bif decide (x.a>=(-1000000000))then decide (x.a<=1000000000)else false then decide (x.b>=(-1000000000))else false then decide (x.b<=1000000000)else false)
def oD(x:Zo×Int):Option (Zo×Bool):=
 bif bif x.1.deep==3 then true else bif x.2==14 then x.1.has else false then
  some (x.1,false)
 else
  some ((⟨w64 (x.1.deep+1),bif x.1.has then true else x.2==14⟩:Zo),true)
def Fv(Zv:zm×Zo×Bool->Option Bool)(x:List zm×Zo×Int):Option Bool:=
 za (oD (x.2.1,x.2.2)) fun y1=>
 bif !y1.2 then
  some false
 else
  zU (S:=Int) (X:=Unit) (fun s2=>
    bif decide (s2<(x.1.length:Int))then
     za (geti x.1 s2) fun y3=>
     za (Zv ((⟨y3.lead,y3.parts,y3.combs⟩:zm),y1.1,x.2.2==14)) fun y4=>
     bif !y4 then
      some (.ret false)
     else
      some (.again (w64 (s2+1)))
    else
     some (.out ())) 0 fun o5=>
  some true
def Iz(Zv:zm×Zo×Bool->Option Bool)(x:zI×Zo):Option Bool:=
 za (Gv (⟨x.1.kind,x.1.name,x.1.op,x.1.value,x.1.fold,x.1.anb,x.1.of_,x.1.list⟩:zI)) fun y1=>
 Zh (X:=Bool) (
   bif x.1.kind==1 then
    some (.out (x.1.kind==1))
   else
    some (.out (x.1.kind==2))) fun j2=>
 bif j2 then
  za (Ir x.1.name) fun y3=>
  some (bif bif y3 then y1.kind==x.1.kind&&(y1.name==x.1.name&&(y1.op==0&&(y1.value==[]&&(y1.fold==false&&(y1.anb.a==0&&(y1.anb.b==0&&(y1.of_==false&&true)))))))else false then(x.1.list.length:Int)==0 else false)
 else
  bif x.1.kind==3 then
   za (uy x.1.name) fun y4=>
   za (zD (bif y4 then decide (x.1.op<=6)else false) (ry (x.1.value,400)) (default:Bool)) fun y5=>
   some (bif bif bif bif bif y4 then decide (x.1.op<=6)else false then y5 else false then bif x.1.op != 0 then true else bif x.1.value==[]then !x.1.fold else false else false then y1.kind==x.1.kind&&(y1.name==x.1.name&&(y1.op==x.1.op&&(y1.value==x.1.value&&(y1.fold==x.1.fold&&(y1.anb.a==0&&(y1.anb.b==0&&(y1.of_==false&&true)))))))else false then(x.1.list.length:Int)==0 else false)
  else
   Zh (X:=Bool) (
     bif x.1.kind==4 then
      some (.out (x.1.kind==4))
     else
      bif x.1.kind==5 then
       some (.out (x.1.kind==5))
      else
       bif x.1.kind==6 then
        some (.out (x.1.kind==6))
       else
        bif x.1.kind==7 then
         some (.out (x.1.kind==7))
        else
         some (.out (x.1.kind==8))) fun j6=>
   bif j6 then
    some (bif y1.kind==x.1.kind&&(y1.name==[]&&(y1.op==0&&(y1.value==[]&&(y1.fold==false&&(y1.anb.a==0&&(y1.anb.b==0&&(y1.of_==false&&true)))))))then(x.1.list.length:Int)==0 else false)
   else
    Zh (X:=Bool) (
      bif x.1.kind==9 then
       some (.out (x.1.kind==9))
      else
       some (.out (x.1.kind==10))) fun j7=>
    bif j7 then
     za (uD x.1.anb) fun y8=>
     bif bif !y8 then true else !(y1.kind==x.1.kind&&(y1.name==[]&&(y1.op==0&&(y1.value==[]&&(y1.fold==false&&(y1.anb.a==x.1.anb.a&&(y1.anb.b==x.1.anb.b&&(y1.of_==x.1.of_&&true))))))))then
      some false
     else
      bif !x.1.of_ then
       some ((x.1.list.length:Int)==0)
      else
       za (zD (decide ((x.1.list.length:Int)>0)) (Fv Zv (x.1.list,x.2,x.1.kind)) (default:Bool)) fun y9=>
       some (bif decide ((x.1.list.length:Int)>0)then y9 else false)
    else
     Zh (X:=Bool) (
       bif x.1.kind==11 then
        some (.out (x.1.kind==11))
       else
        some (.out (x.1.kind==12))) fun j10=>
     bif j10 then
      za (zD (y1.kind==x.1.kind&&(y1.name==[]&&(y1.op==0&&(y1.value==[]&&(y1.fold==false&&(y1.anb.a==0&&(y1.anb.b==0&&(y1.of_==false&&true)))))))) (Fv Zv (x.1.list,x.2,x.1.kind)) (default:Bool)) fun y11=>
      some (bif y1.kind==x.1.kind&&(y1.name==[]&&(y1.op==0&&(y1.value==[]&&(y1.fold==false&&(y1.anb.a==0&&(y1.anb.b==0&&(y1.of_==false&&true)))))))then y11 else false)
     else
      Zh (X:=Bool) (
        bif x.1.kind==13 then
         some (.out (x.1.kind==13))
        else
         some (.out (x.1.kind==14))) fun j12=>
      bif j12 then
       za (zD (bif y1.kind==x.1.kind&&(y1.name==[]&&(y1.op==0&&(y1.value==[]&&(y1.fold==false&&(y1.anb.a==0&&(y1.anb.b==0&&(y1.of_==false&&true)))))))then decide ((x.1.list.length:Int)>0)else false) (Fv Zv (x.1.list,x.2,x.1.kind)) (default:Bool)) fun y13=>
       some (bif bif y1.kind==x.1.kind&&(y1.name==[]&&(y1.op==0&&(y1.value==[]&&(y1.fold==false&&(y1.anb.a==0&&(y1.anb.b==0&&(y1.of_==false&&true)))))))then decide ((x.1.list.length:Int)>0)else false then y13 else false)
      else
       some false
def Xz(Zv:zm×Zo×Bool->Option Bool)(x:zO×Zo):Option Bool:=
 za (zD (bif !(x.1.tag==[])then !(x.1.tag==[42])else false) (uy x.1.tag) (default:Bool)) fun y1=>
 bif bif bif bif bif !(x.1.tag==[])then !(x.1.tag==[42])else false then !y1 else false then true else bif x.1.tag==[]then(x.1.simples.length:Int)==0 else false then true else decide ((x.1.simples.length:Int)>64)then
  some false
 else
  zU (S:=Int) (X:=Unit) (fun s2=>
    bif decide (s2<(x.1.simples.length:Int))then
     za (geti x.1.simples s2) fun y3=>
     za (Iz Zv ((⟨y3.kind,y3.name,y3.op,y3.value,y3.fold,y3.anb,y3.of_,y3.list⟩:zI),x.2)) fun y4=>
     bif !y4 then
      some (.ret false)
     else
      some (.again (w64 (s2+1)))
    else
     some (.out ())) 0 fun o5=>
  some true
def fF(Zv:zm×Zo×Bool->Option Bool)(x:zm×Zo×Bool):Option Bool:=
 bif bif bif bif bif !((x.1.lead != 0)==x.2.2)then true else decide (x.1.lead>4)then true else(x.1.parts.length:Int)==0 then true else decide ((x.1.parts.length:Int)>64)then true else(x.1.combs.length:Int) != w64 ((x.1.parts.length:Int) - 1)then
  some false
 else
  zU (S:=Int) (X:=Unit) (fun s1=>
    bif decide (s1<(x.1.parts.length:Int))then
     za (geti x.1.parts s1) fun y2=>
     za (Xz Zv ((⟨y2.tag,y2.simples⟩:zO),x.2.1)) fun y3=>
     za (zD (decide (s1>0)&& !(!y3)) (geti x.1.combs (w64 (s1 - 1))) (default:UInt8)) fun y4=>
     za (zD (!(decide ((y4.toNat:Int)<1))&&(decide (s1>0)&& !(!y3))) (geti x.1.combs (w64 (s1 - 1))) (default:UInt8)) fun y5=>
     bif bif !y3 then true else bif decide (s1>0)then bif decide ((y4.toNat:Int)<1)then true else decide ((y5.toNat:Int)>4)else false then
      some (.ret false)
     else
      some (.again (w64 (s1+1)))
    else
     some (.out ())) 0 fun o6=>
  some true
def Zv:zm×Zo×Bool->Option Bool:=recE (fF)
def VD(x:List zm):Option Bool:=
 zU (S:=Int) (X:=Unit) (fun s1=>
   bif decide (s1<(x.length:Int))then
    za (geti x s1) fun y2=>
    za (Zv ((⟨y2.lead,y2.parts,y2.combs⟩:zm),(⟨0,false⟩:Zo),false)) fun y3=>
    bif !y3 then
     some (.ret false)
    else
     some (.again (w64 (s1+1)))
   else
    some (.out ())) 0 fun o4=>
 some (decide ((x.length:Int)>0))
def BG(Pn:List zm->Option Int)(x:List zm):Option Int:=
 zU (S:=Int×Int) (X:=Int) (fun s1=>
   bif decide (s1.2<(x.length:Int))then
    zU (S:=Int×Int) (X:=Int) (fun s2=>
      za (geti x s1.2) fun y3=>
      bif decide (s2.2<(y3.parts.length:Int))then
       za (geti x s1.2) fun y4=>
       za (geti y4.parts s2.2) fun y5=>
       zU (S:=Int×Int) (X:=Int) (fun s6=>
         bif decide (s6.2<(y5.simples.length:Int))then
          za (geti y5.simples s6.2) fun y7=>
          za (Pn y7.list) fun y8=>
          some (.again (w64 (s6.1+y8),w64 (s6.2+1)))
         else
          some (.out s6.1)) (s2.1,0) fun o9=>
       some (.again (o9,w64 (s2.2+1)))
      else
       some (.out s2.1)) (s1.1,0) fun o10=>
    some (.again (o10,w64 (s1.2+1)))
   else
    some (.out s1.1)) ((x.length:Int),0) fun o11=>
 some o11
def Pn:List zm->Option Int:=recE (BG)
def sD(x:List zm):Option Int:=
 za (VD x) fun y1=>
 bif !y1 then
  some 8
 else
  za (Pn x) fun y2=>
  bif decide (y2>64)then
   some 4
  else
   some 0
def Jz(Xl:List zb×List zb->Option Bool)(x:List zb×List zb):Option Bool:=
 bif (x.1.length:Int) != (x.2.length:Int)then
  some false
 else
  zU (S:=Int) (X:=Unit) (fun s1=>
    bif decide (s1<(x.1.length:Int))then
     za (geti x.1 s1) fun y2=>
     za (geti x.2 s1) fun y3=>
     za (zD (!(!(y2.token.kind==y3.token.kind&&(y2.token.text==y3.token.text&&(y2.token.num==y3.token.num&&(y2.token.unit==y3.token.unit&&(y2.token.flag==y3.token.flag&&true))))))) (geti x.1 s1) (default:zb)) fun y4=>
     za (zD (!(!(y2.token.kind==y3.token.kind&&(y2.token.text==y3.token.text&&(y2.token.num==y3.token.num&&(y2.token.unit==y3.token.unit&&(y2.token.flag==y3.token.flag&&true))))))) (geti x.2 s1) (default:zb)) fun y5=>
     za (zD (!(!(y2.token.kind==y3.token.kind&&(y2.token.text==y3.token.text&&(y2.token.num==y3.token.num&&(y2.token.unit==y3.token.unit&&(y2.token.flag==y3.token.flag&&true))))))) (Xl (y4.list,y5.list)) (default:Bool)) fun y6=>
     bif bif !(y2.token.kind==y3.token.kind&&(y2.token.text==y3.token.text&&(y2.token.num==y3.token.num&&(y2.token.unit==y3.token.unit&&(y2.token.flag==y3.token.flag&&true)))))then true else !y6 then
      some (.ret false)
     else
      some (.again (w64 (s1+1)))
    else
     some (.out ())) 0 fun o7=>
  some true
def Xl:List zb×List zb->Option Bool:=recE (Jz)
def Dp(x:Zx×Zx):Option Bool:=
 za (zD (bif x.1.name==x.2.name then x.1.important==x.2.important else false) (Xl (x.1.value,x.2.value)) (default:Bool)) fun y1=>
 some (bif bif x.1.name==x.2.name then x.1.important==x.2.important else false then y1 else false)
def Hz(Pk:zw×zw->Option Bool)(x:zw×zw):Option Bool:=
 za (zD (!(bif bif x.1.kind != x.2.kind then true else !(x.1.name==x.2.name)then true else x.1.num != x.2.num)) (Dp (x.1.decl,x.2.decl)) (default:Bool)) fun y1=>
 bif bif bif bif bif x.1.kind != x.2.kind then true else !(x.1.name==x.2.name)then true else x.1.num != x.2.num then true else !y1 then true else(x.1.list.length:Int) != (x.2.list.length:Int)then
  some false
 else
  zU (S:=Int) (X:=Unit) (fun s2=>
    bif decide (s2<(x.1.list.length:Int))then
     za (geti x.1.list s2) fun y3=>
     za (geti x.2.list s2) fun y4=>
     za (Pk ((⟨y3.kind,y3.name,y3.num,y3.decl,y3.list⟩:zw),(⟨y4.kind,y4.name,y4.num,y4.decl,y4.list⟩:zw))) fun y5=>
     bif !y5 then
      some (.ret false)
     else
      some (.again (w64 (s2+1)))
    else
     some (.out ())) 0 fun o6=>
  some true
def Pk:zw×zw->Option Bool:=recE (Hz)
def cu(x:zw):Option Bool:=
 za (Pk ((⟨x.kind,x.name,x.num,x.decl,x.list⟩:zw),(⟨0,[],0,(⟨[],[],false⟩:Zx),[]⟩:zw))) fun y1=>
 some y1
def vD(x:Str):Option Bool:=
 bif bif decide ((x.length:Int)<1)then true else decide ((x.length:Int)>64)then
  some false
 else
  zU (S:=Int) (X:=Unit) (fun s1=>
    bif decide (s1<(x.length:Int))then
     za (geti x s1) fun y2=>
     bif (y2.toNat:Int)==0 then
      some (.ret false)
     else
      some (.again (w64 (s1+1)))
    else
     some (.out ())) 0 fun o3=>
  need (decide (2<=(x.length:Int))|| !(decide ((x.length:Int)>=2)))<|
  bif bif decide ((x.length:Int)>=2)then List.take 2 x==[45,45]else false then
   some (decide ((x.length:Int)>2))
  else
   za (QC x) fun y4=>
   some (x==y4)
def Jv(x:Int):Option Int:=
 bif x==19 then
  some 20
 else
  Zh (X:=Bool) (
    bif x==21 then
     some (.out (x==21))
    else
     some (.out (x==2))) fun j1=>
  bif j1 then
   some 22
  else
   bif x==23 then
    some 24
   else
    some 0
def UE(Rk:List zb->Option Int)(x:List zb):Option Int:=
 zU (S:=Int×Int) (X:=Int) (fun s1=>
   bif decide (s1.2<(x.length:Int))then
    Zh (X:=Int×Int) (
      za (geti x s1.2) fun y2=>
      za (Jv y2.token.kind) fun y3=>
      bif y3 != 0 then
       za (geti x s1.2) fun y4=>
       za (Rk y4.list) fun y5=>
       some (.out (if w64 (1+y5)>s1.1 then w64 (1+y5)else s1.1,s1.2))
      else
       some (.out (s1.1,s1.2))) fun j6=>
    some (.again (j6.1,w64 (j6.2+1)))
   else
    some (.out s1.1)) (0,0) fun o7=>
 some o7
def Rk:List zb->Option Int:=recE (UE)
def EG(Qr:List zb->Option (List zf))(x:List zb):Option (List zf):=
 zU (S:=Int×List zf) (X:=List zf) (fun s1=>
   bif decide (s1.1<(x.length:Int))then
    Zh (X:=Int×List zf) (
      za (geti x s1.1) fun y2=>
      need (ZE s1.2.length 1 56)<|
      za (geti x s1.1) fun y3=>
      za (Jv y3.token.kind) fun y4=>
      bif y4 != 0 then
       za (geti x s1.1) fun y5=>
       za (Qr y5.list) fun y6=>
       need (ZE (s1.2++[y2.token]).length y6.length 56)<|
       need (ZE (s1.2++[y2.token]++y6).length 1 56)<|
       some (.out (s1.1,s1.2++[y2.token]++y6++[(⟨y4,[],0,[],false⟩:zf)]))
      else
       some (.out (s1.1,s1.2++[y2.token]))) fun j7=>
    some (.again (w64 (j7.1+1),j7.2))
   else
    some (.out s1.2)) (0,[]) fun o8=>
 some o8
def Qr:List zb->Option (List zf):=recE (EG)
def CG(Rn:List zb×Int->Option Bool)(x:List zb×Int):Option Bool:=
 zU (S:=Int) (X:=Unit) (fun s1=>
   bif decide (s1<(x.1.length:Int))then
    za (geti x.1 s1) fun y2=>
    za (Jv y2.token.kind) fun y3=>
    za (zD (y3==0) (geti x.1 s1) (default:zb)) fun y4=>
    za (zD (x.2 != 0&& !(bif y3==0 then decide ((y4.list.length:Int)>0)else false)) (geti x.1 s1) (default:zb)) fun y5=>
    za (zD (y3 != 0&& !(bif bif y3==0 then decide ((y4.list.length:Int)>0)else false then true else bif x.2 != 0 then y5.token.kind==x.2 else false)) (geti x.1 s1) (default:zb)) fun y6=>
    za (zD (y3 != 0&& !(bif bif y3==0 then decide ((y4.list.length:Int)>0)else false then true else bif x.2 != 0 then y5.token.kind==x.2 else false)) (Rn (y6.list,y3)) (default:Bool)) fun y7=>
    bif bif bif bif y3==0 then decide ((y4.list.length:Int)>0)else false then true else bif x.2 != 0 then y5.token.kind==x.2 else false then true else bif y3 != 0 then !y7 else false then
     some (.ret false)
    else
     some (.again (w64 (s1+1)))
   else
    some (.out ())) 0 fun o8=>
 some true
def Rn:List zb×Int->Option Bool:=recE (CG)
def wD(x:List zb):Option Int:=
 za (Rk x) fun y1=>
 bif decide (y1>16)then
  some 20
 else
  za (Qr x) fun y2=>
  bif decide ((y2.length:Int)>1500)then
   some 4
  else
   za (Rn (x,0)) fun y3=>
   bif !y3 then
    some 8
   else
    some 0
def Kr(x:Str):Option Bool:=
 zU (S:=Int) (X:=Unit) (fun s1=>
   bif decide (s1<(x.length:Int))then
    za (geti x s1) fun y2=>
    bif (y2.toNat:Int)==0 then
     some (.ret false)
    else
     some (.again (w64 (s1+1)))
   else
    some (.out ())) 0 fun o3=>
 some true
def Qc(x:Int):Option Bool:=
 some (bif decide (x>=48)then decide (x<=57)else false)
def YD(x:Str):Option Bool:=
 bif x==[]then
  some false
 else
  za (geti x 0) fun y1=>
  za (Qc (y1.toNat:Int)) fun y2=>
  za (zD (!(bif y2 then true else x==[45])) (geti x 0) 0) fun y3=>
  za (zD ((y3.toNat:Int)==45&& !(bif y2 then true else x==[45])) (geti x 1) 0) fun y4=>
  za (zD ((y3.toNat:Int)==45&& !(bif y2 then true else x==[45])) (Qc (y4.toNat:Int)) (default:Bool)) fun y5=>
  some (bif bif y2 then true else x==[45]then true else bif (y3.toNat:Int)==45 then y5 else false)
def wy(x:Int):Option Bool:=
 some (bif bif x==10 then true else x==9 then true else x==32)
def qw(x:Str×Int):Option Int:=
 bif decide (x.2<(x.1.length:Int))then
  za (geti x.1 x.2) fun y1=>
  some (y1.toNat:Int)
 else
  some 0
def Rp(x:Str×Int):Option Int:=
 zU (S:=Int) (X:=Int) (fun s1=>
   za (qw (x.1,s1)) fun y2=>
   za (wy y2) fun y3=>
   bif y3 then
    some (.again (w64 (s1+1)))
   else
    some (.out s1)) x.2 fun o4=>
 some o4
def jJ(x:Unit):Option Str:=
 some [(239:UInt8),(191:UInt8),(189:UInt8)]
def DD(x:Int):Option Int:=
 za (Qc x) fun y1=>
 bif y1 then
  some (w64 (wu8 (x - 48)))
 else
  za (tu x) fun y2=>
  bif bif decide (y2>=97)then decide (y2<=102)else false then
   some (w64 (w64 (wu8 (y2 - 97))+10))
  else
   some (-1)
def lQ(x:Int):Option Str:=
 bif bif bif x==0 then true else bif decide (x>=55296)then decide (x<=57343)else false then true else decide (x>1114111)then
  za (jJ ()) fun y1=>
  some y1
 else
  bif decide (x<128)then
   za (QG (wu8 x)) fun y2=>
   some [y2]
  else
   bif decide (x<2048)then
    za (QG (wu8 (w64 (192+w64 (Int.tdiv x 64))))) fun y3=>
    za (QG (wu8 (w64 (128+Int.tmod x 64)))) fun y4=>
    some [y3,y4]
   else
    bif decide (x<65536)then
     za (QG (wu8 (w64 (224+w64 (Int.tdiv x 4096))))) fun y5=>
     za (QG (wu8 (w64 (128+Int.tmod (w64 (Int.tdiv x 64)) 64)))) fun y6=>
     za (QG (wu8 (w64 (128+Int.tmod x 64)))) fun y7=>
     some [y5,y6,y7]
    else
     za (QG (wu8 (w64 (240+w64 (Int.tdiv x 262144))))) fun y8=>
     za (QG (wu8 (w64 (128+Int.tmod (w64 (Int.tdiv x 4096)) 64)))) fun y9=>
     za (QG (wu8 (w64 (128+Int.tmod (w64 (Int.tdiv x 64)) 64)))) fun y10=>
     za (QG (wu8 (w64 (128+Int.tmod x 64)))) fun y11=>
     some [y8,y9,y10,y11]
def Gp(x:Str×Int):Option (Str×Int):=
 bif decide (w64 (x.2+1)>=(x.1.length:Int))then
  za (jJ ()) fun y1=>
  some (y1,w64 (x.2+1))
 else
  za (geti x.1 (w64 (x.2+1))) fun y2=>
  za (DD (y2.toNat:Int)) fun y3=>
  bif decide (y3<0)then
   need (decide (0<=w64 (x.2+1))&&(decide (w64 (x.2+1)<=w64 (w64 (x.2+1)+1))&&decide (w64 (w64 (x.2+1)+1)<=(x.1.length:Int))))<|
   some (List.drop (w64 (x.2+1)).toNat (List.take (w64 (w64 (x.2+1)+1)).toNat x.1),w64 (w64 (x.2+1)+1))
  else
   zU (S:=Int×Int) (X:=Int×Int) (fun s4=>
     za (zD (bif decide (s4.2<(x.1.length:Int))then decide (s4.2<w64 (w64 (x.2+1)+6))else false) (geti x.1 s4.2) 0) fun y5=>
     za (zD (bif decide (s4.2<(x.1.length:Int))then decide (s4.2<w64 (w64 (x.2+1)+6))else false) (DD (y5.toNat:Int)) (default:Int)) fun y6=>
     bif bif bif decide (s4.2<(x.1.length:Int))then decide (s4.2<w64 (w64 (x.2+1)+6))else false then decide (y6>=0)else false then
      za (geti x.1 s4.2) fun y7=>
      za (DD (y7.toNat:Int)) fun y8=>
      some (.again (w64 (w64 (16*s4.1)+y8),w64 (s4.2+1)))
     else
      some (.out (s4.1,s4.2))) (0,w64 (x.2+1)) fun o9=>
   Zh (X:=Int) (
     za (qw (x.1,o9.2)) fun y10=>
     za (wy y10) fun y11=>
     bif y11 then
      some (.out (w64 (o9.2+1)))
     else
      some (.out o9.2)) fun j12=>
   za (lQ o9.1) fun y13=>
   some (y13,j12)
def Kz(x:Str×Int):Option (zf×Int):=
 za (geti x.1 x.2) fun y1=>
 zU (S:=Int×zf×zf) (X:=Int×zf×zf) (fun s2=>
   bif decide (s2.1<(x.1.length:Int))then
    za (geti x.1 s2.1) fun y3=>
    bif (y3.toNat:Int)==(y1.toNat:Int)then
     some (.ret (s2.2.2,w64 (s2.1+1)))
    else
     za (geti x.1 s2.1) fun y4=>
     bif (y4.toNat:Int)==10 then
      some (.ret ((⟨6,[],0,[],false⟩:zf),s2.1))
     else
      za (geti x.1 s2.1) fun y5=>
      bif bif (y5.toNat:Int)==92 then w64 (s2.1+1)==(x.1.length:Int)else false then
       some (.again (w64 (s2.1+1),s2.2.1,s2.2.2))
      else
       za (geti x.1 s2.1) fun y6=>
       za (zD ((y6.toNat:Int)==92) (geti x.1 (w64 (s2.1+1))) 0) fun y7=>
       bif bif (y6.toNat:Int)==92 then(y7.toNat:Int)==10 else false then
        some (.again (w64 (s2.1+2),s2.2.1,s2.2.2))
       else
        za (geti x.1 s2.1) fun y8=>
        bif (y8.toNat:Int)==92 then
         za (Gp (x.1,s2.1)) fun y9=>
         need (Ph s2.2.2.text.length y9.1.length)<|
         some (.again (y9.2,s2.2.1,(⟨s2.2.2.kind,s2.2.2.text++y9.1,s2.2.2.num,s2.2.2.unit,s2.2.2.flag⟩:zf)))
        else
         need (decide (0<=s2.1)&&(decide (s2.1<=w64 (s2.1+1))&&decide (w64 (s2.1+1)<=(x.1.length:Int))))<|
         need (Ph s2.2.2.text.length (List.drop s2.1.toNat (List.take (w64 (s2.1+1)).toNat x.1)).length)<|
         some (.again (w64 (s2.1+1),s2.2.1,(⟨s2.2.2.kind,s2.2.2.text++List.drop s2.1.toNat (List.take (w64 (s2.1+1)).toNat x.1),s2.2.2.num,s2.2.2.unit,s2.2.2.flag⟩:zf)))
   else
    some (.out (s2.1,s2.2.1,s2.2.2))) (w64 (x.2+1),(⟨0,[],0,[],false⟩:zf),(⟨5,[],0,[],false⟩:zf)) fun o10=>
 some (o10.2.2,o10.1)
def VE(x:Int):Option Bool:=
 za (tu x) fun y1=>
 some (bif bif bif decide (y1>=97)then decide (y1<=122)else false then true else x==95 then true else decide (x>=128))
def NK(x:Int):Option Bool:=
 za (VE x) fun y1=>
 za (zD (!y1) (Qc x) (default:Bool)) fun y2=>
 some (bif bif y1 then true else y2 then true else x==45)
def Nr(x:Str×Int):Option Bool:=
 za (qw (x.1,x.2)) fun y1=>
 za (zD (y1==92) (qw (x.1,w64 (x.2+1))) (default:Int)) fun y2=>
 some (bif y1==92 then y2 != 10 else false)
def Ep(x:Str×Int):Option (Str×Int):=
 zU (S:=Int×Str) (X:=Unit) (fun s1=>
   za (zD (decide (s1.1<(x.1.length:Int))) (geti x.1 s1.1) 0) fun y2=>
   za (zD (decide (s1.1<(x.1.length:Int))) (NK (y2.toNat:Int)) (default:Bool)) fun y3=>
   bif bif decide (s1.1<(x.1.length:Int))then y3 else false then
    need (decide (0<=s1.1)&&(decide (s1.1<=w64 (s1.1+1))&&decide (w64 (s1.1+1)<=(x.1.length:Int))))<|
    need (Ph s1.2.length (List.drop s1.1.toNat (List.take (w64 (s1.1+1)).toNat x.1)).length)<|
    some (.again (w64 (s1.1+1),s1.2++List.drop s1.1.toNat (List.take (w64 (s1.1+1)).toNat x.1)))
   else
    za (zD (decide (s1.1<(x.1.length:Int))) (Nr (x.1,s1.1)) (default:Bool)) fun y4=>
    bif bif decide (s1.1<(x.1.length:Int))then y4 else false then
     za (Gp (x.1,s1.1)) fun y5=>
     need (Ph s1.2.length y5.1.length)<|
     some (.again (y5.2,s1.2++y5.1))
    else
     some (.ret (s1.2,s1.1))) (x.2,[]) fun o6=>
 none
def Nz(x:Str×Int):Option Bool:=
 za (qw (x.1,x.2)) fun y1=>
 bif y1==45 then
  za (qw (x.1,w64 (x.2+1))) fun y2=>
  za (VE y2) fun y3=>
  za (zD (!y3) (qw (x.1,w64 (x.2+1))) (default:Int)) fun y4=>
  za (zD (!(bif y3 then true else y4==45)) (Nr (x.1,w64 (x.2+1))) (default:Bool)) fun y5=>
  some (bif bif y3 then true else y4==45 then true else y5)
 else
  za (qw (x.1,x.2)) fun y6=>
  za (VE y6) fun y7=>
  za (zD (!y7) (Nr (x.1,x.2)) (default:Bool)) fun y8=>
  some (bif y7 then true else y8)
def VS(x:Str×Int):Option Bool:=
 Zh (X:=Int) (
   za (qw (x.1,x.2)) fun y1=>
   bif bif y1==43 then true else y1==45 then
    some (.out (w64 (x.2+1)))
   else
    some (.out x.2)) fun j2=>
 Zh (X:=Int) (
   za (qw (x.1,j2)) fun y3=>
   bif y3==46 then
    some (.out (w64 (j2+1)))
   else
    some (.out j2)) fun j4=>
 za (qw (x.1,j4)) fun y5=>
 za (Qc y5) fun y6=>
 some y6
def Mr(x:Str×Int):Option Int:=
 zU (S:=Int) (X:=Int) (fun s1=>
   za (qw (x.1,s1)) fun y2=>
   za (Qc y2) fun y3=>
   bif y3 then
    some (.again (w64 (s1+1)))
   else
    some (.out s1)) x.2 fun o4=>
 some o4
def oz(x:Str×Int):Option (Int×Bool):=
 Zh (X:=Int) (
   za (qw (x.1,x.2)) fun y1=>
   bif bif y1==43 then true else y1==45 then
    some (.out (w64 (x.2+1)))
   else
    some (.out x.2)) fun j2=>
 za (Mr (x.1,j2)) fun y3=>
 Zh (X:=Int×Bool) (
   za (qw (x.1,y3)) fun y4=>
   za (zD (y4==46) (qw (x.1,w64 (y3+1))) (default:Int)) fun y5=>
   za (zD (y4==46) (Qc y5) (default:Bool)) fun y6=>
   bif bif y4==46 then y6 else false then
    za (Mr (x.1,w64 (y3+1))) fun y7=>
    some (.out (y7,false))
   else
    some (.out (y3,true))) fun j8=>
 Zh (X:=Int×Bool) (
   za (qw (x.1,j8.1)) fun y9=>
   bif bif y9==101 then true else y9==69 then
    Zh (X:=Int×Bool×Int) (
      za (qw (x.1,w64 (j8.1+1))) fun y10=>
      bif bif y10==43 then true else y10==45 then
       some (.out (j8.1,j8.2,w64 (w64 (j8.1+1)+1)))
      else
       some (.out (j8.1,j8.2,w64 (j8.1+1)))) fun j11=>
    za (qw (x.1,j11.2.2)) fun y12=>
    za (Qc y12) fun y13=>
    bif y13 then
     za (Mr (x.1,j11.2.2)) fun y14=>
     some (.out (y14,false))
    else
     some (.out (j11.1,j11.2.1))
   else
    some (.out (j8.1,j8.2))) fun j15=>
 some (j15.1,j15.2)
def wz(x:Str):Option Int:=
 za (geti x 0) fun y1=>
 Zh (X:=Str×Int×Int) (
   za (geti x 0) fun y2=>
   bif bif (y2.toNat:Int)==43 then true else(y1.toNat:Int)==45 then
    some (.out ([],3,1))
   else
    some (.out ([],3,0))) fun j3=>
 zU (S:=Str×Int) (X:=Str×Int) (fun s4=>
   za (qw (x,s4.2)) fun y5=>
   za (Qc y5) fun y6=>
   bif y6 then
    need (decide (0<=s4.2)&&(decide (s4.2<=w64 (s4.2+1))&&decide (w64 (s4.2+1)<=(x.length:Int))))<|
    need (Ph s4.1.length (List.drop s4.2.toNat (List.take (w64 (s4.2+1)).toNat x)).length)<|
    some (.again (s4.1++List.drop s4.2.toNat (List.take (w64 (s4.2+1)).toNat x),w64 (s4.2+1)))
   else
    some (.out (s4.1,s4.2))) (j3.1,j3.2.2) fun o7=>
 Zh (X:=Str×Int×Int) (
   za (qw (x,o7.2)) fun y8=>
   bif y8==46 then
    zU (S:=Str×Int×Int) (X:=Str×Int×Int) (fun s9=>
      za (qw (x,s9.2.2)) fun y10=>
      za (Qc y10) fun y11=>
      bif y11 then
       need (decide (0<=s9.2.2)&&(decide (s9.2.2<=w64 (s9.2.2+1))&&decide (w64 (s9.2.2+1)<=(x.length:Int))))<|
       need (Ph s9.1.length (List.drop s9.2.2.toNat (List.take (w64 (s9.2.2+1)).toNat x)).length)<|
       some (.again (s9.1++List.drop s9.2.2.toNat (List.take (w64 (s9.2.2+1)).toNat x),w64 (s9.2.1 - 1),w64 (s9.2.2+1)))
      else
       some (.out (s9.1,s9.2.1,s9.2.2))) (o7.1,j3.2.1,w64 (o7.2+1)) fun o12=>
    some (.out (o12.1,o12.2.1,o12.2.2))
   else
    some (.out (o7.1,j3.2.1,o7.2))) fun j13=>
 Zh (X:=Int) (
   bif decide (j13.2.2<(x.length:Int))then
    za (geti x (w64 (j13.2.2+1))) fun y14=>
    Zh (X:=Int×Int) (
      za (geti x (w64 (j13.2.2+1))) fun y15=>
      bif bif (y15.toNat:Int)==43 then true else(y14.toNat:Int)==45 then
       some (.out (j13.2.1,w64 (w64 (j13.2.2+1)+1)))
      else
       some (.out (j13.2.1,w64 (j13.2.2+1)))) fun j16=>
    zU (S:=Int×Int) (X:=Int) (fun s17=>
      bif decide (s17.1<(x.length:Int))then
       za (geti x s17.1) fun y18=>
       some (.again (w64 (s17.1+1),if w64 (w64 (10*s17.2)+w64 (wu8 ((y18.toNat:Int) - 48)))<10000 then w64 (w64 (10*s17.2)+w64 (wu8 ((y18.toNat:Int) - 48)))else 10000))
      else
       some (.out s17.2)) (j16.2,0) fun o19=>
    Zh (X:=Int×Int) (
      bif (y14.toNat:Int)==45 then
       some (.out (j16.1,w64 (0 - o19)))
      else
       some (.out (j16.1,o19))) fun j20=>
    some (.out (w64 (j20.1+j20.2)))
   else
    some (.out j13.2.1)) fun j21=>
 zU (S:=Int×Int) (X:=Int) (fun s22=>
   bif bif decide (s22.2<w64 ((j13.1.length:Int)+j21))then decide (s22.2<(j13.1.length:Int))else false then
    za (geti j13.1 s22.2) fun y23=>
    some (.again (if w64 (w64 (10*s22.1)+w64 (wu8 ((y23.toNat:Int) - 48)))<1000000000000 then w64 (w64 (10*s22.1)+w64 (wu8 ((y23.toNat:Int) - 48)))else 1000000000000,w64 (s22.2+1)))
   else
    some (.out s22.1)) (0,0) fun o24=>
 zU (S:=Int×Int) (X:=Int) (fun s25=>
   bif bif bif decide (s25.1>0)then decide (s25.2>0)else false then decide (s25.2<1000000000000)else false then
    some (.again (w64 (s25.1 - 1),if w64 (10*s25.2)<1000000000000 then w64 (10*s25.2)else 1000000000000))
   else
    some (.out s25.2)) (j21,o24) fun o26=>
 bif (y1.toNat:Int)==45 then
  some (w64 (0 - o26))
 else
  some o26
def Uz(x:Str×Int):Option (zf×Int):=
 za (oz (x.1,x.2)) fun y1=>
 need (decide (0<=x.2)&&(decide (x.2<=y1.1)&&decide (y1.1<=(x.1.length:Int))))<|
 za (wz (List.drop x.2.toNat (List.take y1.1.toNat x.1))) fun y2=>
 Zh (X:=Int×zf×zf) (
   za (Nz (x.1,y1.1)) fun y3=>
   bif y3 then
    za (Ep (x.1,y1.1)) fun y4=>
    some (.out (y4.2,(⟨0,[],0,[],false⟩:zf),(⟨12,[],y2,y4.1,y1.2⟩:zf)))
   else
    za (qw (x.1,y1.1)) fun y5=>
    bif y5==37 then
     some (.out (w64 (y1.1+1),(⟨0,[],0,[],false⟩:zf),(⟨11,[],y2,[],false⟩:zf)))
    else
     some (.out (y1.1,(⟨0,[],0,[],false⟩:zf),(⟨10,[],y2,[],y1.2⟩:zf)))) fun j6=>
 some (j6.2.2,j6.1)
def sI(x:Str×Int×Str):Option Bool:=
 need (decide (0<=x.2.1)&&(decide (x.2.1<=w64 (x.2.1+(x.2.2.length:Int)))&&decide (w64 (x.2.1+(x.2.2.length:Int))<=(x.1.length:Int)))|| !(decide (w64 ((x.1.length:Int) - x.2.1)>=(x.2.2.length:Int))))<|
 some (bif decide (w64 ((x.1.length:Int) - x.2.1)>=(x.2.2.length:Int))then List.drop x.2.1.toNat (List.take (w64 (x.2.1+(x.2.2.length:Int))).toNat x.1)==x.2.2 else false)
def ul(x:Str×Str):Option Bool:=
 za (QC x.1) fun y1=>
 za (QC x.2) fun y2=>
 some (y1==y2)
def Wu(x:Str×Int):Option (zf×Int):=
 zU (S:=Int) (X:=Int) (fun s1=>
   za (zD (decide (s1<(x.1.length:Int))) (geti x.1 s1) 0) fun y2=>
   bif bif decide (s1<(x.1.length:Int))then(y2.toNat:Int) != 41 else false then
    za (Nr (x.1,s1)) fun y3=>
    bif y3 then
     za (Gp (x.1,s1)) fun y4=>
     some (.again y4.2)
    else
     some (.again (w64 (s1+1)))
   else
    some (.out s1)) x.2 fun o5=>
 some ((⟨8,[],0,[],false⟩:zf),if w64 (o5+1)<(x.1.length:Int)then w64 (o5+1)else(x.1.length:Int))
def vT(x:Int):Option Bool:=
 some (bif bif bif decide (x<=8)then true else x==11 then true else bif decide (x>=14)then decide (x<=31)else false then true else x==127)
def Oy(x:Str×Int):Option (zf×Int):=
 za (Rp (x.1,x.2)) fun y1=>
 zU (S:=Int×zf×zf) (X:=Int×zf×zf) (fun s2=>
   za (zD (decide (s2.1<(x.1.length:Int))) (geti x.1 s2.1) 0) fun y3=>
   bif bif decide (s2.1<(x.1.length:Int))then(y3.toNat:Int) != 41 else false then
    za (geti x.1 s2.1) fun y4=>
    za (wy (y4.toNat:Int)) fun y5=>
    bif y5 then
     za (Rp (x.1,s2.1)) fun y6=>
     za (zD (decide (y6<(x.1.length:Int))) (geti x.1 y6) 0) fun y7=>
     bif bif decide (y6<(x.1.length:Int))then(y7.toNat:Int) != 41 else false then
      za (Wu (x.1,y6)) fun y8=>
      some (.ret (y8.1,y8.2))
     else
      some (.again (y6,s2.2.1,s2.2.2))
    else
     za (zD (!(bif bif (y4.toNat:Int)==34 then true else(y4.toNat:Int)==39 then true else(y4.toNat:Int)==40)) (vT (y4.toNat:Int)) (default:Bool)) fun y9=>
     za (zD ((y4.toNat:Int)==92&& !(bif bif bif (y4.toNat:Int)==34 then true else(y4.toNat:Int)==39 then true else(y4.toNat:Int)==40 then true else y9)) (Nr (x.1,s2.1)) (default:Bool)) fun y10=>
     bif bif bif bif bif (y4.toNat:Int)==34 then true else(y4.toNat:Int)==39 then true else(y4.toNat:Int)==40 then true else y9 then true else bif (y4.toNat:Int)==92 then !y10 else false then
      za (Wu (x.1,s2.1)) fun y11=>
      some (.ret (y11.1,y11.2))
     else
      bif (y4.toNat:Int)==92 then
       za (Gp (x.1,s2.1)) fun y12=>
       need (Ph s2.2.2.text.length y12.1.length)<|
       some (.again (y12.2,s2.2.1,(⟨s2.2.2.kind,s2.2.2.text++y12.1,s2.2.2.num,s2.2.2.unit,s2.2.2.flag⟩:zf)))
      else
       need (decide (0<=s2.1)&&(decide (s2.1<=w64 (s2.1+1))&&decide (w64 (s2.1+1)<=(x.1.length:Int))))<|
       need (Ph s2.2.2.text.length (List.drop s2.1.toNat (List.take (w64 (s2.1+1)).toNat x.1)).length)<|
       some (.again (w64 (s2.1+1),s2.2.1,(⟨s2.2.2.kind,s2.2.2.text++List.drop s2.1.toNat (List.take (w64 (s2.1+1)).toNat x.1),s2.2.2.num,s2.2.2.unit,s2.2.2.flag⟩:zf)))
   else
    some (.out (s2.1,s2.2.1,s2.2.2))) (y1,(⟨0,[],0,[],false⟩:zf),(⟨7,[],0,[],false⟩:zf)) fun o13=>
 some (o13.2.2,if w64 (o13.1+1)<(x.1.length:Int)then w64 (o13.1+1)else(x.1.length:Int))
def ay(x:Str×Int):Option (zf×Int):=
 za (Ep (x.1,x.2)) fun y1=>
 za (qw (x.1,y1.2)) fun y2=>
 bif y2 != 40 then
  some ((⟨1,y1.1,0,[],false⟩:zf),y1.2)
 else
  Zh (X:=zf) (
    za (ul (y1.1,[117,114,108])) fun y3=>
    bif y3 then
     za (Rp (x.1,w64 (y1.2+1))) fun y4=>
     za (qw (x.1,y4)) fun y5=>
     bif bif y5 != 34 then y5 != 39 else false then
      za (Oy (x.1,w64 (y1.2+1))) fun y6=>
      some (.ret (y6.1,y6.2))
     else
      some (.out (⟨0,[],0,[],false⟩:zf))
    else
     some (.out (⟨0,[],0,[],false⟩:zf))) fun j7=>
  some ((⟨2,y1.1,0,[],false⟩:zf),w64 (y1.2+1))
def iJ(x:Int):Option Int:=
 bif x==58 then
  some 16
 else
  bif x==59 then
   some 17
  else
   bif x==44 then
    some 18
   else
    bif x==91 then
     some 19
    else
     bif x==93 then
      some 20
     else
      bif x==40 then
       some 21
      else
       bif x==41 then
        some 22
       else
        bif x==123 then
         some 23
        else
         bif x==125 then
          some 24
         else
          some 0
def Py(x:Str×Int):Option (zf×Int):=
 za (geti x.1 x.2) fun y1=>
 za (wy (y1.toNat:Int)) fun y2=>
 bif y2 then
  za (Rp (x.1,x.2)) fun y3=>
  some ((⟨13,[],0,[],false⟩:zf),y3)
 else
  bif bif (y1.toNat:Int)==34 then true else(y1.toNat:Int)==39 then
   za (Kz (x.1,x.2)) fun y4=>
   some (y4.1,y4.2)
  else
   za (zD (decide (w64 (x.2+1)<(x.1.length:Int))&&(y1.toNat:Int)==35) (geti x.1 (w64 (x.2+1))) 0) fun y5=>
   za (zD (decide (w64 (x.2+1)<(x.1.length:Int))&&(y1.toNat:Int)==35) (NK (y5.toNat:Int)) (default:Bool)) fun y6=>
   za (zD (!(bif decide (w64 (x.2+1)<(x.1.length:Int))then y6 else false)&&(y1.toNat:Int)==35) (Nr (x.1,w64 (x.2+1))) (default:Bool)) fun y7=>
   bif bif (y1.toNat:Int)==35 then bif bif decide (w64 (x.2+1)<(x.1.length:Int))then y6 else false then true else y7 else false then
    za (Ep (x.1,w64 (x.2+1))) fun y8=>
    za (Nz (x.1,w64 (x.2+1))) fun y9=>
    some ((⟨4,y8.1,0,[],y9⟩:zf),y8.2)
   else
    za (VS (x.1,x.2)) fun y10=>
    bif y10 then
     za (Uz (x.1,x.2)) fun y11=>
     some (y11.1,y11.2)
    else
     za (sI (x.1,x.2,[45,45,62])) fun y12=>
     bif y12 then
      some ((⟨15,[],0,[],false⟩:zf),w64 (x.2+3))
     else
      za (sI (x.1,x.2,[60,33,45,45])) fun y13=>
      bif y13 then
       some ((⟨14,[],0,[],false⟩:zf),w64 (x.2+4))
      else
       za (zD ((y1.toNat:Int)==64) (Nz (x.1,w64 (x.2+1))) (default:Bool)) fun y14=>
       bif bif (y1.toNat:Int)==64 then y14 else false then
        za (Ep (x.1,w64 (x.2+1))) fun y15=>
        some ((⟨3,y15.1,0,[],false⟩:zf),y15.2)
       else
        za (Nz (x.1,x.2)) fun y16=>
        bif y16 then
         za (ay (x.1,x.2)) fun y17=>
         some (y17.1,y17.2)
        else
         za (iJ (y1.toNat:Int)) fun y18=>
         bif y18 != 0 then
          za (iJ (y1.toNat:Int)) fun y19=>
          some ((⟨y19,[],0,[],false⟩:zf),w64 (x.2+1))
         else
          need (decide (0<=x.2)&&(decide (x.2<=w64 (x.2+1))&&decide (w64 (x.2+1)<=(x.1.length:Int))))<|
          some ((⟨9,List.drop x.2.toNat (List.take (w64 (x.2+1)).toNat x.1),0,[],false⟩:zf),w64 (x.2+1))
def QD(x:Int):Option Bool:=
 za (QG x) fun y1=>
 za (Py ([y1,(10:UInt8)],0)) fun y2=>
 some (bif bif bif bif decide (x>=1)then decide (x<=127)else false then x != 12 else false then x != 13 else false then y2.1.kind==9 else false)
def XD(x:zf):Option Bool:=
 Zh (X:=Bool×zf) (
   bif x.kind==1 then
    some (.out (x.kind==1,x))
   else
    bif x.kind==2 then
     some (.out (x.kind==2,x))
    else
     some (.out (x.kind==3,x))) fun j1=>
 bif j1.1 then
  za (zD (!(x.text==[])) (Kr x.text) (default:Bool)) fun y2=>
  some (bif bif !(x.text==[])then y2 else false then j1.2.kind==x.kind&&(([]:Str)==[]&&(j1.2.num==0&&(j1.2.unit==[]&&(j1.2.flag==false&&true))))else false)
 else
  bif x.kind==4 then
   za (zD (!(x.text==[])) (Kr x.text) (default:Bool)) fun y3=>
   za (zD (!x.flag&&(bif !(x.text==[])then y3 else false)) (YD x.text) (default:Bool)) fun y4=>
   some (bif bif bif !(x.text==[])then y3 else false then bif x.flag then true else y4 else false then j1.2.kind==x.kind&&(([]:Str)==[]&&(j1.2.num==0&&(j1.2.unit==[]&&(false==false&&true))))else false)
  else
   Zh (X:=Bool×zf) (
     bif x.kind==5 then
      some (.out (x.kind==5,j1.2))
     else
      some (.out (x.kind==7,j1.2))) fun j5=>
   bif j5.1 then
    za (Kr x.text) fun y6=>
    some (bif y6 then j5.2.kind==x.kind&&(([]:Str)==[]&&(j5.2.num==0&&(j5.2.unit==[]&&(j5.2.flag==false&&true))))else false)
   else
    bif x.kind==9 then
     za (zD ((x.text.length:Int)==1) (geti x.text 0) 0) fun y7=>
     za (zD ((x.text.length:Int)==1) (QD (y7.toNat:Int)) (default:Bool)) fun y8=>
     some (bif bif (x.text.length:Int)==1 then y8 else false then j5.2.kind==x.kind&&(([]:Str)==[]&&(j5.2.num==0&&(j5.2.unit==[]&&(j5.2.flag==false&&true))))else false)
    else
     Zh (X:=Bool×zf) (
       bif x.kind==10 then
        some (.out (x.kind==10,j5.2))
       else
        bif x.kind==11 then
         some (.out (x.kind==11,j5.2))
        else
         some (.out (x.kind==12,j5.2))) fun j9=>
     bif j9.1 then
      za (zD ((!(x.unit==[]))==(x.kind==12)) (Kr x.unit) (default:Bool)) fun y10=>
      some (bif bif bif bif bif decide (x.num>=(-1000000000000))then decide (x.num<=1000000000000)else false then bif !x.flag then true else Int.tmod x.num 1000==0 else false then bif (!(x.unit==[]))==(x.kind==12)then y10 else false else false then bif x.kind != 11 then true else !x.flag else false then j9.2.kind==x.kind&&(j9.2.text==[]&&(0==0&&(([]:Str)==[]&&(false==false&&true))))else false)
     else
      Zh (X:=Bool) (
        bif x.kind==6 then
         some (.out (x.kind==6))
        else
         some (.out (x.kind==8))) fun j11=>
      bif j11 then
       some false
      else
       some (bif bif decide (x.kind>=1)then decide (x.kind<=24)else false then x.kind==x.kind&&(x.text==[]&&(x.num==0&&(x.unit==[]&&(x.flag==false&&true))))else false)
def su(x:List zf):Option Int:=
 bif decide ((x.length:Int)>1500)then
  some 4
 else
  zU (S:=Int) (X:=Unit) (fun s1=>
    bif decide (s1<(x.length:Int))then
     za (geti x s1) fun y2=>
     za (XD y2) fun y3=>
     bif !y3 then
      some (.ret 8)
     else
      Zh (X:=Unit) (
        za (geti x s1) fun y4=>
        za (zD (y4.kind==2) (geti x s1) (default:zf)) fun y5=>
        za (zD (y4.kind==2) (ul (y5.text,[117,114,108])) (default:Bool)) fun y6=>
        bif bif y4.kind==2 then y6 else false then
         Zh (X:=Int) (
           za (zD (decide (w64 (s1+1)<(x.length:Int))) (geti x (w64 (s1+1))) (default:zf)) fun y7=>
           bif bif decide (w64 (s1+1)<(x.length:Int))then y7.kind==13 else false then
            some (.out (w64 (w64 (s1+1)+1)))
           else
            some (.out (w64 (s1+1)))) fun j8=>
         za (zD (!(decide (j8>=(x.length:Int)))) (geti x j8) (default:zf)) fun y9=>
         bif bif decide (j8>=(x.length:Int))then true else y9.kind != 5 then
          some (.ret (LO.ret 8))
         else
          some (.out ())
        else
         some (.out ())) fun j10=>
      za (geti x s1) fun y11=>
      za (zD (y11.kind==9) (geti x s1) (default:zf)) fun y12=>
      za (zD (!(w64 (s1+1)==(x.length:Int))&&(bif y11.kind==9 then y12.text==[92]else false)) (geti x (w64 (s1+1))) (default:zf)) fun y13=>
      bif bif bif y11.kind==9 then y12.text==[92]else false then bif w64 (s1+1)==(x.length:Int)then true else y13.kind != 13 else false then
       some (.ret 8)
      else
       some (.again (w64 (s1+1)))
    else
     some (.out ())) 0 fun o14=>
  some 0
def oF(QN:List zb->Option Bool)(x:List zb):Option Bool:=
 zU (S:=Int) (X:=Unit) (fun s1=>
   bif decide (s1<(x.length:Int))then
    za (geti x s1) fun y2=>
    za (zD (!(bif bif y2.token.kind==20 then true else y2.token.kind==22 then true else y2.token.kind==24)) (geti x s1) (default:zb)) fun y3=>
    za (zD (!(bif bif y2.token.kind==20 then true else y2.token.kind==22 then true else y2.token.kind==24)) (QN y3.list) (default:Bool)) fun y4=>
    bif bif bif bif y2.token.kind==20 then true else y2.token.kind==22 then true else y2.token.kind==24 then true else y4 then
     some (.ret true)
    else
     some (.again (w64 (s1+1)))
   else
    some (.out ())) 0 fun o5=>
 some false
def QN:List zb->Option Bool:=recE (oF)
def gF(x:List zb):Option (List zb):=
 zU (S:=List zb) (X:=List zb) (fun s1=>
   za (zD (decide ((s1.length:Int)>0)) (geti s1 0) (default:zb)) fun y2=>
   bif bif decide ((s1.length:Int)>0)then y2.token.kind==13 else false then
    need (decide (1<=(s1.length:Int)))<|
    some (.again (List.drop 1 s1))
   else
    some (.out s1)) x fun o3=>
 zU (S:=List zb) (X:=List zb) (fun s4=>
   za (zD (decide ((s4.length:Int)>0)) (geti s4 (w64 ((s4.length:Int) - 1))) (default:zb)) fun y5=>
   bif bif decide ((s4.length:Int)>0)then y5.token.kind==13 else false then
    need (decide (0<=w64 ((s4.length:Int) - 1))&&decide (w64 ((s4.length:Int) - 1)<=(s4.length:Int)))<|
    some (.again (List.take (w64 ((s4.length:Int) - 1)).toNat s4))
   else
    some (.out s4)) o3 fun o6=>
 some o6
def NF(x:Str):Option Bool:=
 need (decide (2<=(x.length:Int))|| !(decide ((x.length:Int)>2)))<|
 some (bif decide ((x.length:Int)>2)then List.take 2 x==[45,45]else false)
def MF(x:Str×List zb):Option Bool:=
 za (wD x.2) fun y1=>
 za (zD (!(y1 != 0)) (Qr x.2) (default:List zf)) fun y2=>
 za (zD (!(y1 != 0)) (su y2) (default:Int)) fun y3=>
 za (zD (!(bif y1 != 0 then true else y3 != 0)) (QN x.2) (default:Bool)) fun y4=>
 bif bif bif y1 != 0 then true else y3 != 0 then true else y4 then
  some false
 else
  za (gF x.2) fun y5=>
  za (zD ((x.2.length:Int)==0&& !((y5.length:Int) != (x.2.length:Int))) (NF x.1) (default:Bool)) fun y6=>
  bif bif (y5.length:Int) != (x.2.length:Int)then true else bif (x.2.length:Int)==0 then !y6 else false then
   some false
  else
   zU (S:=Int) (X:=Unit) (fun s7=>
     bif decide (s7<(x.2.length:Int))then
      za (geti x.2 s7) fun y8=>
      bif bif y8.token.kind==17 then true else bif y8.token.kind==9 then y8.token.text==[33]else false then
       some (.ret false)
      else
       some (.again (w64 (s7+1)))
     else
      some (.out ())) 0 fun o9=>
   some true
def Jr(x:Zx):Option Int:=
 za (vD x.name) fun y1=>
 za (zD (!(!y1)) (MF (x.name,x.value)) (default:Bool)) fun y2=>
 bif bif !y1 then true else !y2 then
  some 8
 else
  some 0
def pu(x:Zx):Option Bool:=
 some (bif bif x.name==[]then(x.value.length:Int)==0 else false then !x.important else false)
def Nn(x:zw):Option Bool:=
 za (zD (bif x.name==[]then x.num==0 else false) (pu x.decl) (default:Bool)) fun y1=>
 some (bif bif x.name==[]then x.num==0 else false then y1 else false)
def Gz(x:Str):Option Bool:=
 za (zD (!(bif x==[]then true else decide ((x.length:Int)>64))) (QC x) (default:Str)) fun y1=>
 bif bif bif bif bif bif bif x==[]then true else decide ((x.length:Int)>64)then true else !(x==y1)then true else x==[97,110,100]then true else x==[111,114]then true else x==[110,111,116]then true else x==[111,110,108,121]then
  some false
 else
  zU (S:=Int) (X:=Unit) (fun s2=>
    bif decide (s2<(x.length:Int))then
     za (geti x s2) fun y3=>
     bif (y3.toNat:Int)==0 then
      some (.ret false)
     else
      some (.again (w64 (s2+1)))
    else
     some (.out ())) 0 fun o4=>
  some true
def Gx(x:Int):Option Bool:=
 some (bif decide (x>=(-1000000000000))then decide (x<=1000000000000)else false)
def Ny(x:zw):Option (Bool×Bool):=
 za (zD (!(x.kind != 1)) (Nn (⟨x.kind,x.name,x.num,x.decl,x.list⟩:zw)) (default:Bool)) fun y1=>
 bif bif bif x.kind != 1 then true else !y1 then true else(x.list.length:Int)==0 then
  some (false,false)
 else
  zU (S:=Int) (X:=Unit) (fun s2=>
    bif decide (s2<(x.list.length:Int))then
     Zh (X:=Int) (
       za (geti x.list s2) fun y3=>
       za (zD (!(decide ((y3.list.length:Int)>0))) (pu y3.decl) (default:Bool)) fun y4=>
       bif bif decide ((y3.list.length:Int)>0)then true else !y4 then
        some (.ret (LO.ret (false,false)))
       else
        za (zD (bif bif s2==0 then y3.kind==4 else false then y3.num==0 else false) (Gz y3.name) (default:Bool)) fun y5=>
        bif bif bif bif s2==0 then y3.kind==4 else false then y3.num==0 else false then y5 else false then
         some (.out s2)
        else
         za (zD (!(bif bif bif y3.kind != 5 then y3.kind != 6 else false then true else !(y3.name==[])then true else decide (y3.num<0))) (Gx y3.num) (default:Bool)) fun y6=>
         bif bif bif bif bif y3.kind != 5 then y3.kind != 6 else false then true else !(y3.name==[])then true else decide (y3.num<0)then true else !y6 then
          some (.ret (LO.ret (false,false)))
         else
          some (.out s2)) fun j7=>
     some (.again (w64 (j7+1)))
    else
     some (.out ())) 0 fun o8=>
  za (geti x.list 0) fun y9=>
  some (true,y9.kind==4)
def ny(x:zw):Option Bool:=
 bif x.kind==3 then
  za (Nn (⟨x.kind,x.name,x.num,x.decl,x.list⟩:zw)) fun y1=>
  bif bif !y1 then true else(x.list.length:Int) != 1 then
   some false
  else
   za (geti x.list 0) fun y2=>
   za (Ny (⟨y2.kind,y2.name,y2.num,y2.decl,y2.list⟩:zw)) fun y3=>
   some (bif y3.1 then y3.2 else false)
 else
  za (Ny (⟨x.kind,x.name,x.num,x.decl,x.list⟩:zw)) fun y4=>
  some y4.1
def JF(x:zw):Option Bool:=
 za (Nn (⟨x.kind,x.name,x.num,x.decl,x.list⟩:zw)) fun y1=>
 bif !y1 then
  some false
 else
  bif x.kind==1 then
   some ((x.list.length:Int)==0)
  else
   bif bif bif x.kind != 2 then true else decide ((x.list.length:Int)<1)then true else decide ((x.list.length:Int)>64)then
    some false
   else
    zU (S:=Int) (X:=Unit) (fun s2=>
      bif decide (s2<(x.list.length:Int))then
       za (geti x.list s2) fun y3=>
       za (ny (⟨y3.kind,y3.name,y3.num,y3.decl,y3.list⟩:zw)) fun y4=>
       bif !y4 then
        some (.ret false)
       else
        some (.again (w64 (s2+1)))
      else
       some (.out ())) 0 fun o5=>
    some true
def Ev(Nk:zw×Int->Option Int)(x:zw×Int):Option Int:=
 zU (S:=Int×Int) (X:=Int) (fun s1=>
   bif bif decide (s1.2<(x.1.list.length:Int))then decide (s1.1<=x.2)else false then
    za (geti x.1.list s1.2) fun y2=>
    za (Nk ((⟨y2.kind,y2.name,y2.num,y2.decl,y2.list⟩:zw),w64 (x.2 - s1.1))) fun y3=>
    some (.again (w64 (s1.1+y3),w64 (s1.2+1)))
   else
    some (.out s1.1)) (1,0) fun o4=>
 some o4
def Nk:zw×Int->Option Int:=recE (Ev)
def KF(Wl:zw->Option Int)(x:zw):Option Int:=
 bif x.kind==7 then
  za (Rk x.decl.value) fun y1=>
  some (w64 (1+y1))
 else
  bif x.kind==8 then
   some 1
  else
   zU (S:=Int×Int) (X:=Int) (fun s2=>
     bif decide (s2.2<(x.list.length:Int))then
      za (geti x.list s2.2) fun y3=>
      Zh (X:=Int×Int) (
        bif bif y3.kind==7 then true else y3.kind==8 then
         some (.out (s2.1,0))
        else
         some (.out (s2.1,1))) fun j4=>
      za (geti x.list s2.2) fun y5=>
      za (Wl (⟨y5.kind,y5.name,y5.num,y5.decl,y5.list⟩:zw)) fun y6=>
      some (.again (if w64 (j4.2+y6)>j4.1 then w64 (j4.2+y6)else j4.1,w64 (s2.2+1)))
     else
      some (.out s2.1)) (0,0) fun o7=>
   some o7
def Wl:zw->Option Int:=recE (KF)
def gG(qm:zw->Option Bool)(x:zw):Option Bool:=
 bif x.kind==7 then
  za (zD (bif bif x.name==[]then x.num==0 else false then(x.list.length:Int)==0 else false) (Jr x.decl) (default:Int)) fun y1=>
  some (bif bif bif x.name==[]then x.num==0 else false then(x.list.length:Int)==0 else false then y1==0 else false)
 else
  bif x.kind==8 then
   za (Nn (⟨x.kind,x.name,x.num,x.decl,x.list⟩:zw)) fun y2=>
   some (bif y2 then(x.list.length:Int)==0 else false)
  else
   bif x.kind==3 then
    za (Nn (⟨x.kind,x.name,x.num,x.decl,x.list⟩:zw)) fun y3=>
    za (zD (bif y3 then(x.list.length:Int)==1 else false) (geti x.list 0) (default:zw)) fun y4=>
    za (zD (bif y3 then(x.list.length:Int)==1 else false) (qm (⟨y4.kind,y4.name,y4.num,y4.decl,y4.list⟩:zw)) (default:Bool)) fun y5=>
    some (bif bif y3 then(x.list.length:Int)==1 else false then y5 else false)
   else
    Zh (X:=Bool) (
      bif x.kind==1 then
       some (.out (x.kind==1))
      else
       some (.out (x.kind==2))) fun j6=>
    bif j6 then
     za (Nn (⟨x.kind,x.name,x.num,x.decl,x.list⟩:zw)) fun y7=>
     bif bif !y7 then true else decide ((x.list.length:Int)<2)then
      some false
     else
      zU (S:=Int) (X:=Unit) (fun s8=>
        bif decide (s8<(x.list.length:Int))then
         za (geti x.list s8) fun y9=>
         za (qm (⟨y9.kind,y9.name,y9.num,y9.decl,y9.list⟩:zw)) fun y10=>
         bif !y10 then
          some (.ret false)
         else
          some (.again (w64 (s8+1)))
        else
         some (.out ())) 0 fun o11=>
      some true
    else
     some false
def qm:zw->Option Bool:=recE (gG)
def PG(x:zw):Option Bool:=
 za (Nk ((⟨x.kind,x.name,x.num,x.decl,x.list⟩:zw),1500)) fun y1=>
 za (zD (decide (y1<=1500)) (Wl (⟨x.kind,x.name,x.num,x.decl,x.list⟩:zw)) (default:Int)) fun y2=>
 za (zD (bif decide (y1<=1500)then decide (y2<=16)else false) (qm (⟨x.kind,x.name,x.num,x.decl,x.list⟩:zw)) (default:Bool)) fun y3=>
 some (bif bif decide (y1<=1500)then decide (y2<=16)else false then y3 else false)
def Dv(x:List Str):Option Bool:=
 bif bif decide ((x.length:Int)<1)then true else decide ((x.length:Int)>16)then
  some false
 else
  zU (S:=Int) (X:=Unit) (fun s1=>
    bif decide (s1<(x.length:Int))then
     za (geti x s1) fun y2=>
     za (Ir y2) fun y3=>
     bif !y3 then
      some (.ret false)
     else
      some (.again (w64 (s1+1)))
    else
     some (.out ())) 0 fun o4=>
  some true
def UF(Kn:zM->Option Bool)(x:zM):Option Bool:=
 Zh (X:=Unit) (
   bif x.kind==1 then
    za (sD x.selectors) fun y1=>
    za (zD (!(bif y1 != 0 then true else decide ((x.decls.length:Int)>32))) (cu (⟨x.cond.kind,x.cond.name,x.cond.num,x.cond.decl,x.cond.list⟩:zw)) (default:Bool)) fun y2=>
    bif bif bif bif bif y1 != 0 then true else decide ((x.decls.length:Int)>32)then true else !y2 then true else decide ((x.names.length:Int)>0)then true else decide ((x.rules.length:Int)>0)then
     some (.ret false)
    else
     zU (S:=Int) (X:=Unit) (fun s3=>
       bif decide (s3<(x.decls.length:Int))then
        za (geti x.decls s3) fun y4=>
        za (Jr y4) fun y5=>
        bif y5 != 0 then
         some (.ret (LX.ret false))
        else
         some (.again (w64 (s3+1)))
       else
        some (.out ())) 0 fun o6=>
     some (.ret true)
   else
    bif x.kind==2 then
     za (zD (!(bif !(bif (x.selectors.length:Int)==0 then(x.decls.length:Int)==0 else false)then true else decide ((x.names.length:Int)>0))) (JF (⟨x.cond.kind,x.cond.name,x.cond.num,x.cond.decl,x.cond.list⟩:zw)) (default:Bool)) fun y7=>
     bif bif bif !(bif (x.selectors.length:Int)==0 then(x.decls.length:Int)==0 else false)then true else decide ((x.names.length:Int)>0)then true else !y7 then
      some (.ret false)
     else
      some (.out ())
    else
     bif x.kind==3 then
      za (zD (!(bif !(bif (x.selectors.length:Int)==0 then(x.decls.length:Int)==0 else false)then true else decide ((x.names.length:Int)>0))) (PG (⟨x.cond.kind,x.cond.name,x.cond.num,x.cond.decl,x.cond.list⟩:zw)) (default:Bool)) fun y8=>
      bif bif bif !(bif (x.selectors.length:Int)==0 then(x.decls.length:Int)==0 else false)then true else decide ((x.names.length:Int)>0)then true else !y8 then
       some (.ret false)
      else
       some (.out ())
     else
      bif x.kind==4 then
       za (zD (!(!(bif (x.selectors.length:Int)==0 then(x.decls.length:Int)==0 else false))) (cu (⟨x.cond.kind,x.cond.name,x.cond.num,x.cond.decl,x.cond.list⟩:zw)) (default:Bool)) fun y9=>
       bif bif bif !(bif (x.selectors.length:Int)==0 then(x.decls.length:Int)==0 else false)then true else !y9 then true else decide ((x.names.length:Int)>1)then
        some (.ret false)
       else
        some (.out ())
      else
       bif x.kind==5 then
        za (zD (!(!(bif (x.selectors.length:Int)==0 then(x.decls.length:Int)==0 else false))) (cu (⟨x.cond.kind,x.cond.name,x.cond.num,x.cond.decl,x.cond.list⟩:zw)) (default:Bool)) fun y10=>
        bif bif bif bif bif !(bif (x.selectors.length:Int)==0 then(x.decls.length:Int)==0 else false)then true else !y10 then true else decide ((x.names.length:Int)<1)then true else decide ((x.names.length:Int)>64)then true else decide ((x.rules.length:Int)>0)then
         some (.ret false)
        else
         some (.out ())
       else
        some (.ret false)) fun j11=>
 zU (S:=Int) (X:=Unit) (fun s12=>
   bif decide (s12<(x.names.length:Int))then
    za (geti x.names s12) fun y13=>
    za (Dv y13) fun y14=>
    bif !y14 then
     some (.ret false)
    else
     some (.again (w64 (s12+1)))
   else
    some (.out ())) 0 fun o15=>
 zU (S:=Int) (X:=Unit) (fun s16=>
   bif decide (s16<(x.rules.length:Int))then
    za (geti x.rules s16) fun y17=>
    za (Kn (⟨y17.kind,y17.selectors,y17.decls,(⟨y17.cond.kind,y17.cond.name,y17.cond.num,y17.cond.decl,y17.cond.list⟩:zw),y17.names,y17.rules⟩:zM)) fun y18=>
    bif !y18 then
     some (.ret false)
    else
     some (.again (w64 (s16+1)))
   else
    some (.out ())) 0 fun o19=>
 some true
def Kn:zM->Option Bool:=recE (UF)
def vJ(x:zI):Option Bool:=
 some (bif bif bif x.kind==9 then true else x.kind==10 then !x.of_ else false then x.anb.a==0&&(x.anb.b==1&&true)else false)
def OG(Qk:List zm->Option Int)(x:List zm):Option Int:=
 zU (S:=Int×Int) (X:=Int) (fun s1=>
   bif decide (s1.2<(x.length:Int))then
    zU (S:=Int×Int) (X:=Int) (fun s2=>
      za (geti x s1.2) fun y3=>
      bif decide (s2.2<(y3.parts.length:Int))then
       za (geti x s1.2) fun y4=>
       za (geti y4.parts s2.2) fun y5=>
       zU (S:=Int×Int) (X:=Int) (fun s6=>
         bif decide (s6.2<(y5.simples.length:Int))then
          Zh (X:=Int×Int) (
            za (geti y5.simples s6.2) fun y7=>
            za (zD (!(y7.kind==3)) (geti y5.simples s6.2) (default:zI)) fun y8=>
            za (zD (decide (y8.kind>=9)&& !(y7.kind==3)) (geti y5.simples s6.2) (default:zI)) fun y9=>
            za (zD (decide (y8.kind>=9)&& !(y7.kind==3)) (vJ (⟨y9.kind,y9.name,y9.op,y9.value,y9.fold,y9.anb,y9.of_,y9.list⟩:zI)) (default:Bool)) fun y10=>
            bif bif y7.kind==3 then true else bif decide (y8.kind>=9)then !y10 else false then
             za (geti y5.simples s6.2) fun y11=>
             za (Qk y11.list) fun y12=>
             some (.out (if w64 (1+y12)>s6.1 then w64 (1+y12)else s6.1,s6.2))
            else
             some (.out (s6.1,s6.2))) fun j13=>
          some (.again (j13.1,w64 (j13.2+1)))
         else
          some (.out s6.1)) (s2.1,0) fun o14=>
       some (.again (o14,w64 (s2.2+1)))
      else
       some (.out s2.1)) (s1.1,0) fun o15=>
    some (.again (o15,w64 (s1.2+1)))
   else
    some (.out s1.1)) (0,0) fun o16=>
 some o16
def Qk:List zm->Option Int:=recE (OG)
def fG(x:zM):Option Int:=
 bif x.kind==3 then
  za (Wl (⟨x.cond.kind,x.cond.name,x.cond.num,x.cond.decl,x.cond.list⟩:zw)) fun y1=>
  some y1
 else
  zU (S:=Int×Int) (X:=Int) (fun s2=>
    bif decide (s2.2<(x.cond.list.length:Int))then
     za (geti x.cond.list s2.2) fun y3=>
     Zh (X:=Int×zw) (
       bif bif y3.kind==3 then(y3.list.length:Int)==1 else false then
        za (geti y3.list 0) fun y4=>
        some (.out (s2.1,(⟨y4.kind,y4.name,y4.num,y4.decl,y4.list⟩:zw)))
       else
        some (.out (s2.1,(⟨y3.kind,y3.name,y3.num,y3.decl,y3.list⟩:zw)))) fun j5=>
     zU (S:=Int×Int) (X:=Int) (fun s6=>
       bif decide (s6.2<(j5.2.list.length:Int))then
        Zh (X:=Int×Int) (
          za (geti j5.2.list s6.2) fun y7=>
          bif y7.kind != 4 then
           some (.out (1,s6.2))
          else
           some (.out (s6.1,s6.2))) fun j8=>
        some (.again (j8.1,w64 (j8.2+1)))
       else
        some (.out s6.1)) (j5.1,0) fun o9=>
     some (.again (o9,w64 (s2.2+1)))
    else
     some (.out s2.1)) (0,0) fun o10=>
  some o10
def DF(En:List zM->Option Int)(x:List zM):Option Int:=
 zU (S:=Int×Int) (X:=Int) (fun s1=>
   bif decide (s1.2<(x.length:Int))then
    Zh (X:=Int×Int) (
      za (geti x s1.2) fun y2=>
      bif y2.kind==5 then
       some (.out (s1.1,s1.2))
      else
       za (geti x s1.2) fun y3=>
       za (En y3.rules) fun y4=>
       zU (S:=Int×Int) (X:=Int) (fun s5=>
         za (geti x s1.2) fun y6=>
         bif decide (s5.2<(y6.decls.length:Int))then
          za (geti x s1.2) fun y7=>
          za (geti y7.decls s5.2) fun y8=>
          za (Rk y8.value) fun y9=>
          some (.again (if y9>s5.1 then y9 else s5.1,w64 (s5.2+1)))
         else
          some (.out s5.1)) (y4,0) fun o10=>
       za (geti x s1.2) fun y11=>
       za (Qk y11.selectors) fun y12=>
       za (geti x s1.2) fun y13=>
       za (fG (⟨y13.kind,y13.selectors,y13.decls,(⟨y13.cond.kind,y13.cond.name,y13.cond.num,y13.cond.decl,y13.cond.list⟩:zw),y13.names,y13.rules⟩:zM)) fun y14=>
       some (.out (if y14>(if y12>(if w64 (1+o10)>s1.1 then w64 (1+o10)else s1.1)then y12 else if w64 (1+o10)>s1.1 then w64 (1+o10)else s1.1)then y14 else if y12>(if w64 (1+o10)>s1.1 then w64 (1+o10)else s1.1)then y12 else if w64 (1+o10)>s1.1 then w64 (1+o10)else s1.1,s1.2))) fun j15=>
    some (.again (j15.1,w64 (j15.2+1)))
   else
    some (.out s1.1)) (0,0) fun o16=>
 some o16
def En:List zM->Option Int:=recE (DF)
def ME(x:List zM):Option Bool:=
 za (QP x) fun y1=>
 bif decide (y1>64)then
  some false
 else
  zU (S:=Int) (X:=Unit) (fun s2=>
    bif decide (s2<(x.length:Int))then
     za (geti x s2) fun y3=>
     za (Kn (⟨y3.kind,y3.selectors,y3.decls,(⟨y3.cond.kind,y3.cond.name,y3.cond.num,y3.cond.decl,y3.cond.list⟩:zw),y3.names,y3.rules⟩:zM)) fun y4=>
     bif !y4 then
      some (.ret false)
     else
      some (.again (w64 (s2+1)))
    else
     some (.out ())) 0 fun o5=>
  za (En x) fun y6=>
  some (decide (y6<=16))
def ky(x:zc1):Option Int:=
 za (ME x.rules) fun y1=>
 bif !y1 then
  some 8
 else
  some 0
def jF(x:zM):Option Int:=
 za (nu [(⟨x.kind,x.selectors,x.decls,(⟨x.cond.kind,x.cond.name,x.cond.num,x.cond.decl,x.cond.list⟩:zw),x.names,x.rules⟩:zM)]) fun y1=>
 some y1
def iF(x:(zf×Int×Int)×List ZK):Option (List ZK):=
 need (ZE x.2.length 1 16)<|
 some (x.2++[(⟨x.1.2.1,x.1.2.2⟩:ZK)])
def JK(x:Str):Option (Int×List ZK):=
 za (Ck x) fun y1=>
 bif y1.2 != 0 then
  some (y1.2,[])
 else
  za (ZF (⟨y1.1,0⟩:ze)) fun y2=>
  zU (S:=Int×List ZK×ze) (X:=List ZK×ze) (fun s3=>
    bif decide (s3.2.2.at_<(y1.1.length:Int))then
     bif decide (w64 (s3.1+1)>1500)then
      some (.ret (4,s3.2.1))
     else
      za (qO s3.2.2) fun y4=>
      za (iF ((y4.1,s3.2.2.at_,y4.2.at_),s3.2.1)) fun y5=>
      za (ZF y4.2) fun y6=>
      some (.again (w64 (s3.1+1),y5,y6))
    else
     some (.out (s3.2.1,s3.2.2))) (0,[],y2) fun o7=>
  some (0,o7.1)
def FE(x:Str):Option (List ZK×Int):=
 za (JK x) fun y1=>
 bif y1.1 != 0 then
  some ([],y1.1)
 else
  some (y1.2,0)
def XE(x:Str):Option (Int×Bool):=
 za (Ck x) fun y1=>
 za (Pp x) fun y2=>
 za (FE x) fun y3=>
 za (parseF y2.1) fun y4=>
 bif bif bif bif bif bif y1.2 != 0 then true else y2.2 != 0 then true else y3.2 != 0 then true else y4.2 != 0 then true else(y4.1.length:Int)==0 then true else(y3.1.length:Int)==0 then
  some (0,false)
 else
  za (geti y3.1 (w64 ((y3.1.length:Int) - 1))) fun y5=>
  za (zD (y5.e1==(y1.1.length:Int)) (geti y4.1 (w64 ((y4.1.length:Int) - 1))) (default:zb)) fun y6=>
  za (zD (bif y5.e1==(y1.1.length:Int)then y6.token.kind==23 else false) (Qr y4.1) (default:List zf)) fun y7=>
  some ((y2.1.length:Int),bif bif y5.e1==(y1.1.length:Int)then y6.token.kind==23 else false then(y7.length:Int)==(y2.1.length:Int)else false)
def EE(x:Str):Option Bool:=
 za (Pp x) fun y1=>
 za (parseF y1.1) fun y2=>
 zU (S:=Int) (X:=Unit) (fun s3=>
   bif decide (s3<(y2.1.length:Int))then
    za (geti y2.1 s3) fun y4=>
    bif y4.token.kind==24 then
     some (.ret true)
    else
     some (.again (w64 (s3+1)))
   else
    some (.out ())) 0 fun o5=>
 some false
def iG(ZQ:List zm×List zm->Option Bool)(x:List zI×List zI):Option Bool:=
 bif (x.1.length:Int) != (x.2.length:Int)then
  some false
 else
  zU (S:=Int) (X:=Unit) (fun s1=>
    bif decide (s1<(x.1.length:Int))then
     za (geti x.1 s1) fun y2=>
     za (Gv (⟨y2.kind,y2.name,y2.op,y2.value,y2.fold,y2.anb,y2.of_,y2.list⟩:zI)) fun y3=>
     za (geti x.2 s1) fun y4=>
     za (Gv (⟨y4.kind,y4.name,y4.op,y4.value,y4.fold,y4.anb,y4.of_,y4.list⟩:zI)) fun y5=>
     za (zD (!(!(y3.kind==y5.kind&&(y3.name==y5.name&&(y3.op==y5.op&&(y3.value==y5.value&&(y3.fold==y5.fold&&(y3.anb.a==y5.anb.a&&(y3.anb.b==y5.anb.b&&(y3.of_==y5.of_&&true)))))))))) (geti x.1 s1) (default:zI)) fun y6=>
     za (zD (!(!(y3.kind==y5.kind&&(y3.name==y5.name&&(y3.op==y5.op&&(y3.value==y5.value&&(y3.fold==y5.fold&&(y3.anb.a==y5.anb.a&&(y3.anb.b==y5.anb.b&&(y3.of_==y5.of_&&true)))))))))) (geti x.2 s1) (default:zI)) fun y7=>
     za (zD (!(!(y3.kind==y5.kind&&(y3.name==y5.name&&(y3.op==y5.op&&(y3.value==y5.value&&(y3.fold==y5.fold&&(y3.anb.a==y5.anb.a&&(y3.anb.b==y5.anb.b&&(y3.of_==y5.of_&&true)))))))))) (ZQ (y6.list,y7.list)) (default:Bool)) fun y8=>
     bif bif !(y3.kind==y5.kind&&(y3.name==y5.name&&(y3.op==y5.op&&(y3.value==y5.value&&(y3.fold==y5.fold&&(y3.anb.a==y5.anb.a&&(y3.anb.b==y5.anb.b&&(y3.of_==y5.of_&&true))))))))then true else !y8 then
      some (.ret false)
     else
      some (.again (w64 (s1+1)))
    else
     some (.out ())) 0 fun o9=>
  some true
def rD(ZQ:List zm×List zm->Option Bool)(x:zm×zm):Option Bool:=
 bif bif bif x.1.lead != x.2.lead then true else(x.1.parts.length:Int) != (x.2.parts.length:Int)then true else !(x.1.combs==x.2.combs)then
  some false
 else
  zU (S:=Int) (X:=Unit) (fun s1=>
    bif decide (s1<(x.1.parts.length:Int))then
     za (geti x.1.parts s1) fun y2=>
     za (geti x.2.parts s1) fun y3=>
     za (zD (!(!(y2.tag==y3.tag))) (geti x.1.parts s1) (default:zO)) fun y4=>
     za (zD (!(!(y2.tag==y3.tag))) (geti x.2.parts s1) (default:zO)) fun y5=>
     za (zD (!(!(y2.tag==y3.tag))) (iG ZQ (y4.simples,y5.simples)) (default:Bool)) fun y6=>
     bif bif !(y2.tag==y3.tag)then true else !y6 then
      some (.ret false)
     else
      some (.again (w64 (s1+1)))
    else
     some (.out ())) 0 fun o7=>
  some true
def LF(ZQ:List zm×List zm->Option Bool)(x:List zm×List zm):Option Bool:=
 bif (x.1.length:Int) != (x.2.length:Int)then
  some false
 else
  zU (S:=Int) (X:=Unit) (fun s1=>
    bif decide (s1<(x.1.length:Int))then
     za (geti x.1 s1) fun y2=>
     za (geti x.2 s1) fun y3=>
     za (rD ZQ ((⟨y2.lead,y2.parts,y2.combs⟩:zm),(⟨y3.lead,y3.parts,y3.combs⟩:zm))) fun y4=>
     bif !y4 then
      some (.ret false)
     else
      some (.again (w64 (s1+1)))
    else
     some (.out ())) 0 fun o5=>
  some true
def ZQ:List zm×List zm->Option Bool:=recE (LF)
def Yy(x:List Zx×List Zx):Option Bool:=
 bif (x.1.length:Int) != (x.2.length:Int)then
  some false
 else
  zU (S:=Int) (X:=Unit) (fun s1=>
    bif decide (s1<(x.1.length:Int))then
     za (geti x.1 s1) fun y2=>
     za (geti x.2 s1) fun y3=>
     za (Dp (y2,y3)) fun y4=>
     bif !y4 then
      some (.ret false)
     else
      some (.again (w64 (s1+1)))
    else
     some (.out ())) 0 fun o5=>
  some true
def nz(x:List (List Str)×List (List Str)):Option Bool:=
 bif (x.1.length:Int) != (x.2.length:Int)then
  some false
 else
  zU (S:=Int) (X:=Unit) (fun s1=>
    bif decide (s1<(x.1.length:Int))then
     za (geti x.1 s1) fun y2=>
     za (geti x.2 s1) fun y3=>
     bif (y2.length:Int) != (y3.length:Int)then
      some (.ret false)
     else
      zU (S:=Int) (X:=Unit) (fun s4=>
        za (geti x.1 s1) fun y5=>
        bif decide (s4<(y5.length:Int))then
         za (geti x.1 s1) fun y6=>
         za (geti y6 s4) fun y7=>
         za (geti x.2 s1) fun y8=>
         za (geti y8 s4) fun y9=>
         bif !(y7==y9)then
          some (.ret (LO.ret false))
         else
          some (.again (w64 (s4+1)))
        else
         some (.out ())) 0 fun o10=>
      some (.again (w64 (s1+1)))
    else
     some (.out ())) 0 fun o11=>
  some true
def NE(Qd:List zM×List zM->Option Bool)(x:zM×zM):Option Bool:=
 za (zD (x.1.kind==x.2.kind) (ZQ (x.1.selectors,x.2.selectors)) (default:Bool)) fun y1=>
 za (zD (bif x.1.kind==x.2.kind then y1 else false) (Yy (x.1.decls,x.2.decls)) (default:Bool)) fun y2=>
 za (zD (bif bif x.1.kind==x.2.kind then y1 else false then y2 else false) (Pk ((⟨x.1.cond.kind,x.1.cond.name,x.1.cond.num,x.1.cond.decl,x.1.cond.list⟩:zw),(⟨x.2.cond.kind,x.2.cond.name,x.2.cond.num,x.2.cond.decl,x.2.cond.list⟩:zw))) (default:Bool)) fun y3=>
 za (zD (bif bif bif x.1.kind==x.2.kind then y1 else false then y2 else false then y3 else false) (nz (x.1.names,x.2.names)) (default:Bool)) fun y4=>
 za (zD (bif bif bif bif x.1.kind==x.2.kind then y1 else false then y2 else false then y3 else false then y4 else false) (Qd (x.1.rules,x.2.rules)) (default:Bool)) fun y5=>
 some (bif bif bif bif bif x.1.kind==x.2.kind then y1 else false then y2 else false then y3 else false then y4 else false then y5 else false)
def CF(Qd:List zM×List zM->Option Bool)(x:List zM×List zM):Option Bool:=
 bif (x.1.length:Int) != (x.2.length:Int)then
  some false
 else
  zU (S:=Int) (X:=Unit) (fun s1=>
    bif decide (s1<(x.1.length:Int))then
     za (geti x.1 s1) fun y2=>
     za (geti x.2 s1) fun y3=>
     za (NE Qd ((⟨y2.kind,y2.selectors,y2.decls,(⟨y2.cond.kind,y2.cond.name,y2.cond.num,y2.cond.decl,y2.cond.list⟩:zw),y2.names,y2.rules⟩:zM),(⟨y3.kind,y3.selectors,y3.decls,(⟨y3.cond.kind,y3.cond.name,y3.cond.num,y3.cond.decl,y3.cond.list⟩:zw),y3.names,y3.rules⟩:zM))) fun y4=>
     bif !y4 then
      some (.ret false)
     else
      some (.again (w64 (s1+1)))
    else
     some (.out ())) 0 fun o5=>
  some true
def Qd:List zM×List zM->Option Bool:=recE (CF)
def gz(x:Str):Option Bool:=
 bif decide ((x.length:Int)>600)then
  za (@Cm fuK ()) fun y1=>
  some y1
 else
  za (qA x) fun y2=>
  bif y2.2 != 0 then
   za (zD (bif y2.2==4 then true else y2.2==20) (@Cm fuK ()) (default:Bool)) fun y3=>
   some (bif bif y2.2==4 then true else y2.2==20 then y3 else false)
  else
   za (Ez y2.1) fun y4=>
   za (Er y2.1) fun y5=>
   za (zD (!(y5 != 0)) (ky y2.1) (default:Int)) fun y6=>
   za (zD (!(bif bif y5 != 0 then true else y6 != 0 then true else y4.2 != 0)) (QP y2.1.rules) (default:Int)) fun y7=>
   bif bif bif bif bif y5 != 0 then true else y6 != 0 then true else y4.2 != 0 then true else y4.1 != y7 then true else decide (y4.1>64)then
    some false
   else
    zU (S:=Int) (X:=Unit) (fun s8=>
      bif decide (s8<(y2.1.rules.length:Int))then
       za (geti y2.1.rules s8) fun y9=>
       za (jF (⟨y9.kind,y9.selectors,y9.decls,(⟨y9.cond.kind,y9.cond.name,y9.cond.num,y9.cond.decl,y9.cond.list⟩:zw),y9.names,y9.rules⟩:zM)) fun y10=>
       bif y10 != 0 then
        some (.ret false)
       else
        some (.again (w64 (s8+1)))
      else
       some (.out ())) 0 fun o11=>
    za (XE x) fun y12=>
    za (zD (!(bif !y12.2 then true else decide (y4.1>63))) (EE x) (default:Bool)) fun y13=>
    bif bif bif !y12.2 then true else decide (y4.1>63)then true else y13 then
     za (@Cm fuK ()) fun y14=>
     some y14
    else
     need (Ph ([64,108,97,121,101,114,32,123]:Str).length x.length)<|
     need (Ph (([64,108,97,121,101,114,32,123]:Str)++x).length ([125]:Str).length)<|
     za (qA (([64,108,97,121,101,114,32,123]:Str)++x++([125]:Str))) fun y15=>
     bif y15.2 != 0 then
      za (zD (bif y15.2==4 then true else y15.2==20) (@Cm fuK ()) (default:Bool)) fun y16=>
      some (bif bif y15.2==4 then true else y15.2==20 then y16 else false)
     else
      za (zD (!((y15.1.rules.length:Int) != 1)) (geti y15.1.rules 0) (default:zM)) fun y17=>
      bif bif (y15.1.rules.length:Int) != 1 then true else y17.kind != 4 then
       some false
      else
       zU (S:=Int) (X:=Unit) (fun s18=>
         bif decide (w64 (s18+3)<=(x.length:Int))then
          need (decide (0<=s18)&&(decide (s18<=w64 (s18+3))&&decide (w64 (s18+3)<=(x.length:Int))))<|
          need (decide (0<=s18)&&(decide (s18<=w64 (s18+3))&&decide (w64 (s18+3)<=(x.length:Int)))|| !(!(List.drop s18.toNat (List.take (w64 (s18+3)).toNat x)==[45,45,62])))<|
          bif bif List.drop s18.toNat (List.take (w64 (s18+3)).toNat x)==[45,45,62]then true else List.drop s18.toNat (List.take (w64 (s18+3)).toNat x)==[60,33,45]then
           za (@Cm fuK ()) fun y19=>
           some (.ret y19)
          else
           some (.again (w64 (s18+1)))
         else
          some (.out ())) 0 fun o20=>
       za (geti y15.1.rules 0) fun y21=>
       za (Qd (y21.rules,y2.1.rules)) fun y22=>
       za (zD y22 (@Cm fuK ()) (default:Bool)) fun y23=>
       some (bif y22 then y23 else false)
end Go.Lv.VT
end
