/- Texts. -/
import Derived.Test.YtoiadnecjabbeaaGreatDoorTy
import Derived.Test.YtoiadnecjabbeaaGreatDoorLf
noncomputable section
set_option linter.unusedSimpArgs false
set_option linter.unusedVariables false
namespace Go.Lv.VT
set_option maxRecDepth 100000
variable [Fu]
def strings_IndexByte(x:Str×Int):Option Int:=
 ze (Pz (x.1,x.2)) fun y1=>
 some y1
def Vx(x:Str):Option Bool:=
 ze (zK (!(bif x==[]then true else decide ((x.length:Int)>64))) (strings_IndexByte (x,0)) (default:Int)) fun y1=>
 some (bif bif x==[]then true else decide ((x.length:Int)>64)then true else decide (y1>=0))
def MR(x:List Str):Option Int:=
 Zp (fun(s1:Int)=>
   bif decide (s1<(x.length:Int))then
    ze (geti x s1) fun y2=>
    ze (Vx y2) fun y3=>
    bif y3 then
     some (LO.ret s1)
    else
     some (LO.again (w64 (s1+1)))
   else
    some (LO.out ()):Int->Option (LO (Int) (Unit) _)) 0 fun o4=>
 some (-1)
def XR(x:List Str):Option Bool:=
 ze (MR x) fun y1=>
 some (decide (y1>=0))
def MP(x:List Str):Option Bool:=
 ze (zK (bif decide ((x.length:Int)>0)then decide ((x.length:Int)<=16)else false) (XR x) (default:Bool)) fun y1=>
 some (bif bif decide ((x.length:Int)>0)then decide ((x.length:Int)<=16)else false then !y1 else false)
def nP(x:List Str):Option Bool:=
 ze (MP x) fun y1=>
 some (!y1)
def NR(x:List (List Str)):Option Int:=
 Zp (fun(s1:Int)=>
   bif decide (s1<(x.length:Int))then
    ze (geti x s1) fun y2=>
    ze (nP y2) fun y3=>
    bif y3 then
     some (LO.ret s1)
    else
     some (LO.again (w64 (s1+1)))
   else
    some (LO.out ()):Int->Option (LO (Int) (Unit) _)) 0 fun o4=>
 some (-1)
def VR(x:List (List Str)):Option Bool:=
 ze (NR x) fun y1=>
 some (decide (y1>=0))
def fI(Qk:List zq->Option Int)(x:List zq):Option Int:=
 Zp (fun(s1:Int×Int)=>
   bif decide (s1.2<(x.length:Int))then
    ze (geti x s1.2) fun y2=>
    Zp (fun(s3:Int×Int)=>
      bif decide (s3.2<(y2.parts.length:Int))then
       ze (geti y2.parts s3.2) fun y4=>
       Zp (fun(s5:Int×Int)=>
         bif decide (s5.2<(y4.simples.length:Int))then
          Zv (X:=Int×Int) (
            ze (geti y4.simples s5.2) fun y6=>
            bif bif y6.kind==3 then true else bif decide (y6.kind>=9)then !(bif bif bif y6.kind==9 then true else y6.kind==10 then !y6.of_ else false then y6.anb.a==0&&(y6.anb.b==1&&true)else false)else false then
             ze (Qk y6.list) fun y7=>
             some (LX.out (if w64 (y7+1)>s5.1 then w64 (y7+1)else s5.1,s5.2))
            else
             some (LX.out (s5.1,s5.2))) fun j8=>
          some (LO.again (j8.1,w64 (j8.2+1)))
         else
          some (LO.out s5.1):Int×Int->Option (LO (Int×Int) (Int) _)) (s3.1,0) fun o9=>
       some (LO.again (o9,w64 (s3.2+1)))
      else
       some (LO.out s3.1):Int×Int->Option (LO (Int×Int) (Int) _)) (s1.1,0) fun o10=>
    some (LO.again (o10,w64 (s1.2+1)))
   else
    some (LO.out s1.1):Int×Int->Option (LO (Int×Int) (Int) _)) (0,0) fun o11=>
 some o11
def Qk:List zq->Option Int:=recE (fI)
def Au(x:Str×Int):Option Bool:=
 ze (zK (!(decide ((x.1.length:Int)>x.2))) (strings_IndexByte (x.1,0)) (default:Int)) fun y1=>
 some (bif decide ((x.1.length:Int)>x.2)then true else decide (y1>=0))
def Cu(x:Str):Option Bool:=
 ze (zK (!(x==[])) (Au (x,64)) (default:Bool)) fun y1=>
 some (bif !(x==[])then !y1 else false)
def ZL(x:Str):Option Str:=
 need (decide (x.length<=maxLen))<|
 Zp (fun(s1:Int×List UInt8)=>
   bif decide (s1.1<(x.length:Int))then
    Zv (X:=Int×List UInt8) (
      need (decide (0<=s1.1)&&decide (s1.1<(s1.2.length:Int)))<|
      ze s1.2[s1.1.toNat]? fun y2=>
      bif bif decide (65<=(y2.toNat:Int))then decide ((y2.toNat:Int)<=90)else false then
       need (decide (0<=s1.1)&&decide (s1.1<(s1.2.length:Int)))<|
       ze s1.2[s1.1.toNat]? fun y3=>
       need (decide (0<=s1.1)&&decide (s1.1<(s1.2.length:Int)))<|
       ze s1.2[s1.1.toNat]? fun y4=>
       ze (Ef (ibOr IntKind.u8 (y3.toNat:Int) 32)) fun y5=>
       some (LX.out (s1.1,List.set s1.2 s1.1.toNat y5))
      else
       some (LX.out (s1.1,s1.2))) fun j6=>
    some (LO.again (w64 (j6.1+1),j6.2))
   else
    some (LO.out s1.2):Int×List UInt8->Option (LO (Int×List UInt8) (List UInt8) _)) (0,x) fun o7=>
 some o7
def Bu(x:Str):Option Bool:=
 ze (Cu x) fun y1=>
 ze (zK y1 (ZL x) (default:Str)) fun y2=>
 some (bif y1 then y2==x else false)
def tC(x:zF):Option (Bool×Bool):=
 Zv (X:=Bool) (
   bif x.kind==9 then
    some (LX.out (x.kind==9))
   else
    some (LX.out (x.kind==10))) fun j1=>
 bif j1 then
  some (x.of_,false)
 else
  Zv (X:=Bool) (
    bif x.kind==11 then
     some (LX.out (x.kind==11))
    else
     some (LX.out (x.kind==12))) fun j2=>
  bif j2 then
   some (true,true)
  else
   Zv (X:=Bool) (
     bif x.kind==13 then
      some (LX.out (x.kind==13))
     else
      some (LX.out (x.kind==14))) fun j3=>
   bif j3 then
    some (true,false)
   else
    some (false,true)
def Qd(x:zf×Int):Option (zf×Bool):=
 bif bif x.1.deep==3 then true else bif x.1.has then x.2==14 else false then
  some ((⟨0,false⟩:zf),false)
 else
  some ((⟨w64 (x.1.deep+1),bif x.1.has then true else x.2==14⟩:zf),true)
def iB(x:Int):Option Bool:=
 some (bif decide ((-1000000000)<=x)then decide (x<=1000000000)else false)
def Dt(x:VAnb):Option Int:=
 ze (iB x.a) fun y1=>
 ze (zK (!(!y1)) (iB x.b) (default:Bool)) fun y2=>
 bif bif !y1 then true else !y2 then
  some 8
 else
  some 0
def gI(zB:zq×zf×Bool->Option Bool)(x:zq×zf×zF):Option Bool:=
 ze (zB ((⟨x.1.lead,x.1.parts,x.1.combs⟩:zq),x.2.1,x.2.2.kind==14)) fun y1=>
 some (!y1)
def QC(zB:zq×zf×Bool->Option Bool)(x:List zq×zf×zF):Option Int:=
 Zp (fun(s1:Int)=>
   bif decide (s1<(x.1.length:Int))then
    ze (geti x.1 s1) fun y2=>
    ze (gI zB ((⟨y2.lead,y2.parts,y2.combs⟩:zq),x.2.1,(⟨x.2.2.kind,x.2.2.name,x.2.2.op,x.2.2.value,x.2.2.fold,x.2.2.anb,x.2.2.of_,x.2.2.list⟩:zF))) fun y3=>
    bif y3 then
     some (LO.ret s1)
    else
     some (LO.again (w64 (s1+1)))
   else
    some (LO.out ()):Int->Option (LO (Int) (Unit) _)) 0 fun o4=>
 some (-1)
def ql(zB:zq×zf×Bool->Option Bool)(x:List zq×zf×zF):Option Bool:=
 ze (QC zB (x.1,x.2.1,(⟨x.2.2.kind,x.2.2.name,x.2.2.op,x.2.2.value,x.2.2.fold,x.2.2.anb,x.2.2.of_,x.2.2.list⟩:zF))) fun y1=>
 some (decide (y1>=0))
def Cy(zB:zq×zf×Bool->Option Bool)(x:zF×zf):Option Bool:=
 ze (tC (⟨x.1.kind,x.1.name,x.1.op,x.1.value,x.1.fold,x.1.anb,x.1.of_,x.1.list⟩:zF)) fun y1=>
 Zv (X:=Unit) (
   bif y1.1 then
    ze (Qd (x.2,x.1.kind)) fun y2=>
    ze (zK (!(bif !y2.2 then true else bif !y1.2 then(x.1.list.length:Int)==0 else false)) (ql zB (x.1.list,y2.1,(⟨x.1.kind,x.1.name,x.1.op,x.1.value,x.1.fold,x.1.anb,x.1.of_,x.1.list⟩:zF))) (default:Bool)) fun y3=>
    bif bif bif !y2.2 then true else bif !y1.2 then(x.1.list.length:Int)==0 else false then true else y3 then
     some (LX.ret false)
    else
     some (LX.out ())
   else
    bif decide ((x.1.list.length:Int)>0)then
     some (LX.ret false)
    else
     some (LX.out ())) fun j4=>
 bif bif bif !(x.1.kind==3)then bif bif x.1.op != 0 then true else !(x.1.value==[])then true else x.1.fold else false then true else bif !(bif x.1.kind==9 then true else x.1.kind==10)then bif x.1.of_ then true else !(x.1.anb.a==0&&(x.1.anb.b==0&&true))else false then
  some false
 else
  Zv (X:=Bool) (
    bif x.1.kind==1 then
     some (LX.out (x.1.kind==1))
    else
     some (LX.out (x.1.kind==2))) fun j5=>
  bif j5 then
   ze (Cu x.1.name) fun y6=>
   some y6
  else
   bif x.1.kind==3 then
    ze (Bu x.1.name) fun y7=>
    ze (zK (bif y7 then decide (x.1.op<=6)else false) (Au (x.1.value,400)) (default:Bool)) fun y8=>
    some (bif bif bif y7 then decide (x.1.op<=6)else false then !y8 else false then bif x.1.op != 0 then true else bif x.1.value==[]then !x.1.fold else false else false)
   else
    ze (zK (!(!(bif x.1.kind==9 then true else x.1.kind==10))&&(bif bif x.1.name==[]then decide (x.1.kind>=4)else false then decide (x.1.kind<=14)else false)) (Dt x.1.anb) (default:Int)) fun y9=>
    some (bif bif bif x.1.name==[]then decide (x.1.kind>=4)else false then decide (x.1.kind<=14)else false then bif !(bif x.1.kind==9 then true else x.1.kind==10)then true else y9==0 else false)
def QE(zB:zq×zf×Bool->Option Bool)(x:zO×zf):Option Bool:=
 ze (zK (bif !(x.1.tag==[])then !(x.1.tag==[42])else false) (Bu x.1.tag) (default:Bool)) fun y1=>
 bif bif bif bif !(x.1.tag==[])then !(x.1.tag==[42])else false then !y1 else false then true else decide ((x.1.simples.length:Int)>64)then
  some false
 else
  Zp (fun(s2:Int)=>
    bif decide (s2<(x.1.simples.length:Int))then
     ze (geti x.1.simples s2) fun y3=>
     ze (Cy zB ((⟨y3.kind,y3.name,y3.op,y3.value,y3.fold,y3.anb,y3.of_,y3.list⟩:zF),x.2)) fun y4=>
     bif !y4 then
      some (LO.ret false)
     else
      some (LO.again (w64 (s2+1)))
    else
     some (LO.out ()):Int->Option (LO (Int) (Unit) _)) 0 fun o5=>
  some (bif !(x.1.tag==[])then true else decide ((x.1.simples.length:Int)>0))
def bI(zB:zq×zf×Bool->Option Bool)(x:zO×zf):Option Bool:=
 ze (QE zB ((⟨x.1.tag,x.1.simples⟩:zO),x.2)) fun y1=>
 some (!y1)
def QQ(zB:zq×zf×Bool->Option Bool)(x:List zO×zf):Option Int:=
 Zp (fun(s1:Int)=>
   bif decide (s1<(x.1.length:Int))then
    ze (geti x.1 s1) fun y2=>
    ze (bI zB ((⟨y2.tag,y2.simples⟩:zO),x.2)) fun y3=>
    bif y3 then
     some (LO.ret s1)
    else
     some (LO.again (w64 (s1+1)))
   else
    some (LO.out ()):Int->Option (LO (Int) (Unit) _)) 0 fun o4=>
 some (-1)
def qx(zB:zq×zf×Bool->Option Bool)(x:List zO×zf):Option Bool:=
 ze (QQ zB (x.1,x.2)) fun y1=>
 some (decide (y1>=0))
def OD(zB:zq×zf×Bool->Option Bool)(x:zq×zf×Bool):Option Bool:=
 bif bif bif bif !(x.2.2==(x.1.lead != 0))then true else decide (x.1.lead>4)then true else w64 ((x.1.combs.length:Int)+1) != (x.1.parts.length:Int)then true else decide ((x.1.parts.length:Int)>64)then
  some false
 else
  Zp (fun(s1:Int)=>
    bif decide (s1<(x.1.combs.length:Int))then
     ze (geti x.1.combs s1) fun y2=>
     bif bif decide ((y2.toNat:Int)<1)then true else decide ((y2.toNat:Int)>4)then
      some (LO.ret false)
     else
      some (LO.again (w64 (s1+1)))
    else
     some (LO.out ()):Int->Option (LO (Int) (Unit) _)) 0 fun o3=>
  ze (qx zB (x.1.parts,x.2.1)) fun y4=>
  some (!y4)
def zB:zq×zf×Bool->Option Bool:=recE (OD)
def dQ(x:zq):Option Bool:=
 ze (zB ((⟨x.lead,x.parts,x.combs⟩:zq),(⟨0,false⟩:zf),false)) fun y1=>
 some (!y1)
def PR(x:List zq):Option Int:=
 Zp (fun(s1:Int)=>
   bif decide (s1<(x.length:Int))then
    ze (geti x s1) fun y2=>
    ze (dQ (⟨y2.lead,y2.parts,y2.combs⟩:zq)) fun y3=>
    bif y3 then
     some (LO.ret s1)
    else
     some (LO.again (w64 (s1+1)))
   else
    some (LO.out ()):Int->Option (LO (Int) (Unit) _)) 0 fun o4=>
 some (-1)
def WR(x:List zq):Option Bool:=
 ze (PR x) fun y1=>
 some (decide (y1>=0))
def PD(qU:List zq->Option Int)(x:List zq):Option Int:=
 Zp (fun(s1:Int×Int)=>
   bif decide (s1.2<(x.length:Int))then
    ze (geti x s1.2) fun y2=>
    Zp (fun(s3:Int×Int)=>
      bif decide (s3.2<(y2.parts.length:Int))then
       ze (geti y2.parts s3.2) fun y4=>
       Zp (fun(s5:Int×Int)=>
         bif decide (s5.2<(y4.simples.length:Int))then
          ze (geti y4.simples s5.2) fun y6=>
          ze (qU y6.list) fun y7=>
          some (LO.again (w64 (s5.1+y7),w64 (s5.2+1)))
         else
          some (LO.out s5.1):Int×Int->Option (LO (Int×Int) (Int) _)) (s3.1,0) fun o8=>
       some (LO.again (o8,w64 (s3.2+1)))
      else
       some (LO.out s3.1):Int×Int->Option (LO (Int×Int) (Int) _)) (s1.1,0) fun o9=>
    some (LO.again (o9,w64 (s1.2+1)))
   else
    some (LO.out s1.1):Int×Int->Option (LO (Int×Int) (Int) _)) ((x.length:Int),0) fun o10=>
 some o10
def qU:List zq->Option Int:=recE (PD)
def EQ(x:List zq):Option Int:=
 ze (zK (!((x.length:Int)==0)) (WR x) (default:Bool)) fun y1=>
 bif bif (x.length:Int)==0 then true else y1 then
  some 8
 else
  ze (qU x) fun y2=>
  bif decide (y2>64)then
   some 4
  else
   some 0
def IC(x:zt):Option Bool:=
 some (bif bif bif bif bif bif x.kind==0 then x.name==[]else false then x.num==0 else false then(x.list.length:Int)==0 else false then x.decl.name==[]else false then(x.decl.value.length:Int)==0 else false then !x.decl.important else false)
def Wt(x:Int):Option Int:=
 bif x==2 then
  some 22
 else
  Zv (X:=Bool) (
    bif x==19 then
     some (LX.out (x==19))
    else
     bif x==21 then
      some (LX.out (x==21))
     else
      some (LX.out (x==23))) fun j1=>
  bif j1 then
   some (wu8 (x+1))
  else
   some 0
def xB(Ik:List za×Int->Option Zq)(x:List za×Int):Option Zq:=
 Zp (fun(s1:Int×Zq)=>
   bif decide (s1.1<(x.1.length:Int))then
    Zv (X:=Int×Zq) (
      ze (geti x.1 s1.1) fun y2=>
      ze (Wt y2.token.kind) fun y3=>
      Zv (X:=Zq) (
        bif bif bif x.2 != 0 then y2.token.kind==x.2 else false then true else bif y3==0 then decide ((y2.list.length:Int)>0)else false then
         some (LX.out (⟨s1.2.depth,w64 (s1.2.tokens+1),true⟩:Zq))
        else
         some (LX.out (⟨s1.2.depth,w64 (s1.2.tokens+1),s1.2.bad⟩:Zq))) fun j4=>
      bif y3==0 then
       some (LX.out (s1.1,j4))
      else
       ze (Ik (y2.list,y3)) fun y5=>
       some (LX.out (s1.1,(⟨if w64 (y5.depth+1)>j4.depth then w64 (y5.depth+1)else j4.depth,w64 (w64 (j4.tokens+y5.tokens)+1),bif j4.bad then true else y5.bad⟩:Zq)))) fun j6=>
    some (LO.again (w64 (j6.1+1),j6.2))
   else
    some (LO.out s1.2):Int×Zq->Option (LO (Int×Zq) (Zq) _)) (0,(⟨0,0,false⟩:Zq)) fun o7=>
 some o7
def Ik:List za×Int->Option Zq:=recE (xB)
def Ck(x:List za):Option Int:=
 ze (Ik (x,0)) fun y1=>
 bif decide (y1.depth>16)then
  some 20
 else
  bif decide (y1.tokens>1500)then
   some 4
  else
   bif y1.bad then
    some 8
   else
    some 0
def Lt(x:List za):Option (Int×Int):=
 ze (Ck x) fun y1=>
 bif y1 != 0 then
  some (0,y1)
 else
  ze (Ik (x,0)) fun y2=>
  some (y2.depth,0)
def wC(Rl:List za×List zk->Option (List zk))(x:List za×List zk):Option (List zk):=
 Zp (fun(s1:Int×List zk)=>
   bif decide (s1.1<(x.1.length:Int))then
    Zv (X:=Int×List zk) (
      ze (geti x.1 s1.1) fun y2=>
      need (Zw s1.2.length 1 56)<|
      ze (Wt y2.token.kind) fun y3=>
      bif y3 != 0 then
       ze (Rl (y2.list,s1.2++[y2.token])) fun y4=>
       need (Zw y4.length 1 56)<|
       some (LX.out (s1.1,y4++[(⟨y3,[],0,[],false⟩:zk)]))
      else
       some (LX.out (s1.1,s1.2++[y2.token]))) fun j5=>
    some (LO.again (w64 (j5.1+1),j5.2))
   else
    some (LO.out s1.2):Int×List zk->Option (LO (Int×List zk) (List zk) _)) (0,x.2) fun o6=>
 some o6
def Rl:List za×List zk->Option (List zk):=recE (wC)
def yB(x:List za):Option (List zk):=
 Zp (fun(s1:Int×List zk)=>
   bif decide (s1.1<(x.length:Int))then
    Zv (X:=Int×List zk) (
      ze (geti x s1.1) fun y2=>
      need (Zw s1.2.length 1 56)<|
      ze (Wt y2.token.kind) fun y3=>
      bif y3 != 0 then
       ze (Rl (y2.list,s1.2++[y2.token])) fun y4=>
       need (Zw y4.length 1 56)<|
       some (LX.out (s1.1,y4++[(⟨y3,[],0,[],false⟩:zk)]))
      else
       some (LX.out (s1.1,s1.2++[y2.token]))) fun j5=>
    some (LO.again (w64 (j5.1+1),j5.2))
   else
    some (LO.out s1.2):Int×List zk->Option (LO (Int×List zk) (List zk) _)) (0,[]) fun o6=>
 some o6
def Xw(x:List za):Option (List zk×Int):=
 ze (Ck x) fun y1=>
 bif y1 != 0 then
  some ([],y1)
 else
  ze (yB x) fun y2=>
  some (y2,0)
def stringslite_HasPrefix(x:Str×Str):Option Bool:=
 need (decide (0<=(x.2.length:Int))&&decide ((x.2.length:Int)<=(x.1.length:Int))|| !(decide ((x.1.length:Int)>=(x.2.length:Int))))<|
 some (bif decide ((x.1.length:Int)>=(x.2.length:Int))then List.take x.2.length x.1==x.2 else false)
def strings_HasPrefix(x:Str×Str):Option Bool:=
 ze (stringslite_HasPrefix (x.1,x.2)) fun y1=>
 some y1
def eB(x:Str):Option Bool:=
 ze (zK (!(bif x==[]then true else decide ((x.length:Int)>64))) (strings_IndexByte (x,0)) (default:Int)) fun y1=>
 bif bif bif x==[]then true else decide ((x.length:Int)>64)then true else decide (y1>=0)then
  some false
 else
  ze (strings_HasPrefix (x,[45,45])) fun y2=>
  bif y2 then
   some (!(x==[45,45]))
  else
   ze (ZL x) fun y3=>
   some (x==y3)
def stringslite_TrimPrefix(x:Str×Str):Option Str:=
 ze (stringslite_HasPrefix (x.1,x.2)) fun y1=>
 bif y1 then
  need (decide (0<=(x.2.length:Int))&&decide ((x.2.length:Int)<=(x.1.length:Int)))<|
  some (List.drop x.2.length x.1)
 else
  some x.1
def strings_TrimPrefix(x:Str×Str):Option Str:=
 ze (stringslite_TrimPrefix (x.1,x.2)) fun y1=>
 some y1
def Nt(x:Int):Option Bool:=
 some (bif decide (48<=x)then decide (x<=57)else false)
def YC(x:Str):Option Bool:=
 ze (strings_TrimPrefix (x,[45])) fun y1=>
 ze (zK (!(y1==[])) (geti y1 0) 0) fun y2=>
 ze (zK (!(y1==[])) (Nt (y2.toNat:Int)) (default:Bool)) fun y3=>
 some (bif !(y1==[])then y3 else false)
def EP(x:Int):Option Bool:=
 some (bif bif decide (97<=ibOr IntKind.u8 x 32)then decide (ibOr IntKind.u8 x 32<=122)else false then decide (x<128)else false)
def dB(x:Int):Option Bool:=
 ze (EP x) fun y1=>
 ze (zK (!y1) (Nt x) (default:Bool)) fun y2=>
 some (bif bif bif bif y1 then true else y2 then true else x==95 then true else x==45 then true else decide (x>=128))
def strings_Contains(x:Str×Str):Option Bool:=
 ze (ik (x.1,x.2)) fun y1=>
 some (decide (y1>=0))
def IB(x:zk):Option Bool:=
 need (Sj x.text.length x.unit.length)<|
 ze (strings_IndexByte (x.text++x.unit,0)) fun y1=>
 Zv (X:=Bool×Bool×Bool×Bool×Bool) (
   Zv (X:=Bool×Bool×Bool×Bool×Bool×Bool) (
     bif x.kind==1 then
      some (LX.out (false,false,false,false,decide (y1<0),x.kind==1))
     else
      bif x.kind==2 then
       some (LX.out (false,false,false,false,decide (y1<0),x.kind==2))
      else
       some (LX.out (false,false,false,false,decide (y1<0),x.kind==3))) fun j2=>
   bif j2.2.2.2.2.2 then
    some (LX.out (true,j2.2.1,j2.2.2.1,j2.2.2.2.1,bif j2.2.2.2.2.1 then !(x.text==[])else false))
   else
    bif x.kind==4 then
     ze (zK (!x.flag&&(bif j2.2.2.2.2.1 then !(x.text==[])else false)) (YC x.text) (default:Bool)) fun y3=>
     ze (zK (y3&&(!x.flag&&(bif j2.2.2.2.2.1 then !(x.text==[])else false))) (strings_HasPrefix (x.text,[45,45])) (default:Bool)) fun y4=>
     some (LX.out (true,j2.2.1,j2.2.2.1,true,bif bif j2.2.2.2.2.1 then !(x.text==[])else false then bif bif x.flag then true else bif y3 then !y4 else false then true else x.text==[45]else false))
    else
     Zv (X:=Bool×Bool×Bool×Bool×Bool×Bool) (
       bif x.kind==5 then
        some (LX.out (j2.1,j2.2.1,j2.2.2.1,j2.2.2.2.1,j2.2.2.2.2.1,x.kind==5))
       else
        some (LX.out (j2.1,j2.2.1,j2.2.2.1,j2.2.2.2.1,j2.2.2.2.2.1,x.kind==7))) fun j5=>
     bif j5.2.2.2.2.2 then
      some (LX.out (true,j5.2.1,j5.2.2.1,j5.2.2.2.1,j5.2.2.2.2.1))
     else
      bif x.kind==9 then
       ze (zK (bif j5.2.2.2.2.1 then(x.text.length:Int)==1 else false) (geti x.text 0) 0) fun y6=>
       ze (zK (bif j5.2.2.2.2.1 then(x.text.length:Int)==1 else false) (dB (y6.toNat:Int)) (default:Bool)) fun y7=>
       ze (zK (bif bif bif j5.2.2.2.2.1 then(x.text.length:Int)==1 else false then !y7 else false then true else x.text==[45]) (strings_Contains ([32,9,10,12,13,34,39,58,59,44,91,93,40,41,123,125],x.text)) (default:Bool)) fun y8=>
       some (LX.out (true,j5.2.1,j5.2.2.1,j5.2.2.2.1,bif bif bif bif j5.2.2.2.2.1 then(x.text.length:Int)==1 else false then !y7 else false then true else x.text==[45]then !y8 else false))
      else
       Zv (X:=Bool×Bool×Bool×Bool×Bool) (
         bif x.kind==10 then
          some (LX.out (j5.2.1,j5.2.2.1,j5.2.2.2.1,j5.2.2.2.2.1,x.kind==10))
         else
          bif x.kind==11 then
           some (LX.out (j5.2.1,j5.2.2.1,j5.2.2.2.1,j5.2.2.2.2.1,x.kind==11))
          else
           some (LX.out (j5.2.1,j5.2.2.1,j5.2.2.2.1,j5.2.2.2.2.1,x.kind==12))) fun j9=>
       bif j9.2.2.2.2 then
        some (LX.out (j5.1,x.kind==12,true,x.kind != 11,bif bif bif bif j9.2.2.2.1 then decide (x.num>=(-1000000000000))else false then decide (x.num<=1000000000000)else false then bif !x.flag then true else Int.tmod x.num 1000==0 else false then bif !(x.kind==12)then true else !(x.unit==[])else false))
       else
        some (LX.out (j5.1,j9.1,j9.2.1,j9.2.2.1,bif decide (x.kind>=13)then decide (x.kind<=24)else false))) fun j10=>
 some (bif bif bif bif j10.2.2.2.2 then bif j10.1 then true else x.text==[]else false then bif j10.2.1 then true else x.unit==[]else false then bif j10.2.2.1 then true else x.num==0 else false then bif j10.2.2.2.1 then true else !x.flag else false)
def Bn(x:(Int×Int)×List zk):Option Bool:=
 ze (zK (decide (x.1.1<(x.2.length:Int))) (geti x.2 x.1.1) (default:zk)) fun y1=>
 some (bif decide (x.1.1<(x.2.length:Int))then y1.kind==x.1.2 else false)
def ZZ(x:Str×Str):Option Bool:=
 ze (ZL x.1) fun y1=>
 ze (ZL x.2) fun y2=>
 some (y1==y2)
def cB(x:List zk):Option Int:=
 ze (geti x 0) fun y1=>
 bif bif y1.kind==9 then y1.text==[92]else false then
  ze (Bn ((1,13),x)) fun y2=>
  bif !y2 then
   some 0
  else
   some 2
 else
  ze (zK (y1.kind==2) (ZZ (y1.text,[117,114,108])) (default:Bool)) fun y3=>
  bif bif y1.kind==2 then y3 else false then
   Zv (X:=Int) (
     ze (Bn ((1,13),x)) fun y4=>
     bif y4 then
      some (LX.out 2)
     else
      some (LX.out 1)) fun j5=>
   ze (Bn ((j5,5),x)) fun y6=>
   bif !y6 then
    some 0
   else
    some (w64 (j5+1))
  else
   some 1
def ow(x:List zk):Option Int:=
 bif decide ((x.length:Int)>1500)then
  some 4
 else
  Zp (fun(s1:Int)=>
    bif decide (s1<(x.length:Int))then
     ze (geti x s1) fun y2=>
     ze (IB y2) fun y3=>
     need (decide (0<=s1)&&decide (s1<=(x.length:Int))|| !(!(!y3)))<|
     ze (zK (!(!y3)) (cB (List.drop s1.toNat x)) (default:Int)) fun y4=>
     bif bif !y3 then true else y4==0 then
      some (LO.ret 8)
     else
      some (LO.again (w64 (s1+1)))
    else
     some (LO.out ()):Int->Option (LO (Int) (Unit) _)) 0 fun o5=>
  some 0
def Qb(x:za×Int):Option Bool:=
 some (x.1.token.kind==x.2)
def Gy(Zj:List za->Option Bool)(x:za):Option Bool:=
 ze (Qb ((⟨x.token,x.list⟩:za),20)) fun y1=>
 ze (zK (!y1) (Qb ((⟨x.token,x.list⟩:za),22)) (default:Bool)) fun y2=>
 ze (zK (!(bif y1 then true else y2)) (Qb ((⟨x.token,x.list⟩:za),24)) (default:Bool)) fun y3=>
 ze (zK (!(bif bif y1 then true else y2 then true else y3)) (Zj x.list) (default:Bool)) fun y4=>
 some (bif bif bif y1 then true else y2 then true else y3 then true else y4)
def lI(Zj:List za->Option Bool)(x:List za):Option Int:=
 Zp (fun(s1:Int)=>
   bif decide (s1<(x.length:Int))then
    ze (geti x s1) fun y2=>
    ze (Gy Zj (⟨y2.token,y2.list⟩:za)) fun y3=>
    bif y3 then
     some (LO.ret s1)
    else
     some (LO.again (w64 (s1+1)))
   else
    some (LO.out ()):Int->Option (LO (Int) (Unit) _)) 0 fun o4=>
 some (-1)
def QP(Zj:List za->Option Bool)(x:List za):Option Bool:=
 ze (lI Zj x) fun y1=>
 some (decide (y1>=0))
def FD(Zj:List za->Option Bool)(x:List za):Option Bool:=
 ze (QP Zj x) fun y1=>
 some y1
def Zj:List za->Option Bool:=recE (FD)
def vo(x:za):Option Bool:=
 ze (Qb ((⟨x.token,x.list⟩:za),9)) fun y1=>
 some (bif y1 then x.token.text==[33]else false)
def aC(x:za):Option Bool:=
 ze (Qb ((⟨x.token,x.list⟩:za),17)) fun y1=>
 ze (zK (!y1) (vo (⟨x.token,x.list⟩:za)) (default:Bool)) fun y2=>
 some (bif y1 then true else y2)
def Q5(x:List za):Option Int:=
 Zp (fun(s1:Int)=>
   bif decide (s1<(x.length:Int))then
    ze (geti x s1) fun y2=>
    ze (aC (⟨y2.token,y2.list⟩:za)) fun y3=>
    bif y3 then
     some (LO.ret s1)
    else
     some (LO.again (w64 (s1+1)))
   else
    some (LO.out ()):Int->Option (LO (Int) (Unit) _)) 0 fun o4=>
 some (-1)
def qB(x:List za):Option Bool:=
 ze (Q5 x) fun y1=>
 some (decide (y1>=0))
def Ep(x:Zh):Option Int:=
 ze (Xw x.value) fun y1=>
 ze (eB x.name) fun y2=>
 ze (zK (!(bif !y2 then true else y1.2 != 0)) (ow y1.1) (default:Int)) fun y3=>
 ze (zK (!(bif bif !y2 then true else y1.2 != 0 then true else y3 != 0)) (Zj x.value) (default:Bool)) fun y4=>
 bif bif bif bif !y2 then true else y1.2 != 0 then true else y3 != 0 then true else y4 then
  some 8
 else
  ze (qB x.value) fun y5=>
  bif y5 then
   some 8
  else
   ze (zK ((x.value.length:Int)==0) (strings_HasPrefix (x.name,[45,45])) (default:Bool)) fun y6=>
   ze (zK (decide ((x.value.length:Int)>0)&& !(bif (x.value.length:Int)==0 then !y6 else false)) (geti x.value 0) (default:za)) fun y7=>
   ze (zK (decide ((x.value.length:Int)>0)&& !(bif (x.value.length:Int)==0 then !y6 else false)) (Qb ((⟨y7.token,y7.list⟩:za),13)) (default:Bool)) fun y8=>
   ze (zK (!y8&&(decide ((x.value.length:Int)>0)&& !(bif (x.value.length:Int)==0 then !y6 else false))) (geti x.value (w64 ((x.value.length:Int) - 1))) (default:za)) fun y9=>
   ze (zK (!y8&&(decide ((x.value.length:Int)>0)&& !(bif (x.value.length:Int)==0 then !y6 else false))) (Qb ((⟨y9.token,y9.list⟩:za),13)) (default:Bool)) fun y10=>
   bif bif bif (x.value.length:Int)==0 then !y6 else false then true else bif decide ((x.value.length:Int)>0)then bif y8 then true else y10 else false then
    some 8
   else
    some 0
def UI(Dn:zt->Option Int)(x:zt):Option Int:=
 Zv (X:=Int) (
   bif bif x.kind==5 then true else x.kind==6 then
    some (LX.out 1)
   else
    some (LX.out 0)) fun j1=>
 Zp (fun(s2:Int×Int)=>
   bif decide (s2.2<(x.list.length:Int))then
    ze (geti x.list s2.2) fun y3=>
    ze (Dn (⟨y3.kind,y3.name,y3.num,y3.decl,y3.list⟩:zt)) fun y4=>
    some (LO.again (if y4>s2.1 then y4 else s2.1,w64 (s2.2+1)))
   else
    some (LO.out s2.1):Int×Int->Option (LO (Int×Int) (Int) _)) (j1,0) fun o5=>
 some o5
def Dn:zt->Option Int:=recE (UI)
def Ol(x:zt):Option Bool:=
 some (bif bif bif bif x.name==[]then x.num==0 else false then x.decl.name==[]else false then(x.decl.value.length:Int)==0 else false then !x.decl.important else false)
def slices_Index_string(x:List Str×Str):Option Int:=
 Zp (fun(s1:Int)=>
   bif decide (s1<(x.1.length:Int))then
    ze (geti x.1 s1) fun y2=>
    bif x.2==y2 then
     some (LO.ret s1)
    else
     some (LO.again (w64 (s1+1)))
   else
    some (LO.out ()):Int->Option (LO (Int) (Unit) _)) 0 fun o3=>
 some (-1)
def slices_Contains_string(x:List Str×Str):Option Bool:=
 ze (slices_Index_string (x.1,x.2)) fun y1=>
 some (decide (y1>=0))
def Gx(x:Str):Option Bool:=
 ze (slices_Contains_string ([[],[97,110,100],[111,114],[110,111,116],[111,110,108,121]],x)) fun y1=>
 ze (zK (bif !y1 then decide ((x.length:Int)<=64)else false) (ZL x) (default:Str)) fun y2=>
 ze (zK (bif bif !y1 then decide ((x.length:Int)<=64)else false then y2==x else false) (strings_IndexByte (x,0)) (default:Int)) fun y3=>
 some (bif bif bif !y1 then decide ((x.length:Int)<=64)else false then y2==x else false then decide (y3<0)else false)
def xH(x:List Int):Option Int:=
 Zp (fun(s1:Int)=>
   bif decide (s1<(x.length:Int))then
    ze (geti x s1) fun y2=>
    bif bif decide (y2<(-1000000000000))then true else decide (y2>1000000000000)then
     some (LO.ret 8)
    else
     some (LO.again (w64 (s1+1)))
   else
    some (LO.out ()):Int->Option (LO (Int) (Unit) _)) 0 fun o3=>
 some 0
def Pp(x:Int):Option Int:=
 ze (xH [x]) fun y1=>
 some y1
def mH(x:zt):Option Bool:=
 ze (zK (!(x.kind != 1)) (Ol (⟨x.kind,x.name,x.num,x.decl,x.list⟩:zt)) (default:Bool)) fun y1=>
 bif bif bif x.kind != 1 then true else !y1 then true else(x.list.length:Int)==0 then
  some false
 else
  Zp (fun(s2:Int)=>
    bif decide (s2<(x.list.length:Int))then
     Zv (X:=Int) (
       ze (geti x.list s2) fun y3=>
       ze (zK (!(decide ((y3.list.length:Int)>0))) (Ol (⟨y3.kind,[],0,y3.decl,y3.list⟩:zt)) (default:Bool)) fun y4=>
       bif bif decide ((y3.list.length:Int)>0)then true else !y4 then
        some (LX.ret (LO.ret false))
       else
        bif y3.kind==4 then
         ze (zK (!(bif decide (s2>0)then true else y3.num != 0)) (Gx y3.name) (default:Bool)) fun y5=>
         bif bif bif decide (s2>0)then true else y3.num != 0 then true else !y5 then
          some (LX.ret (LO.ret false))
         else
          some (LX.out s2)
        else
         Zv (X:=Bool) (
           bif y3.kind==5 then
            some (LX.out (y3.kind==5))
           else
            some (LX.out (y3.kind==6))) fun j6=>
         bif j6 then
          ze (zK (!(bif !(y3.name==[])then true else decide (y3.num<0))) (Pp y3.num) (default:Int)) fun y7=>
          bif bif bif !(y3.name==[])then true else decide (y3.num<0)then true else y7 != 0 then
           some (LX.ret (LO.ret false))
          else
           some (LX.out s2)
         else
          some (LX.ret (LO.ret false))) fun j8=>
     some (LO.again (w64 (j8+1)))
    else
     some (LO.out ()):Int->Option (LO (Int) (Unit) _)) 0 fun o9=>
  some true
def oO(x:zt):Option Bool:=
 ze (zK (decide ((x.list.length:Int)>0)) (geti x.list 0) (default:zt)) fun y1=>
 some (bif decide ((x.list.length:Int)>0)then y1.kind==4 else false)
def PN(x:zt):Option Bool:=
 bif x.kind==3 then
  ze (Ol (⟨x.kind,x.name,x.num,x.decl,x.list⟩:zt)) fun y1=>
  ze (zK (bif y1 then(x.list.length:Int)==1 else false) (geti x.list 0) (default:zt)) fun y2=>
  ze (zK (bif y1 then(x.list.length:Int)==1 else false) (mH (⟨y2.kind,y2.name,y2.num,y2.decl,y2.list⟩:zt)) (default:Bool)) fun y3=>
  ze (zK (bif bif y1 then(x.list.length:Int)==1 else false then y3 else false) (geti x.list 0) (default:zt)) fun y4=>
  ze (zK (bif bif y1 then(x.list.length:Int)==1 else false then y3 else false) (oO (⟨y4.kind,y4.name,y4.num,y4.decl,y4.list⟩:zt)) (default:Bool)) fun y5=>
  some (bif bif bif y1 then(x.list.length:Int)==1 else false then y3 else false then y5 else false)
 else
  ze (mH (⟨x.kind,x.name,x.num,x.decl,x.list⟩:zt)) fun y6=>
  some y6
def yQ(x:zt):Option Bool:=
 ze (PN (⟨x.kind,x.name,x.num,x.decl,x.list⟩:zt)) fun y1=>
 some (!y1)
def CR(x:List zt):Option Int:=
 Zp (fun(s1:Int)=>
   bif decide (s1<(x.length:Int))then
    ze (geti x s1) fun y2=>
    ze (yQ (⟨y2.kind,y2.name,y2.num,y2.decl,y2.list⟩:zt)) fun y3=>
    bif y3 then
     some (LO.ret s1)
    else
     some (LO.again (w64 (s1+1)))
   else
    some (LO.out ()):Int->Option (LO (Int) (Unit) _)) 0 fun o4=>
 some (-1)
def TR(x:List zt):Option Bool:=
 ze (CR x) fun y1=>
 some (decide (y1>=0))
def sQ(x:zt):Option Int:=
 ze (zK (bif bif x.kind==2 then decide ((x.list.length:Int)>0)else false then decide ((x.list.length:Int)<=64)else false) (TR x.list) (default:Bool)) fun y1=>
 ze (Ol (⟨x.kind,x.name,x.num,x.decl,x.list⟩:zt)) fun y2=>
 bif bif !y2 then true else bif !(bif x.kind==1 then(x.list.length:Int)==0 else false)then !(bif bif bif x.kind==2 then decide ((x.list.length:Int)>0)else false then decide ((x.list.length:Int)<=64)else false then !y1 else false)else false then
  some 8
 else
  some 0
def FI(jm:zt->Option Int)(x:zt):Option Int:=
 bif x.kind==7 then
  ze (Lt x.decl.value) fun y1=>
  some (w64 (y1.1+1))
 else
  bif x.kind==8 then
   some 1
  else
   Zp (fun(s2:Int×Int)=>
     bif decide (s2.2<(x.list.length:Int))then
      ze (geti x.list s2.2) fun y3=>
      ze (jm (⟨y3.kind,y3.name,y3.num,y3.decl,y3.list⟩:zt)) fun y4=>
      Zv (X:=Int×Int) (
        bif bif y3.kind != 7 then y3.kind != 8 else false then
         some (LX.out (s2.1,w64 (y4+1)))
        else
         some (LX.out (s2.1,y4))) fun j5=>
      some (LO.again (if j5.2>j5.1 then j5.2 else j5.1,w64 (s2.2+1)))
     else
      some (LO.out s2.1):Int×Int->Option (LO (Int×Int) (Int) _)) (0,0) fun o6=>
   some o6
def jm:zt->Option Int:=recE (FI)
def LB(x:zt):Option Bool:=
 some (bif x.kind==7 then true else x.kind==8)
def Xt(ui:zt×Int->Option ((Int×Bool)×Int))(x:zt×Int):Option ((Int×Bool)×Int):=
 bif decide (w64 (x.2+1)>1500)then
  some ((0,false),w64 (x.2+1))
 else
  bif x.1.kind==7 then
   ze (Lt x.1.decl.value) fun y1=>
   ze (zK (bif bif bif (x.1.list.length:Int)==0 then x.1.name==[]else false then x.1.num==0 else false then y1.2==0 else false) (Ep x.1.decl) (default:Int)) fun y2=>
   some ((w64 (y1.1+1),bif bif bif bif (x.1.list.length:Int)==0 then x.1.name==[]else false then x.1.num==0 else false then y1.2==0 else false then y2==0 else false),w64 (x.2+1))
  else
   bif x.1.kind==8 then
    ze (zK ((x.1.list.length:Int)==0) (Ol (⟨x.1.kind,x.1.name,x.1.num,x.1.decl,x.1.list⟩:zt)) (default:Bool)) fun y3=>
    some ((1,bif (x.1.list.length:Int)==0 then y3 else false),w64 (x.2+1))
   else
    Zv (X:=Bool) (
      bif x.1.kind==3 then
       some (LX.out (x.1.kind==3))
      else
       bif x.1.kind==1 then
        some (LX.out (x.1.kind==1))
       else
        some (LX.out (x.1.kind==2))) fun j4=>
    bif j4 then
     ze (Ol (⟨x.1.kind,x.1.name,x.1.num,x.1.decl,x.1.list⟩:zt)) fun y5=>
     bif bif bif !y5 then true else bif x.1.kind==3 then(x.1.list.length:Int) != 1 else false then true else bif x.1.kind != 3 then decide ((x.1.list.length:Int)<2)else false then
      some ((0,false),w64 (x.2+1))
     else
      Zp (fun(s6:(Int×Int)×Int)=>
        bif decide (s6.1.2<(x.1.list.length:Int))then
         ze (geti x.1.list s6.1.2) fun y7=>
         ze (ui ((⟨y7.kind,y7.name,y7.num,y7.decl,y7.list⟩:zt),s6.2)) fun y8=>
         bif !y8.1.2 then
          some (LO.ret ((0,false),y8.2))
         else
          Zv (X:=Int×Int) (
            ze (LB (⟨y7.kind,y7.name,y7.num,y7.decl,y7.list⟩:zt)) fun y9=>
            bif !y9 then
             some (LX.out (s6.1.1,w64 (y8.1.1+1)))
            else
             some (LX.out (s6.1.1,y8.1.1))) fun j10=>
          some (LO.again ((if j10.2>j10.1 then j10.2 else j10.1,w64 (s6.1.2+1)),y8.2))
        else
         some (LO.out (s6.1.1,s6.2)):(Int×Int)×Int->Option (LO ((Int×Int)×Int) (Int×Int) _)) ((0,0),w64 (x.2+1)) fun o11=>
      some ((o11.1,true),o11.2)
    else
     some ((0,false),w64 (x.2+1))
def ui:zt×Int->Option ((Int×Bool)×Int):=recE (Xt)
def QG(x:zt):Option Int:=
 ze (ui ((⟨x.kind,x.name,x.num,x.decl,x.list⟩:zt),0)) fun y1=>
 bif bif !y1.1.2 then true else decide (y1.1.1>16)then
  some 8
 else
  some 0
def GI(lm:List z8->Option zZ)(x:List z8):Option zZ:=
 Zp (fun(s1:Int×zZ)=>
   bif decide (s1.1<(x.length:Int))then
    ze (geti x s1.1) fun y2=>
    ze (lm y2.rules) fun y3=>
    ze (VR y2.names) fun y4=>
    Zv (X:=(Int×Bool)×zZ×zZ) (
      bif y2.kind==1 then
       ze (Qk y2.selectors) fun y5=>
       ze (zK (!(bif y3.bad then true else y4)) (EQ y2.selectors) (default:Int)) fun y6=>
       ze (zK (!(bif bif bif y3.bad then true else y4 then true else y6 != 0 then true else decide ((y2.decls.length:Int)>32))) (IC (⟨y2.cond.kind,y2.cond.name,y2.cond.num,y2.cond.decl,y2.cond.list⟩:zt)) (default:Bool)) fun y7=>
       Zp (fun(s8:(Bool×Int)×zZ)=>
         bif decide (s8.1.2<(y2.decls.length:Int))then
          ze (geti y2.decls s8.1.2) fun y9=>
          ze (Lt y9.value) fun y10=>
          ze (zK (!(bif s8.1.1 then true else y10.2 != 0)) (Ep y9) (default:Int)) fun y11=>
          some (LO.again ((bif bif s8.1.1 then true else y10.2 != 0 then true else y11 != 0,w64 (s8.1.2+1)),(⟨s8.2.rules,if y10.1>s8.2.depth then y10.1 else s8.2.depth,s8.2.bad⟩:zZ)))
         else
          some (LO.out (s8.1.1,s8.2)):(Bool×Int)×zZ->Option (LO ((Bool×Int)×zZ) (Bool×zZ) _)) ((bif bif bif bif bif y3.bad then true else y4 then true else y6 != 0 then true else decide ((y2.decls.length:Int)>32)then true else !y7 then true else decide (w64 ((y2.names.length:Int)+(y2.rules.length:Int))>0),0),y3) fun o12=>
       some (LX.out ((y5,o12.1),(⟨w64 (s1.2.rules+w64 (y3.rules+1)),s1.2.depth,s1.2.bad⟩:zZ),o12.2))
      else
       bif y2.kind==2 then
        ze (Dn (⟨y2.cond.kind,y2.cond.name,y2.cond.num,y2.cond.decl,y2.cond.list⟩:zt)) fun y13=>
        ze (zK (!(bif bif bif y3.bad then true else y4 then true else decide (w64 ((y2.selectors.length:Int)+(y2.decls.length:Int))>0)then true else decide ((y2.names.length:Int)>0))) (sQ (⟨y2.cond.kind,y2.cond.name,y2.cond.num,y2.cond.decl,y2.cond.list⟩:zt)) (default:Int)) fun y14=>
        some (LX.out ((y13,bif bif bif bif y3.bad then true else y4 then true else decide (w64 ((y2.selectors.length:Int)+(y2.decls.length:Int))>0)then true else decide ((y2.names.length:Int)>0)then true else y14 != 0),(⟨w64 (s1.2.rules+w64 (y3.rules+1)),s1.2.depth,s1.2.bad⟩:zZ),y3))
       else
        bif y2.kind==3 then
         ze (jm (⟨y2.cond.kind,y2.cond.name,y2.cond.num,y2.cond.decl,y2.cond.list⟩:zt)) fun y15=>
         ze (zK (!(bif bif bif y3.bad then true else y4 then true else decide (w64 ((y2.selectors.length:Int)+(y2.decls.length:Int))>0)then true else decide ((y2.names.length:Int)>0))) (QG (⟨y2.cond.kind,y2.cond.name,y2.cond.num,y2.cond.decl,y2.cond.list⟩:zt)) (default:Int)) fun y16=>
         some (LX.out ((y15,bif bif bif bif y3.bad then true else y4 then true else decide (w64 ((y2.selectors.length:Int)+(y2.decls.length:Int))>0)then true else decide ((y2.names.length:Int)>0)then true else y16 != 0),(⟨w64 (s1.2.rules+w64 (y3.rules+1)),s1.2.depth,s1.2.bad⟩:zZ),y3))
        else
         bif y2.kind==4 then
          ze (zK (!(bif bif bif y3.bad then true else y4 then true else decide (w64 ((y2.selectors.length:Int)+(y2.decls.length:Int))>0)then true else decide ((y2.names.length:Int)>1))) (IC (⟨y2.cond.kind,y2.cond.name,y2.cond.num,y2.cond.decl,y2.cond.list⟩:zt)) (default:Bool)) fun y17=>
          some (LX.out ((0,bif bif bif bif y3.bad then true else y4 then true else decide (w64 ((y2.selectors.length:Int)+(y2.decls.length:Int))>0)then true else decide ((y2.names.length:Int)>1)then true else !y17),(⟨w64 (s1.2.rules+w64 (y3.rules+1)),s1.2.depth,s1.2.bad⟩:zZ),y3))
         else
          bif y2.kind==5 then
           ze (zK (!(bif bif bif bif bif y3.bad then true else y4 then true else decide (w64 ((y2.selectors.length:Int)+(y2.decls.length:Int))>0)then true else decide ((y2.names.length:Int)<1)then true else decide ((y2.names.length:Int)>64)then true else decide ((y2.rules.length:Int)>0))) (IC (⟨y2.cond.kind,y2.cond.name,y2.cond.num,y2.cond.decl,y2.cond.list⟩:zt)) (default:Bool)) fun y18=>
           some (LX.out ((0,bif bif bif bif bif bif y3.bad then true else y4 then true else decide (w64 ((y2.selectors.length:Int)+(y2.decls.length:Int))>0)then true else decide ((y2.names.length:Int)<1)then true else decide ((y2.names.length:Int)>64)then true else decide ((y2.rules.length:Int)>0)then true else !y18),(⟨w64 (s1.2.rules+w64 (y3.rules+1)),s1.2.depth,s1.2.bad⟩:zZ),(⟨y3.rules,(-1),y3.bad⟩:zZ)))
          else
           some (LX.out ((0,true),(⟨w64 (s1.2.rules+w64 (y3.rules+1)),s1.2.depth,s1.2.bad⟩:zZ),y3))) fun j19=>
    some (LO.again (w64 (s1.1+1),(⟨j19.2.1.rules,if j19.1.1>(if w64 (j19.2.2.depth+1)>j19.2.1.depth then w64 (j19.2.2.depth+1)else j19.2.1.depth)then j19.1.1 else if w64 (j19.2.2.depth+1)>j19.2.1.depth then w64 (j19.2.2.depth+1)else j19.2.1.depth,bif j19.2.1.bad then true else j19.1.2⟩:zZ)))
   else
    some (LO.out s1.2):Int×zZ->Option (LO (Int×zZ) (zZ) _)) (0,(⟨0,0,false⟩:zZ)) fun o20=>
 some o20
def lm:List z8->Option zZ:=recE (GI)
def NP(x:List z8):Option Int:=
 ze (lm x) fun y1=>
 bif bif bif y1.bad then true else decide (y1.rules>64)then true else decide (y1.depth>16)then
  some 8
 else
  some 0
def OP(x:zbr):Option Int:=
 ze (NP x.rules) fun y1=>
 some y1
def ZB(x:zb):Option zb:=
 Zp (fun(s1:zb)=>
   need (decide (0<=s1.at_)&&decide (s1.at_<=(s1.s.length:Int)))<|
   ze (strings_HasPrefix (List.drop s1.at_.toNat s1.s,[47,42])) fun y2=>
   bif y2 then
    need (decide (0<=w64 (s1.at_+2))&&decide (w64 (s1.at_+2)<=(s1.s.length:Int)))<|
    ze (ik (List.drop (w64 (s1.at_+2)).toNat s1.s,[42,47])) fun y3=>
    bif decide (y3<0)then
     some (LO.ret (⟨s1.s,(s1.s.length:Int)⟩:zb))
    else
     some (LO.again (⟨s1.s,w64 (s1.at_+w64 (y3+4))⟩:zb))
   else
    some (LO.out s1):zb->Option (LO (zb) (zb) _)) x fun o4=>
 some o4
def zo(x:Int×zb):Option Int:=
 bif decide (w64 (x.2.at_+x.1)<(x.2.s.length:Int))then
  ze (geti x.2.s (w64 (x.2.at_+x.1))) fun y1=>
  some (w64 (y1.toNat:Int))
 else
  some (-1)
def Gp(x:Int):Option Bool:=
 some (bif bif x==32 then true else x==9 then true else x==10)
def Z5(x:zb):Option zb:=
 Zp (fun(s1:zb)=>
   ze (zo (0,s1)) fun y2=>
   ze (Gp y2) fun y3=>
   bif y3 then
    some (LO.again (⟨s1.s,w64 (s1.at_+1)⟩:zb))
   else
    some (LO.out s1):zb->Option (LO (zb) (zb) _)) x fun o4=>
 some o4
def QT(x:Int):Option (List UInt8):=
 bif decide (wu32 x<=2047)then
  ze (Ef (ibOr IntKind.u8 192 (wu8 (yg IntKind.i32 x 6)))) fun y1=>
  ze (Ef (ibOr IntKind.u8 128 (lh IntKind.u8 (wu8 x) 63))) fun y2=>
  need (Zw 0 2 1)<|
  some [y1,y2]
 else
  Zv (X:=Bool) (
    bif decide (wu32 x<55296)then
     some (LX.out (decide (wu32 x<55296)))
    else
     some (LX.out (bif decide (57343<wu32 x)then decide (wu32 x<=65535)else false))) fun j3=>
  bif j3 then
   ze (Ef (ibOr IntKind.u8 224 (wu8 (yg IntKind.i32 x 12)))) fun y4=>
   ze (Ef (ibOr IntKind.u8 128 (lh IntKind.u8 (wu8 (yg IntKind.i32 x 6)) 63))) fun y5=>
   ze (Ef (ibOr IntKind.u8 128 (lh IntKind.u8 (wu8 x) 63))) fun y6=>
   need (Zw 0 3 1)<|
   some [y4,y5,y6]
  else
   bif bif decide (wu32 x>65535)then decide (wu32 x<=1114111)else false then
    ze (Ef (ibOr IntKind.u8 240 (wu8 (yg IntKind.i32 x 18)))) fun y7=>
    ze (Ef (ibOr IntKind.u8 128 (lh IntKind.u8 (wu8 (yg IntKind.i32 x 12)) 63))) fun y8=>
    ze (Ef (ibOr IntKind.u8 128 (lh IntKind.u8 (wu8 (yg IntKind.i32 x 6)) 63))) fun y9=>
    ze (Ef (ibOr IntKind.u8 128 (lh IntKind.u8 (wu8 x) 63))) fun y10=>
    need (Zw 0 4 1)<|
    some [y7,y8,y9,y10]
   else
    need (Zw 0 3 1)<|
    some [(239:UInt8),(191:UInt8),(189:UInt8)]
def Qn(x:Int):Option (List UInt8):=
 bif decide (wu32 x<=127)then
  ze (Ef (wu8 x)) fun y1=>
  need (Zw 0 1 1)<|
  some [y1]
 else
  ze (QT x) fun y2=>
  some y2
def om(x:Int×Int×Int):Option Bool:=
 some (bif decide (x.2.1<=x.1)then decide (x.1<=x.2.2)else false)
def Qy(x:Int):Option Bool:=
 ze (om (x,48,57)) fun y1=>
 some y1
def Ms(x:Int):Option Int:=
 ze (Qy x) fun y1=>
 bif y1 then
  some (w64 (x - 48))
 else
  ze (zK (x != (-1)) (om (ibOr IntKind.i64 x 32,97,102)) (default:Bool)) fun y2=>
  bif bif bif bif x != (-1)then y2 else false then decide (x>64)else false then decide (x<128)else false then
   some (w64 (w64 (ibOr IntKind.i64 x 32 - 97)+10))
  else
   some (-1)
def Qj(x:zb):Option (zb×List UInt8):=
 ze (zo (0,(⟨x.s,w64 (x.at_+1)⟩:zb))) fun y1=>
 bif y1==(-1)then
  ze (Qn 65533) fun y2=>
  some ((⟨x.s,w64 (x.at_+1)⟩:zb),y2)
 else
  ze (Ms y1) fun y3=>
  bif decide (y3<0)then
   ze (Ef (wu8 y1)) fun y4=>
   need (Zw 0 1 1)<|
   some ((⟨x.s,w64 (w64 (x.at_+1)+1)⟩:zb),[y4])
  else
   Zp (fun(s5:(Int×Int)×zb)=>
     bif decide (s5.1.2<6)then
      ze (zo (0,s5.2)) fun y6=>
      ze (Ms y6) fun y7=>
      bif decide (y7<0)then
       some (LO.out (s5.1.1,s5.2))
      else
       some (LO.again ((ibOr IntKind.i64 (Iu IntKind.i64 s5.1.1 4) y7,w64 (s5.1.2+1)),(⟨s5.2.s,w64 (s5.2.at_+1)⟩:zb)))
     else
      some (LO.out (s5.1.1,s5.2)):(Int×Int)×zb->Option (LO ((Int×Int)×zb) (Int×zb) _)) ((0,0),(⟨x.s,w64 (x.at_+1)⟩:zb)) fun o8=>
   Zv (X:=Int×zb) (
     ze (zo (0,o8.2)) fun y9=>
     ze (Gp y9) fun y10=>
     bif y10 then
      some (LX.out (o8.1,(⟨o8.2.s,w64 (o8.2.at_+1)⟩:zb)))
     else
      some (LX.out (o8.1,o8.2))) fun j11=>
   Zv (X:=Int) (
     bif j11.1==0 then
      some (LX.out 65533)
     else
      some (LX.out j11.1)) fun j12=>
   ze (Qn (w32 j12)) fun y13=>
   some (j11.2,y13)
def QU(x:Int×List UInt8):Option (List UInt8):=
 bif decide (wu32 x.1<=2047)then
  ze (Ef (ibOr IntKind.u8 192 (wu8 (yg IntKind.i32 x.1 6)))) fun y1=>
  ze (Ef (ibOr IntKind.u8 128 (lh IntKind.u8 (wu8 x.1) 63))) fun y2=>
  need (Zw x.2.length 2 1)<|
  some (x.2++[y1,y2])
 else
  Zv (X:=Bool×List UInt8) (
    bif decide (wu32 x.1<55296)then
     some (LX.out (decide (wu32 x.1<55296),x.2))
    else
     some (LX.out (bif decide (57343<wu32 x.1)then decide (wu32 x.1<=65535)else false,x.2))) fun j3=>
  bif j3.1 then
   ze (Ef (ibOr IntKind.u8 224 (wu8 (yg IntKind.i32 x.1 12)))) fun y4=>
   ze (Ef (ibOr IntKind.u8 128 (lh IntKind.u8 (wu8 (yg IntKind.i32 x.1 6)) 63))) fun y5=>
   ze (Ef (ibOr IntKind.u8 128 (lh IntKind.u8 (wu8 x.1) 63))) fun y6=>
   need (Zw j3.2.length 3 1)<|
   some (j3.2++[y4,y5,y6])
  else
   bif bif decide (wu32 x.1>65535)then decide (wu32 x.1<=1114111)else false then
    ze (Ef (ibOr IntKind.u8 240 (wu8 (yg IntKind.i32 x.1 18)))) fun y7=>
    ze (Ef (ibOr IntKind.u8 128 (lh IntKind.u8 (wu8 (yg IntKind.i32 x.1 12)) 63))) fun y8=>
    ze (Ef (ibOr IntKind.u8 128 (lh IntKind.u8 (wu8 (yg IntKind.i32 x.1 6)) 63))) fun y9=>
    ze (Ef (ibOr IntKind.u8 128 (lh IntKind.u8 (wu8 x.1) 63))) fun y10=>
    need (Zw j3.2.length 4 1)<|
    some (j3.2++[y7,y8,y9,y10])
   else
    need (Zw j3.2.length 3 1)<|
    some (j3.2++[(239:UInt8),(191:UInt8),(189:UInt8)])
def Qo(x:Int×List UInt8):Option (List UInt8):=
 bif decide (wu32 x.1<=127)then
  ze (Ef (wu8 x.1)) fun y1=>
  need (Zw x.2.length 1 1)<|
  some (x.2++[y1])
 else
  ze (QU (x.1,x.2)) fun y2=>
  some y2
def Z8(x:zb×List UInt8):Option (zb×List UInt8):=
 ze (zo (0,(⟨x.1.s,w64 (x.1.at_+1)⟩:zb))) fun y1=>
 bif y1==(-1)then
  ze (Qo (65533,x.2)) fun y2=>
  some ((⟨x.1.s,w64 (x.1.at_+1)⟩:zb),y2)
 else
  ze (Ms y1) fun y3=>
  bif decide (y3<0)then
   ze (Ef (wu8 y1)) fun y4=>
   need (Zw x.2.length 1 1)<|
   some ((⟨x.1.s,w64 (w64 (x.1.at_+1)+1)⟩:zb),x.2++[y4])
  else
   Zp (fun(s5:(Int×Int)×zb)=>
     bif decide (s5.1.2<6)then
      ze (zo (0,s5.2)) fun y6=>
      ze (Ms y6) fun y7=>
      bif decide (y7<0)then
       some (LO.out (s5.1.1,s5.2))
      else
       some (LO.again ((ibOr IntKind.i64 (Iu IntKind.i64 s5.1.1 4) y7,w64 (s5.1.2+1)),(⟨s5.2.s,w64 (s5.2.at_+1)⟩:zb)))
     else
      some (LO.out (s5.1.1,s5.2)):(Int×Int)×zb->Option (LO ((Int×Int)×zb) (Int×zb) _)) ((0,0),(⟨x.1.s,w64 (x.1.at_+1)⟩:zb)) fun o8=>
   Zv (X:=Int×zb×List UInt8) (
     ze (zo (0,o8.2)) fun y9=>
     ze (Gp y9) fun y10=>
     bif y10 then
      some (LX.out (o8.1,(⟨o8.2.s,w64 (o8.2.at_+1)⟩:zb),x.2))
     else
      some (LX.out (o8.1,o8.2,x.2))) fun j11=>
   Zv (X:=Int×List UInt8) (
     bif j11.1==0 then
      some (LX.out (65533,j11.2.2))
     else
      some (LX.out (j11.1,j11.2.2))) fun j12=>
   ze (Qo (w32 j12.1,j12.2)) fun y13=>
   some (j11.2.1,y13)
def QW(x:zb):Option (zk×zb):=
 ze (zo (0,x)) fun y1=>
 Zp (fun(s2:zb×zk×List UInt8)=>
   ze (zo (0,s2.1)) fun y3=>
   bif y3==(-1)then
    some (LO.out (s2.1,s2.2.1,s2.2.2))
   else
    bif y3==y1 then
     some (LO.out ((⟨s2.1.s,w64 (s2.1.at_+1)⟩:zb),s2.2.1,s2.2.2))
    else
     bif y3==10 then
      some (LO.ret ((⟨6,[],0,[],false⟩:zk),s2.1))
     else
      ze (zK (y3==92) (zo (1,s2.1)) (default:Int)) fun y4=>
      ze (zK (!(y4==(-1))&&y3==92) (zo (1,s2.1)) (default:Int)) fun y5=>
      bif bif y3==92 then bif y4==(-1)then true else y5==10 else false then
       some (LO.again ((⟨s2.1.s,if(s2.1.s.length:Int)<w64 (s2.1.at_+2)then(s2.1.s.length:Int)else w64 (s2.1.at_+2)⟩:zb),s2.2.1,s2.2.2))
      else
       bif y3==92 then
        ze (Z8 (s2.1,s2.2.2)) fun y6=>
        some (LO.again (y6.1,s2.2.1,y6.2))
       else
        ze (Ef (wu8 y3)) fun y7=>
        need (Zw s2.2.2.length 1 1)<|
        some (LO.again ((⟨s2.1.s,w64 (s2.1.at_+1)⟩:zb),s2.2.1,s2.2.2++[y7])):zb×zk×List UInt8->Option (LO (zb×zk×List UInt8) (zb×zk×List UInt8) _)) ((⟨x.s,w64 (x.at_+1)⟩:zb),(⟨0,[],0,[],false⟩:zk),[]) fun o8=>
 some ((⟨5,o8.2.2,0,[],false⟩:zk),o8.1)
def Lx(x:Int):Option Bool:=
 ze (om (ibOr IntKind.i64 x 32,97,122)) fun y1=>
 some (bif bif bif bif y1 then decide (x<128)else false then decide (x>64)else false then true else x==95 then true else decide (x>=128))
def oC(x:Int):Option Bool:=
 ze (Lx x) fun y1=>
 ze (zK (!y1) (Qy x) (default:Bool)) fun y2=>
 some (bif bif y1 then true else y2 then true else x==45)
def Zo(x:Int×zb):Option Bool:=
 ze (zo (x.1,x.2)) fun y1=>
 ze (zK (y1==92) (zo (w64 (x.1+1),x.2)) (default:Int)) fun y2=>
 some (bif y1==92 then y2 != 10 else false)
def Zr(x:Int×zb):Option Bool:=
 ze (zo (x.1,x.2)) fun y1=>
 bif y1 != 45 then
  ze (zo (x.1,x.2)) fun y2=>
  ze (Lx y2) fun y3=>
  ze (zK (!y3) (Zo (x.1,x.2)) (default:Bool)) fun y4=>
  some (bif y3 then true else y4)
 else
  ze (zo (w64 (x.1+1),x.2)) fun y5=>
  ze (Lx y5) fun y6=>
  ze (zK (!y6) (zo (w64 (x.1+1),x.2)) (default:Int)) fun y7=>
  ze (zK (!(bif y6 then true else y7==45)) (Zo (w64 (x.1+1),x.2)) (default:Bool)) fun y8=>
  some (bif bif y6 then true else y7==45 then true else y8)
def ZN(x:zb):Option (Str×zb):=
 Zp (fun(s1:zb×List UInt8)=>
   ze (zo (0,s1.1)) fun y2=>
   ze (oC y2) fun y3=>
   bif y3 then
    ze (Ef (wu8 y2)) fun y4=>
    need (Zw s1.2.length 1 1)<|
    some (LO.again ((⟨s1.1.s,w64 (s1.1.at_+1)⟩:zb),s1.2++[y4]))
   else
    ze (zK (y2 != (-1)) (Zo (0,s1.1)) (default:Bool)) fun y5=>
    bif bif y2 != (-1)then y5 else false then
     ze (Z8 (s1.1,s1.2)) fun y6=>
     some (LO.again (y6.1,y6.2))
    else
     some (LO.ret (s1.2,s1.1)):zb×List UInt8->Option (LO (zb×List UInt8) (Unit) _)) (x,[]) fun o7=>
 none
def qF(x:zb):Option Bool:=
 Zv (X:=Int) (
   ze (zo (0,x)) fun y1=>
   bif bif y1==43 then true else y1==45 then
    some (LX.out 1)
   else
    some (LX.out 0)) fun j2=>
 Zv (X:=Int) (
   ze (zo (j2,x)) fun y3=>
   bif y3==46 then
    some (LX.out (w64 (j2+1)))
   else
    some (LX.out j2)) fun j4=>
 ze (zo (j4,x)) fun y5=>
 ze (Qy y5) fun y6=>
 some y6
def ZH(x:zb):Option zb:=
 Zp (fun(s1:zb)=>
   ze (zo (0,s1)) fun y2=>
   ze (Qy y2) fun y3=>
   bif y3 then
    some (LO.again (⟨s1.s,w64 (s1.at_+1)⟩:zb))
   else
    some (LO.out s1):zb->Option (LO (zb) (zb) _)) x fun o4=>
 some o4
def QL(x:zb):Option (Bool×zb):=
 Zv (X:=zb) (
   ze (zo (0,x)) fun y1=>
   bif bif y1==43 then true else y1==45 then
    some (LX.out (⟨x.s,w64 (x.at_+1)⟩:zb))
   else
    some (LX.out x)) fun j2=>
 ze (ZH j2) fun y3=>
 Zv (X:=Bool×zb) (
   ze (zo (0,y3)) fun y4=>
   ze (zK (y4==46) (zo (1,y3)) (default:Int)) fun y5=>
   ze (zK (y4==46) (Qy y5) (default:Bool)) fun y6=>
   bif bif y4==46 then y6 else false then
    ze (ZH (⟨y3.s,w64 (y3.at_+1)⟩:zb)) fun y7=>
    some (LX.out (false,y7))
   else
    some (LX.out (true,y3))) fun j8=>
 Zv (X:=Bool×zb) (
   ze (zo (0,j8.2)) fun y9=>
   ze (zK (!(y9==101)) (zo (0,j8.2)) (default:Int)) fun y10=>
   bif bif y9==101 then true else y10==69 then
    Zv (X:=(Bool×Int)×zb) (
      ze (zo (1,j8.2)) fun y11=>
      bif bif y11==43 then true else y11==45 then
       some (LX.out ((j8.1,2),j8.2))
      else
       some (LX.out ((j8.1,1),j8.2))) fun j12=>
    ze (zo (j12.1.2,j12.2)) fun y13=>
    ze (Qy y13) fun y14=>
    bif y14 then
     ze (ZH (⟨j12.2.s,w64 (j12.2.at_+j12.1.2)⟩:zb)) fun y15=>
     some (LX.out (false,y15))
    else
     some (LX.out (j12.1.1,j12.2))
   else
    some (LX.out (j8.1,j8.2))) fun j16=>
 some (j16.1,j16.2)
def aD(x:Str):Option Int:=
 ze (geti x 0) fun y1=>
 ze (Am (x,[43,45])) fun y2=>
 Zv (X:=Str×Int) (
   ze (Um (y2,[101,69])) fun y3=>
   bif decide (y3>=0)then
    need (decide (0<=w64 (y3+1))&&decide (w64 (y3+1)<=(y2.length:Int)))<|
    ze (Am (List.drop (w64 (y3+1)).toNat y2,[43,45])) fun y4=>
    need (decide (y4.length<=maxLen))<|
    Zp (fun(s5:Int×Int)=>
      bif decide (s5.2<(y4.length:Int))then
       need (decide (0<=s5.2)&&decide (s5.2<(y4.length:Int)))<|
       ze y4[s5.2.toNat]? fun y6=>
       some (LO.again (if 1048576<w64 (w64 (10*s5.1)+w64 (wu8 ((y6.toNat:Int) - 48)))then 1048576 else w64 (w64 (10*s5.1)+w64 (wu8 ((y6.toNat:Int) - 48))),w64 (s5.2+1)))
      else
       some (LO.out s5.1):Int×Int->Option (LO (Int×Int) (Int) _)) (0,0) fun o7=>
    Zv (X:=Str×Int×Int) (
      ze (geti y2 (w64 (y3+1))) fun y8=>
      bif (y8.toNat:Int)==45 then
       some (LX.out (y2,3,w64 (0 - o7)))
      else
       some (LX.out (y2,3,o7))) fun j9=>
    need (decide (0<=y3)&&decide (y3<=(j9.1.length:Int)))<|
    some (LX.out (List.take y3.toNat j9.1,w64 (j9.2.1+j9.2.2)))
   else
    some (LX.out (y2,3))) fun j10=>
 ze (cutF (j10.1,[46])) fun y11=>
 need (Sj y11.1.length y11.2.1.length)<|
 Zv (X:=Str×Int) (
   bif decide (w64 (j10.2 - (y11.2.1.length:Int))<0)then
    need (decide (0<=(if w64 (((y11.1++y11.2.1).length:Int)+w64 (j10.2 - (y11.2.1.length:Int)))>0 then w64 (((y11.1++y11.2.1).length:Int)+w64 (j10.2 - (y11.2.1.length:Int)))else 0))&&decide ((if w64 (((y11.1++y11.2.1).length:Int)+w64 (j10.2 - (y11.2.1.length:Int)))>0 then w64 (((y11.1++y11.2.1).length:Int)+w64 (j10.2 - (y11.2.1.length:Int)))else 0)<=((y11.1++y11.2.1).length:Int)))<|
    some (LX.out (List.take (if w64 (((y11.1++y11.2.1).length:Int)+w64 (j10.2 - (y11.2.1.length:Int)))>0 then w64 (((y11.1++y11.2.1).length:Int)+w64 (j10.2 - (y11.2.1.length:Int)))else 0).toNat (y11.1++y11.2.1),w64 (j10.2 - (y11.2.1.length:Int))))
   else
    some (LX.out (y11.1++y11.2.1,w64 (j10.2 - (y11.2.1.length:Int))))) fun j12=>
 need (decide (j12.1.length<=maxLen))<|
 Zp (fun(s13:Int×Int)=>
   bif decide (s13.2<(j12.1.length:Int))then
    need (decide (0<=s13.2)&&decide (s13.2<(j12.1.length:Int)))<|
    ze j12.1[s13.2.toNat]? fun y14=>
    some (LO.again (if 1000000000000<w64 (w64 (10*s13.1)+w64 (wu8 ((y14.toNat:Int) - 48)))then 1000000000000 else w64 (w64 (10*s13.1)+w64 (wu8 ((y14.toNat:Int) - 48))),w64 (s13.2+1)))
   else
    some (LO.out s13.1):Int×Int->Option (LO (Int×Int) (Int) _)) (0,0) fun o15=>
 Zp (fun(s16:Int×Int)=>
   bif bif bif decide (s16.1>0)then decide (s16.2>0)else false then decide (s16.2<1000000000000)else false then
    some (LO.again (w64 (s16.1 - 1),if 1000000000000<w64 (10*s16.2)then 1000000000000 else w64 (10*s16.2)))
   else
    some (LO.out s16.2):Int×Int->Option (LO (Int×Int) (Int) _)) (j12.2,o15) fun o17=>
 Zv (X:=Int) (
   bif (y1.toNat:Int)==45 then
    some (LX.out (w64 (0 - o17)))
   else
    some (LX.out o17)) fun j18=>
 some j18
def qW(x:zb):Option (zk×zb):=
 ze (QL x) fun y1=>
 need (decide (0<=x.at_)&&(decide (x.at_<=y1.2.at_)&&decide (y1.2.at_<=(y1.2.s.length:Int))))<|
 ze (aD (List.drop x.at_.toNat (List.take y1.2.at_.toNat y1.2.s))) fun y2=>
 Zv (X:=zb×zk×zk) (
   ze (Zr (0,y1.2)) fun y3=>
   bif y3 then
    ze (ZN y1.2) fun y4=>
    some (LX.out (y4.2,(⟨0,[],0,[],false⟩:zk),(⟨12,[],y2,y4.1,y1.1⟩:zk)))
   else
    ze (zo (0,y1.2)) fun y5=>
    bif y5==37 then
     some (LX.out ((⟨y1.2.s,w64 (y1.2.at_+1)⟩:zb),(⟨0,[],0,[],false⟩:zk),(⟨11,[],y2,[],false⟩:zk)))
    else
     some (LX.out (y1.2,(⟨0,[],0,[],false⟩:zk),(⟨10,[],y2,[],y1.1⟩:zk)))) fun j6=>
 some (j6.2.2,j6.1)
def Qm(x:zb):Option (zk×zb):=
 Zp (fun(s1:zb×zk)=>
   ze (zo (0,s1.1)) fun y2=>
   bif y2==(-1)then
    some (LO.ret ((⟨8,[],0,[],false⟩:zk),s1.1))
   else
    ze (Zo (0,s1.1)) fun y3=>
    bif y3 then
     ze (Qj s1.1) fun y4=>
     some (LO.again (y4.1,s1.2))
    else
     ze (geti s1.1.s (w64 (w64 (s1.1.at_+1) - 1))) fun y5=>
     bif (y5.toNat:Int)==41 then
      some (LO.ret ((⟨8,[],0,[],false⟩:zk),(⟨s1.1.s,w64 (s1.1.at_+1)⟩:zb)))
     else
      some (LO.again ((⟨s1.1.s,w64 (s1.1.at_+1)⟩:zb),s1.2)):zb×zk->Option (LO (zb×zk) (Unit) _)) (x,(⟨0,[],0,[],false⟩:zk)) fun o6=>
 none
def bD(x:zb):Option (zk×zb):=
 ze (Z5 x) fun y1=>
 Zp (fun(s2:zb×zk×List UInt8)=>
   ze (zo (0,s2.1)) fun y3=>
   Zv (X:=Int×zb×zk×List UInt8) (
     ze (Gp y3) fun y4=>
     bif y4 then
      ze (Z5 s2.1) fun y5=>
      ze (zo (0,y5)) fun y6=>
      bif bif y6 != 41 then y6 != (-1)else false then
       ze (Qm y5) fun y7=>
       some (LX.ret (LO.ret (y7.1,y7.2)))
      else
       some (LX.out (y6,y5,s2.2.1,s2.2.2))
     else
      some (LX.out (y3,s2.1,s2.2.1,s2.2.2))) fun j8=>
   bif j8.1==(-1)then
    some (LO.ret ((⟨7,j8.2.2.2,0,[],false⟩:zk),j8.2.1))
   else
    bif j8.1==41 then
     some (LO.ret ((⟨7,j8.2.2.2,0,[],false⟩:zk),(⟨j8.2.1.s,w64 (j8.2.1.at_+1)⟩:zb)))
    else
     ze (zK (!(bif bif bif bif j8.1==34 then true else j8.1==39 then true else j8.1==40 then true else decide (j8.1<=8)then true else j8.1==11)) (om (j8.1,14,31)) (default:Bool)) fun y9=>
     bif bif bif bif bif bif bif j8.1==34 then true else j8.1==39 then true else j8.1==40 then true else decide (j8.1<=8)then true else j8.1==11 then true else y9 then true else j8.1==127 then
      ze (Qm j8.2.1) fun y10=>
      some (LO.ret (y10.1,y10.2))
     else
      bif j8.1 != 92 then
       ze (Ef (wu8 j8.1)) fun y11=>
       need (Zw j8.2.2.2.length 1 1)<|
       some (LO.again ((⟨j8.2.1.s,w64 (j8.2.1.at_+1)⟩:zb),j8.2.2.1,j8.2.2.2++[y11]))
      else
       ze (Zo (0,j8.2.1)) fun y12=>
       bif y12 then
        ze (Z8 (j8.2.1,j8.2.2.2)) fun y13=>
        some (LO.again (y13.1,j8.2.2.1,y13.2))
       else
        ze (Qm j8.2.1) fun y14=>
        some (LO.ret (y14.1,y14.2)):zb×zk×List UInt8->Option (LO (zb×zk×List UInt8) (Unit) _)) (y1,(⟨0,[],0,[],false⟩:zk),[]) fun o15=>
 none
def qR(x:zb):Option (zk×zb):=
 ze (ZN x) fun y1=>
 ze (zo (0,y1.2)) fun y2=>
 bif y2 != 40 then
  some ((⟨1,y1.1,0,[],false⟩:zk),y1.2)
 else
  Zv (X:=zb×zk) (
    ze (ZZ (y1.1,[117,114,108])) fun y3=>
    bif y3 then
     ze (Z5 (⟨y1.2.s,w64 (y1.2.at_+1)⟩:zb)) fun y4=>
     ze (zo (0,y4)) fun y5=>
     bif bif y5 != 34 then y5 != 39 else false then
      ze (bD (⟨y1.2.s,w64 (y1.2.at_+1)⟩:zb)) fun y6=>
      some (LX.ret (y6.1,y6.2))
     else
      some (LX.out ((⟨y1.2.s,w64 (y1.2.at_+1)⟩:zb),(⟨0,[],0,[],false⟩:zk)))
    else
     some (LX.out ((⟨y1.2.s,w64 (y1.2.at_+1)⟩:zb),(⟨0,[],0,[],false⟩:zk)))) fun j7=>
  some ((⟨2,y1.1,0,[],false⟩:zk),j7.1)
def qC(x:zb):Option (zk×zb):=
 ze (zo (0,x)) fun y1=>
 need (decide (0<=x.at_)&&decide (x.at_<=(x.s.length:Int)))<|
 ze (Gp y1) fun y2=>
 bif y2 then
  ze (Z5 x) fun y3=>
  some ((⟨13,[],0,[],false⟩:zk),y3)
 else
  bif bif y1==34 then true else y1==39 then
   ze (QW x) fun y4=>
   some (y4.1,y4.2)
  else
   ze (zK (y1==35) (zo (1,x)) (default:Int)) fun y5=>
   ze (zK (y1==35) (oC y5) (default:Bool)) fun y6=>
   ze (zK (!y6&&y1==35) (Zo (1,x)) (default:Bool)) fun y7=>
   bif bif y1==35 then bif y6 then true else y7 else false then
    ze (Zr (1,x)) fun y8=>
    ze (ZN (⟨x.s,w64 (x.at_+1)⟩:zb)) fun y9=>
    some ((⟨4,y9.1,0,[],y8⟩:zk),y9.2)
   else
    ze (qF x) fun y10=>
    bif y10 then
     ze (qW x) fun y11=>
     some (y11.1,y11.2)
    else
     ze (strings_HasPrefix (List.drop x.at_.toNat x.s,[45,45,62])) fun y12=>
     bif y12 then
      some ((⟨15,[],0,[],false⟩:zk),(⟨x.s,w64 (x.at_+3)⟩:zb))
     else
      ze (strings_HasPrefix (List.drop x.at_.toNat x.s,[60,33,45,45])) fun y13=>
      bif y13 then
       some ((⟨14,[],0,[],false⟩:zk),(⟨x.s,w64 (x.at_+4)⟩:zb))
      else
       ze (zK (y1==64) (Zr (1,x)) (default:Bool)) fun y14=>
       bif bif y1==64 then y14 else false then
        ze (ZN (⟨x.s,w64 (x.at_+1)⟩:zb)) fun y15=>
        some ((⟨3,y15.1,0,[],false⟩:zk),y15.2)
       else
        ze (Zr (0,x)) fun y16=>
        bif y16 then
         ze (qR x) fun y17=>
         some (y17.1,y17.2)
        else
         ze (strings_IndexByte ([58,59,44,91,93,40,41,123,125],wu8 y1)) fun y18=>
         bif decide (y18>=0)then
          some ((⟨wu8 (16+wu8 y18),[],0,[],false⟩:zk),(⟨x.s,w64 (x.at_+1)⟩:zb))
         else
          need (decide (1<=((List.drop x.at_.toNat x.s).length:Int)))<|
          some ((⟨9,List.take 1 (List.drop x.at_.toNat x.s),0,[],false⟩:zk),(⟨x.s,w64 (x.at_+1)⟩:zb))
def LD(x:(zk×Int×Int)×List zk):Option (List zk):=
 need (Zw x.2.length 1 56)<|
 some (x.2++[x.1.1])
def nC(x:Str):Option (Int×List zk):=
 ze (ni x) fun y1=>
 bif y1.2 != 0 then
  some (y1.2,[])
 else
  ze (ZB (⟨y1.1,0⟩:zb)) fun y2=>
  Zp (fun(s3:Int×List zk×zb)=>
    bif decide (s3.2.2.at_<(y1.1.length:Int))then
     bif decide (w64 (s3.1+1)>1500)then
      some (LO.ret (4,s3.2.1))
     else
      ze (qC s3.2.2) fun y4=>
      ze (LD ((y4.1,s3.2.2.at_,y4.2.at_),s3.2.1)) fun y5=>
      ze (ZB y4.2) fun y6=>
      some (LO.again (w64 (s3.1+1),y5,y6))
    else
     some (LO.out (s3.2.1,s3.2.2)):Int×List zk×zb->Option (LO (Int×List zk×zb) (List zk×zb) _)) (0,[],y2) fun o7=>
  some (0,o7.1)
def um(x:Str):Option (List zk×Int):=
 ze (nC x) fun y1=>
 bif y1.1 != 0 then
  some ([],y1.1)
 else
  some (y1.2,0)
def iw(x:List za):Option Int:=
 bif (x.length:Int)==0 then
  some 0
 else
  ze (geti x 0) fun y1=>
  some y1.token.kind
def kI(x:Int×List UInt8):Option Int:=
 Zp (fun(s1:Int)=>
   bif decide (s1<(x.2.length:Int))then
    need (decide (0<=s1)&&decide (s1<(x.2.length:Int)))<|
    ze x.2[s1.toNat]? fun y2=>
    bif x.1==(y2.toNat:Int)then
     some (LO.ret s1)
    else
     some (LO.again (w64 (s1+1)))
   else
    some (LO.out ()):Int->Option (LO (Int) (Unit) _)) 0 fun o3=>
 some (-1)
def QK(x:Int×List UInt8):Option Bool:=
 ze (kI (x.1,x.2)) fun y1=>
 some (decide (y1>=0))
def OI(x:za×List UInt8):Option Bool:=
 ze (QK (x.1.token.kind,x.2)) fun y1=>
 some y1
def qZ(x:List za×List UInt8):Option Int:=
 Zp (fun(s1:Int)=>
   bif decide (s1<(x.1.length:Int))then
    ze (geti x.1 s1) fun y2=>
    ze (OI ((⟨y2.token,y2.list⟩:za),x.2)) fun y3=>
    bif y3 then
     some (LO.ret s1)
    else
     some (LO.again (w64 (s1+1)))
   else
    some (LO.out ()):Int->Option (LO (Int) (Unit) _)) 0 fun o4=>
 some (-1)
def EC(x:List za×List UInt8):Option (List za×List za):=
 ze (qZ (x.1,x.2)) fun y1=>
 bif decide (y1<0)then
  some (x.1,[])
 else
  need (decide (0<=y1)&&decide (y1<=(x.1.length:Int)))<|
  need (decide (0<=y1)&&decide (y1<=(x.1.length:Int)))<|
  some (List.take y1.toNat x.1,List.drop y1.toNat x.1)
def Zd(x:Int×zm):Option zk:=
 bif decide (w64 (x.2.at_+x.1)<(x.2.v.length:Int))then
  ze (geti x.2.v (w64 (x.2.at_+x.1))) fun y1=>
  some y1.token
 else
  some (⟨0,[],0,[],false⟩:zk)
def Zm(x:zm):Option (Bool×zm):=
 Zp (fun(s1:zm)=>
   ze (Zd (0,s1)) fun y2=>
   bif y2.kind==13 then
    some (LO.again (⟨s1.v,w64 (s1.at_+1)⟩:zm))
   else
    some (LO.out s1):zm->Option (LO (zm) (zm) _)) x fun o3=>
 some (decide (o3.at_>x.at_),o3)
def Z4(x:Str×zm):Option (Bool×zm):=
 ze (Zd (0,x.2)) fun y1=>
 bif bif y1.kind != 9 then true else !(y1.text==x.1)then
  some (false,x.2)
 else
  some (true,(⟨x.2.v,w64 (x.2.at_+1)⟩:zm))
def qO(x:zm):Option (Int×zm):=
 Zp (fun(s1:Int×zm)=>
   bif decide (s1.1<3)then
    need (decide (0<=s1.1)&&(decide (s1.1<=w64 (s1.1+1))&&decide (w64 (s1.1+1)<=3)))<|
    ze (Z4 (List.drop s1.1.toNat (List.take (w64 (s1.1+1)).toNat ([62,43,126]:Str)),s1.2)) fun y2=>
    bif y2.1 then
     ze (Zm y2.2) fun y3=>
     some (LO.ret (wu8 (2+wu8 s1.1),y3.2))
    else
     some (LO.again (w64 (s1.1+1),y2.2))
   else
    some (LO.out s1.2):Int×zm->Option (LO (Int×zm) (zm) _)) (0,x) fun o4=>
 some (0,o4)
def Qx(x:Int×zm):Option (List za):=
 ze (geti x.2.v (w64 (x.2.at_+x.1))) fun y1=>
 some y1.list
def qP(x:zm):Option Bool:=
 some (x.at_==(x.v.length:Int))
def MC(x:List za):Option (zF×Bool):=
 ze (Zm (⟨x,0⟩:zm)) fun y1=>
 ze (Zd (0,y1.2)) fun y2=>
 ze (ZL y2.text) fun y3=>
 ze (Zd (0,y1.2)) fun y4=>
 bif y4.kind != 1 then
  some ((⟨3,y3,0,[],false,(⟨0,0⟩:VAnb),false,[]⟩:zF),false)
 else
  ze (Zm (⟨y1.2.v,w64 (y1.2.at_+1)⟩:zm)) fun y5=>
  ze (qP y5.2) fun y6=>
  bif y6 then
   some ((⟨3,y3,0,[],false,(⟨0,0⟩:VAnb),false,[]⟩:zF),true)
  else
   Zv (X:=(Int×Str×Int×Str×Bool×Int×Int×Bool)×zm×(Int×Str×Int×Str×Bool×Int×Int×Bool)) (
     ze (Z4 ([61],y5.2)) fun y7=>
     bif y7.1 then
      some (LX.out ((0,[],0,[],false,0,0,false),y7.2,(3,y3,1,[],false,0,0,false)))
     else
      ze (Zd (0,y7.2)) fun y8=>
      ze (ik ([126,124,94,36,42],y8.text)) fun y9=>
      bif bif y8.kind != 9 then true else decide (y9<0)then
       some (LX.ret ((⟨3,y3,0,[],false,(⟨0,0⟩:VAnb),false,[]⟩:zF),false))
      else
       ze (Z4 ([61],(⟨y7.2.v,w64 (y7.2.at_+1)⟩:zm))) fun y10=>
       bif !y10.1 then
        some (LX.ret ((⟨3,y3,0,[],false,(⟨0,0⟩:VAnb),false,[]⟩:zF),false))
       else
        some (LX.out ((0,[],0,[],false,0,0,false),y10.2,(3,y3,wu8 (2+wu8 y9),[],false,0,0,false)))) fun j11=>
   ze (Zm j11.2.1) fun y12=>
   ze (Zd (0,y12.2)) fun y13=>
   bif bif y13.kind != 1 then y13.kind != 5 else false then
    some ((⟨j11.2.2.1,j11.2.2.2.1,j11.2.2.2.2.1,j11.2.2.2.2.2.1,j11.2.2.2.2.2.2.1,(⟨j11.2.2.2.2.2.2.2.1,j11.2.2.2.2.2.2.2.2.1⟩:VAnb),j11.2.2.2.2.2.2.2.2.2,[]⟩:zF),false)
   else
    ze (Zm (⟨y12.2.v,w64 (y12.2.at_+1)⟩:zm)) fun y14=>
    ze (Zd (0,y14.2)) fun y15=>
    bif y15.kind==1 then
     ze (Zm (⟨y14.2.v,w64 (y14.2.at_+1)⟩:zm)) fun y16=>
     ze (ZZ (y15.text,[105])) fun y17=>
     ze (qP y16.2) fun y18=>
     ze (zK (!y17&&y18) (ZZ (y15.text,[115])) (default:Bool)) fun y19=>
     some ((⟨j11.2.2.1,j11.2.2.2.1,j11.2.2.2.2.1,y13.text,y17,(⟨j11.2.2.2.2.2.2.2.1,j11.2.2.2.2.2.2.2.2.1⟩:VAnb),j11.2.2.2.2.2.2.2.2.2,[]⟩:zF),bif y18 then bif y17 then true else y19 else false)
    else
     ze (qP y14.2) fun y20=>
     some ((⟨j11.2.2.1,j11.2.2.2.1,j11.2.2.2.2.1,y13.text,j11.2.2.2.2.2.2.1,(⟨j11.2.2.2.2.2.2.2.1,j11.2.2.2.2.2.2.2.2.1⟩:VAnb),j11.2.2.2.2.2.2.2.2.2,[]⟩:zF),y20)
def Wx(x:Unit):Option (List Str):=
 some [[108,105,110,107],[118,105,115,105,116,101,100],[97,110,121,45,108,105,110,107],[114,111,111,116],[101,109,112,116,121],[110,116,104,45,99,104,105,108,100],[110,116,104,45,108,97,115,116,45,99,104,105,108,100],[105,115],[119,104,101,114,101],[110,111,116],[104,97,115]]
def LC(x:Str):Option (zF×Bool):=
 ze (ZL x) fun y1=>
 bif y1==[102,105,114,115,116,45,99,104,105,108,100]then
  some ((⟨9,[],0,[],false,(⟨0,1⟩:VAnb),false,[]⟩:zF),true)
 else
  bif y1==[108,97,115,116,45,99,104,105,108,100]then
   some ((⟨10,[],0,[],false,(⟨0,1⟩:VAnb),false,[]⟩:zF),true)
  else
   ze (Wx ()) fun y2=>
   ze (ZL x) fun y3=>
   ze (slices_Index_string (y2,y3)) fun y4=>
   some ((⟨wu8 (4+wu8 (if 0>y4 then 0 else y4)),[],0,[],false,(⟨0,0⟩:VAnb),false,[]⟩:zF),bif decide (y4>=0)then decide (y4<5)else false)
def WI(x:za):Option Bool:=
 ze (zK (x.token.kind==1) (ZZ (x.token.text,[111,102])) (default:Bool)) fun y1=>
 some (bif x.token.kind==1 then y1 else false)
def Qa(x:List za):Option Int:=
 Zp (fun(s1:Int)=>
   bif decide (s1<(x.length:Int))then
    ze (geti x s1) fun y2=>
    ze (WI (⟨y2.token,y2.list⟩:za)) fun y3=>
    bif y3 then
     some (LO.ret s1)
    else
     some (LO.again (w64 (s1+1)))
   else
    some (LO.out ()):Int->Option (LO (Int) (Unit) _)) 0 fun o4=>
 some (-1)
def qJ(x:zM):Option zM:=
 Zp (fun(s1:zM)=>
   ze (zK (decide ((s1.l.length:Int)>0)) (geti s1.l 0) (default:zk)) fun y2=>
   bif bif decide ((s1.l.length:Int)>0)then y2.kind==13 else false then
    need (decide (1<=(s1.l.length:Int)))<|
    some (LO.again (⟨List.drop 1 s1.l⟩:zM))
   else
    some (LO.out s1):zM->Option (LO (zM) (zM) _)) x fun o3=>
 some o3
def QY(x:Int×zM):Option ((zk×Bool)×zM):=
 ze (zK (!((x.2.l.length:Int)==0)) (geti x.2.l 0) (default:zk)) fun y1=>
 bif bif (x.2.l.length:Int)==0 then true else y1.kind != x.1 then
  some (((⟨0,[],0,[],false⟩:zk),false),x.2)
 else
  ze (geti x.2.l 0) fun y2=>
  need (decide (1<=(x.2.l.length:Int)))<|
  some ((y2,true),(⟨List.drop 1 x.2.l⟩:zM))
def dx(x:zM):Option ((Int×Bool)×zM):=
 ze (QY (10,x)) fun y1=>
 some ((w64 (Int.tdiv y1.1.1.num 1000),bif bif y1.1.2 then y1.1.1.flag else false then Int.tmod y1.1.1.num 1000==0 else false),y1.2)
def stringslite_CutPrefix(x:Str×Str):Option (Str×Bool):=
 ze (stringslite_HasPrefix (x.1,x.2)) fun y1=>
 bif !y1 then
  some (x.1,false)
 else
  need (decide (0<=(x.2.length:Int))&&decide ((x.2.length:Int)<=(x.1.length:Int)))<|
  some (List.drop x.2.length x.1,true)
def strings_CutPrefix(x:Str×Str):Option (Str×Bool):=
 ze (stringslite_CutPrefix (x.1,x.2)) fun y1=>
 some (y1.1,y1.2)
def Ay(x:zM):Option (Int×zM):=
 ze (zK (!((x.l.length:Int)==0)) (geti x.l 0) (default:zk)) fun y1=>
 bif bif (x.l.length:Int)==0 then true else y1.kind != 9 then
  some (0,x)
 else
  ze (geti x.l 0) fun y2=>
  ze (ik ([45,32,43],y2.text)) fun y3=>
  ze (geti x.l 0) fun y4=>
  ze (zK (!(y4.text==[43])) (geti x.l 0) (default:zk)) fun y5=>
  bif bif y4.text==[43]then true else y5.text==[45]then
   need (decide (1<=(x.l.length:Int)))<|
   some (w64 (y3 - 1),(⟨List.drop 1 x.l⟩:zM))
  else
   some (0,x)
def QX(x:Str×zM):Option ((Int×Bool)×zM):=
 Zv (X:=Int×zM) (
   bif x.1==[45]then
    some (LX.out ((-1),x.2))
   else
    bif !(x.1==[])then
     ze (strings_CutPrefix (x.1,[45])) fun y1=>
     ze (zK (!(!y1.2)) (trimF (y1.1,[48,49,50,51,52,53,54,55,56,57])) (default:Str)) fun y2=>
     bif bif !y1.2 then true else !(y2==[])then
      some (LX.ret ((0,false),x.2))
     else
      ze (bv (y1.1,10,64)) fun y3=>
      Zv (X:=Int) (
        bif bif y3.2 then true else decide (y3.1>1000000000)then
         some (LX.out 1000000000)
        else
         some (LX.out y3.1)) fun j4=>
      some (LX.ret ((w64 (0 - j4),true),x.2))
    else
     ze (qJ x.2) fun y5=>
     bif (y5.l.length:Int)==0 then
      some (LX.ret ((0,true),y5))
     else
      ze (Ay y5) fun y6=>
      some (LX.out (y6.1,y6.2))) fun j7=>
 ze (qJ j7.2) fun y8=>
 ze (dx y8) fun y9=>
 bif j7.1==0 then
  some ((y9.1.1,y9.1.2),y9.2)
 else
  some ((w64 (j7.1*y9.1.1),bif y9.1.2 then decide (y9.1.1>=0)else false),y9.2)
def UD(x:zM):Option ((VAnb×Bool)×zM):=
 ze (dx x) fun y1=>
 bif y1.1.2 then
  some (((⟨0,y1.1.1⟩:VAnb),true),y1.2)
 else
  ze (QY (12,y1.2)) fun y2=>
  bif y2.1.2 then
   ze (ZL y2.1.1.unit) fun y3=>
   ze (strings_CutPrefix (y3,[110])) fun y4=>
   bif bif bif !y4.2 then true else !y2.1.1.flag then true else Int.tmod y2.1.1.num 1000 != 0 then
    some (((⟨0,0⟩:VAnb),false),y2.2)
   else
    ze (QX (y4.1,y2.2)) fun y5=>
    some (((⟨w64 (Int.tdiv y2.1.1.num 1000),y5.1.1⟩:VAnb),y5.1.2),y5.2)
  else
   ze (Ay y2.2) fun y6=>
   ze (QY (1,y6.2)) fun y7=>
   bif bif !y7.1.2 then true else decide (y6.1<0)then
    some (((⟨0,0⟩:VAnb),false),y7.2)
   else
    ze (ZL y7.1.1.text) fun y8=>
    Zv (X:=(Str×Int)×zM×VAnb) (
      bif y6.1==0 then
       bif y8==[111,100,100]then
        some (LX.ret (((⟨2,1⟩:VAnb),true),y7.2))
       else
        bif y8==[101,118,101,110]then
         some (LX.ret (((⟨2,0⟩:VAnb),true),y7.2))
        else
         ze (strings_CutPrefix (y8,[45])) fun y9=>
         bif y9.2 then
          some (LX.out ((y9.1,(-1)),y7.2,(⟨0,0⟩:VAnb)))
         else
          some (LX.out ((y8,1),y7.2,(⟨0,0⟩:VAnb)))
      else
       some (LX.out ((y8,1),y7.2,(⟨0,0⟩:VAnb)))) fun j10=>
    ze (strings_CutPrefix (j10.1.1,[110])) fun y11=>
    bif !y11.2 then
     some (((⟨0,0⟩:VAnb),false),j10.2.1)
    else
     ze (QX (y11.1,j10.2.1)) fun y12=>
     some (((⟨j10.1.2,y12.1.1⟩:VAnb),y12.1.2),y12.2)
def Hz(x:List zk):Option (VAnb×Int):=
 ze (qJ (⟨x⟩:zM)) fun y1=>
 ze (UD y1) fun y2=>
 ze (qJ y2.2) fun y3=>
 ze (zK (!(bif !y2.1.2 then true else decide ((y3.l.length:Int)>0))) (Dt y2.1.1) (default:Int)) fun y4=>
 bif bif bif !y2.1.2 then true else decide ((y3.l.length:Int)>0)then true else y4 != 0 then
  some ((⟨0,0⟩:VAnb),12)
 else
  some (y2.1.1,0)
def Jp(zD:List za×zf×Bool×Bool->Option (List zq×Bool))(x:zF×List za×zf):Option (zF×Bool):=
 ze (Qa x.2.1) fun y1=>
 Zv (X:=List za×zF×(Int×Str×Int×Str×Bool×Int×Int×Bool)) (
   bif decide (y1>=0)then
    ze (Qd (x.2.2,x.1.kind)) fun y2=>
    need (decide (0<=w64 (y1+1))&&decide (w64 (y1+1)<=(x.2.1.length:Int)))<|
    ze (zD (List.drop (w64 (y1+1)).toNat x.2.1,y2.1,false,false)) fun y3=>
    bif bif !y2.2 then true else !y3.2 then
     some (LX.ret ((⟨x.1.kind,x.1.name,x.1.op,x.1.value,x.1.fold,x.1.anb,x.1.of_,x.1.list⟩:zF),false))
    else
     need (decide (0<=y1)&&decide (y1<=(x.2.1.length:Int)))<|
     some (LX.out (List.take y1.toNat x.2.1,(⟨x.1.kind,x.1.name,x.1.op,x.1.value,x.1.fold,x.1.anb,true,y3.1⟩:zF),(0,[],0,[],false,0,0,false)))
   else
    some (LX.out (x.2.1,(⟨x.1.kind,x.1.name,x.1.op,x.1.value,x.1.fold,x.1.anb,x.1.of_,x.1.list⟩:zF),(0,[],0,[],false,0,0,false)))) fun j4=>
 ze (Xw j4.1) fun y5=>
 bif y5.2 != 0 then
  some ((⟨j4.2.1.kind,j4.2.1.name,j4.2.1.op,j4.2.1.value,j4.2.1.fold,j4.2.1.anb,j4.2.1.of_,j4.2.1.list⟩:zF),false)
 else
  ze (Hz y5.1) fun y6=>
  some ((⟨j4.2.1.kind,j4.2.1.name,j4.2.1.op,j4.2.1.value,j4.2.1.fold,y6.1,j4.2.1.of_,j4.2.1.list⟩:zF),y6.2==0)
def Qc(zD:List za×zf×Bool×Bool->Option (List zq×Bool))(x:Str×List za×zf):Option (zF×Bool):=
 ze (Wx ()) fun y1=>
 ze (ZL x.1) fun y2=>
 ze (slices_Index_string (y1,y2)) fun y3=>
 bif decide (y3<5)then
  some ((⟨0,[],0,[],false,(⟨0,0⟩:VAnb),false,[]⟩:zF),false)
 else
  bif decide (wu8 (4+wu8 y3)<=10)then
   ze (Jp zD ((⟨wu8 (4+wu8 y3),[],0,[],false,(⟨0,0⟩:VAnb),false,[]⟩:zF),x.2.1,x.2.2)) fun y4=>
   some ((⟨y4.1.kind,y4.1.name,y4.1.op,y4.1.value,y4.1.fold,y4.1.anb,y4.1.of_,y4.1.list⟩:zF),y4.2)
  else
   ze (Qd (x.2.2,wu8 (4+wu8 y3))) fun y5=>
   bif !y5.2 then
    some ((⟨wu8 (4+wu8 y3),[],0,[],false,(⟨0,0⟩:VAnb),false,[]⟩:zF),false)
   else
    ze (zD (x.2.1,y5.1,wu8 (4+wu8 y3)==14,decide (wu8 (4+wu8 y3)<=12))) fun y6=>
    some ((⟨wu8 (4+wu8 y3),[],0,[],false,(⟨0,0⟩:VAnb),false,y6.1⟩:zF),y6.2)
def ZW(zD:List za×zf×Bool×Bool->Option (List zq×Bool))(x:zf×zm):Option ((List zF×Bool)×zm):=
 Zp (fun(s1:zm×List zF)=>
   ze (Zd (1,s1.1)) fun y2=>
   Zv (X:=Bool×zm×List zF×zF) (
     ze (Zd (0,s1.1)) fun y3=>
     bif y3.kind==4 then
      some (LX.out (y3.flag,(⟨s1.1.v,w64 (s1.1.at_+1)⟩:zm),s1.2,(⟨1,y3.text,0,[],false,(⟨0,0⟩:VAnb),false,[]⟩:zF)))
     else
      bif bif y3.kind==9 then y3.text==[46]else false then
       some (LX.out (y2.kind==1,(⟨s1.1.v,w64 (s1.1.at_+2)⟩:zm),s1.2,(⟨2,y2.text,0,[],false,(⟨0,0⟩:VAnb),false,[]⟩:zF)))
      else
       bif y3.kind==19 then
        ze (Qx (0,s1.1)) fun y4=>
        ze (MC y4) fun y5=>
        some (LX.out (y5.2,(⟨s1.1.v,w64 (s1.1.at_+1)⟩:zm),s1.2,(⟨y5.1.kind,y5.1.name,y5.1.op,y5.1.value,y5.1.fold,y5.1.anb,y5.1.of_,y5.1.list⟩:zF)))
       else
        bif y3.kind==16 then
         Zv (X:=Bool×zm×zF) (
           bif y2.kind==1 then
            ze (LC y2.text) fun y6=>
            some (LX.out (y6.2,s1.1,(⟨y6.1.kind,y6.1.name,y6.1.op,y6.1.value,y6.1.fold,y6.1.anb,y6.1.of_,y6.1.list⟩:zF)))
           else
            bif y2.kind==2 then
             ze (Qx (1,s1.1)) fun y7=>
             ze (Qc zD (y2.text,y7,x.1)) fun y8=>
             some (LX.out (y8.2,s1.1,(⟨y8.1.kind,y8.1.name,y8.1.op,y8.1.value,y8.1.fold,y8.1.anb,y8.1.of_,y8.1.list⟩:zF)))
            else
             some (LX.out (false,s1.1,(⟨0,[],0,[],false,(⟨0,0⟩:VAnb),false,[]⟩:zF)))) fun j9=>
         some (LX.out (j9.1,(⟨j9.2.1.v,w64 (j9.2.1.at_+2)⟩:zm),s1.2,(⟨j9.2.2.kind,j9.2.2.name,j9.2.2.op,j9.2.2.value,j9.2.2.fold,j9.2.2.anb,j9.2.2.of_,j9.2.2.list⟩:zF)))
        else
         some (LX.ret (LO.ret ((s1.2,true),s1.1)))) fun j10=>
   bif !j10.1 then
    some (LO.ret (([],false),j10.2.1))
   else
    need (Zw j10.2.2.1.length 1 104)<|
    some (LO.again (j10.2.1,j10.2.2.1++[(⟨j10.2.2.2.kind,j10.2.2.2.name,j10.2.2.2.op,j10.2.2.2.value,j10.2.2.2.fold,j10.2.2.2.anb,j10.2.2.2.of_,j10.2.2.2.list⟩:zF)])):zm×List zF->Option (LO (zm×List zF) (Unit) _)) (x.2,[]) fun o11=>
 none
def qN(zD:List za×zf×Bool×Bool->Option (List zq×Bool))(x:List za×zf×Bool):Option (zq×Bool):=
 ze (Zm (⟨x.1,0⟩:zm)) fun y1=>
 Zv (X:=Int×zm×Int) (
   bif x.2.2 then
    ze (qO y1.2) fun y2=>
    bif y2.1==0 then
     some (LX.out (0,y2.2,1))
    else
     some (LX.out (0,y2.2,y2.1))
   else
    some (LX.out (0,y1.2,0))) fun j3=>
 Zv (X:=Int×zm×Int) (
   some (LX.out (j3.1,j3.2.1,j3.2.2))) fun j4=>
 Zp (fun(s5:Int×zm×Int×List zO×List UInt8)=>
   Zv (X:=Int×zm×Int×List zO×List UInt8×Str) (
     ze (Zd (0,s5.2.1)) fun y6=>
     bif y6.kind==1 then
      ze (ZL y6.text) fun y7=>
      some (LX.out (s5.1,(⟨s5.2.1.v,w64 (s5.2.1.at_+1)⟩:zm),s5.2.2.1,s5.2.2.2.1,s5.2.2.2.2,y7))
     else
      ze (Z4 ([42],s5.2.1)) fun y8=>
      bif y8.1 then
       some (LX.out (s5.1,y8.2,s5.2.2.1,s5.2.2.2.1,s5.2.2.2.2,[42]))
      else
       some (LX.out (s5.1,y8.2,s5.2.2.1,s5.2.2.2.1,s5.2.2.2.2,[]))) fun j9=>
   ze (ZW zD (x.2.1,j9.2.1)) fun y10=>
   ze (zK (!(!y10.1.2)) (QE zB ((⟨j9.2.2.2.2.2,y10.1.1⟩:zO),x.2.1)) (default:Bool)) fun y11=>
   bif bif !y10.1.2 then true else !y11 then
    some (LO.ret ((⟨j9.2.2.1,j9.2.2.2.1,j9.2.2.2.2.1⟩:zq),false))
   else
    need (Zw j9.2.2.2.1.length 1 40)<|
    ze (Zm y10.2) fun y12=>
    ze (qP y12.2) fun y13=>
    bif y13 then
     some (LO.out (j9.1,y12.2,j9.2.2.1,j9.2.2.2.1++[(⟨j9.2.2.2.2.2,y10.1.1⟩:zO)],j9.2.2.2.2.1))
    else
     ze (qO y12.2) fun y14=>
     Zv (X:=Int×Int×Int×List zO×List UInt8) (
       bif bif y14.1==0 then !y12.1 else false then
        some (LX.ret (LO.ret ((⟨j9.2.2.1,j9.2.2.2.1++[(⟨j9.2.2.2.2.2,y10.1.1⟩:zO)],j9.2.2.2.2.1⟩:zq),false)))
       else
        bif y14.1==0 then
         some (LX.out (1,j9.1,j9.2.2.1,j9.2.2.2.1++[(⟨j9.2.2.2.2.2,y10.1.1⟩:zO)],j9.2.2.2.2.1))
        else
         some (LX.out (y14.1,j9.1,j9.2.2.1,j9.2.2.2.1++[(⟨j9.2.2.2.2.2,y10.1.1⟩:zO)],j9.2.2.2.2.1))) fun j15=>
     ze (Ef j15.1) fun y16=>
     need (Zw j15.2.2.2.2.length 1 1)<|
     some (LO.again (j15.2.1,y14.2,j15.2.2.1,j15.2.2.2.1,j15.2.2.2.2++[y16])):Int×zm×Int×List zO×List UInt8->Option (LO (Int×zm×Int×List zO×List UInt8) (Int×zm×Int×List zO×List UInt8) _)) (j4.1,j4.2.1,j4.2.2,[],[]) fun o17=>
 some ((⟨o17.2.2.1,o17.2.2.2.1,o17.2.2.2.2⟩:zq),decide ((o17.2.2.2.1.length:Int)<=64))
def Qw(zD:List za×zf×Bool×Bool->Option (List zq×Bool))(x:List za×zf×Bool×Bool):Option (List zq×Bool):=
 Zp (fun(s1:(Int×Int)×List zq)=>
   bif decide (s1.1.2<w64 ((x.1.length:Int)+1))then
    Zv (X:=(Int×Int)×List zq) (
      ze (zK (decide (s1.1.2<(x.1.length:Int))) (geti x.1 s1.1.2) (default:za)) fun y2=>
      bif bif decide (s1.1.2<(x.1.length:Int))then y2.token.kind != 18 else false then
       some (LX.out ((s1.1.1,s1.1.2),s1.2))
      else
       Zv (X:=List zq) (
         need (decide (0<=s1.1.1)&&(decide (s1.1.1<=s1.1.2)&&decide (s1.1.2<=(x.1.length:Int))))<|
         ze (qN zD (List.drop s1.1.1.toNat (List.take s1.1.2.toNat x.1),x.2.1,x.2.2.1)) fun y3=>
         bif y3.2 then
          need (Zw s1.2.length 1 56)<|
          some (LX.out (s1.2++[(⟨y3.1.lead,y3.1.parts,y3.1.combs⟩:zq)]))
         else
          bif !x.2.2.2 then
           some (LX.ret (LX.ret (LO.ret ([],false))))
          else
           some (LX.out s1.2)) fun j4=>
       some (LX.out ((w64 (s1.1.2+1),s1.1.2),j4))) fun j5=>
    some (LO.again ((j5.1.1,w64 (j5.1.2+1)),j5.2))
   else
    some (LO.out s1.2):(Int×Int)×List zq->Option (LO ((Int×Int)×List zq) (List zq) _)) ((0,0),[]) fun o6=>
 some (o6,true)
def zD:List za×zf×Bool×Bool->Option (List zq×Bool):=recE (Qw)
def YB(x:List za):Option (List zq×Int):=
 ze (Ck x) fun y1=>
 bif y1 != 0 then
  some ([],y1)
 else
  ze (zD (x,(⟨0,false⟩:zf),false,false)) fun y2=>
  bif !y2.2 then
   some ([],12)
  else
   ze (qU y2.1) fun y3=>
   bif decide (y3>64)then
    some ([],4)
   else
    some (y2.1,0)
def XD(x:List za):Option (List za):=need (Zw 0 x.length 80) (some x)
def wB(Rj:List za->Option (List za))(x:List za):Option (List za):=
 ze (XD x) fun y1=>
 Zp (fun(s2:Int×List za)=>
   bif decide (s2.1<(y1.length:Int))then
    need (decide (0<=s2.1)&&decide (s2.1<(s2.2.length:Int)))<|
    ze s2.2[s2.1.toNat]? fun y3=>
    ze (Rj y3.list) fun y4=>
    need (decide (0<=s2.1)&&decide (s2.1<(s2.2.length:Int)))<|
    ze s2.2[s2.1.toNat]? fun y5=>
    some (LO.again (w64 (s2.1+1),List.set s2.2 s2.1.toNat (⟨y5.token,y4⟩:za)))
   else
    some (LO.out s2.2):Int×List za->Option (LO (Int×List za) (List za) _)) (0,y1) fun o6=>
 some o6
def Rj:List za->Option (List za):=recE (wB)
def Jt(x:List za×Int):Option (List (List za)×Int):=
 ze (Ck x.1) fun y1=>
 bif y1 != 0 then
  some ([],y1)
 else
  bif bif decide (x.2<1)then true else decide (x.2>24)then
   some ([],2)
  else
   Zp (fun(s2:(Int×Int)×List (List za))=>
     bif decide (s2.1.2<(x.1.length:Int))then
      Zv (X:=(Int×Int)×List (List za)) (
        ze (geti x.1 s2.1.2) fun y3=>
        bif y3.token.kind==x.2 then
         need (decide (0<=s2.1.1)&&(decide (s2.1.1<=s2.1.2)&&(decide (s2.1.2<=s2.1.2)&&decide (s2.1.2<=(x.1.length:Int))))&&decide (s2.1.2=s2.1.2))<|
         ze (Rj (List.drop s2.1.1.toNat (List.take s2.1.2.toNat x.1))) fun y4=>
         need (Zw s2.2.length 1 24)<|
         some (LX.out ((w64 (s2.1.2+1),s2.1.2),s2.2++[y4]))
        else
         some (LX.out ((s2.1.1,s2.1.2),s2.2))) fun j5=>
      some (LO.again ((j5.1.1,w64 (j5.1.2+1)),j5.2))
     else
      some (LO.out (s2.1.1,s2.2)):(Int×Int)×List (List za)->Option (LO ((Int×Int)×List (List za)) (Int×List (List za)) _)) ((0,0),[]) fun o6=>
   need (decide (0<=o6.1)&&decide (o6.1<=(x.1.length:Int)))<|
   ze (Rj (List.drop o6.1.toNat x.1)) fun y7=>
   need (Zw o6.2.length 1 24)<|
   some (o6.2++[y7],0)
def Gt(x:List za):Option (List za):=
 Zp (fun(s1:List za)=>
   ze (zK (decide ((s1.length:Int)>0)) (geti s1 0) (default:za)) fun y2=>
   ze (zK (decide ((s1.length:Int)>0)) (Qb ((⟨y2.token,y2.list⟩:za),13)) (default:Bool)) fun y3=>
   bif bif decide ((s1.length:Int)>0)then y3 else false then
    need (decide (1<=(s1.length:Int)))<|
    some (LO.again (List.drop 1 s1))
   else
    some (LO.out s1):List za->Option (LO (List za) (List za) _)) x fun o4=>
 some o4
def gm(x:List za):Option (List za):=
 Zp (fun(s1:List za)=>
   ze (zK (decide ((s1.length:Int)>0)) (geti s1 (w64 ((s1.length:Int) - 1))) (default:za)) fun y2=>
   ze (zK (decide ((s1.length:Int)>0)) (Qb ((⟨y2.token,y2.list⟩:za),13)) (default:Bool)) fun y3=>
   bif bif decide ((s1.length:Int)>0)then y3 else false then
    need (decide (0<=w64 ((s1.length:Int) - 1))&&decide (w64 ((s1.length:Int) - 1)<=(s1.length:Int)))<|
    some (LO.again (List.take (w64 ((s1.length:Int) - 1)).toNat s1))
   else
    some (LO.out s1):List za->Option (LO (List za) (List za) _)) x fun o4=>
 some o4
def Ex(x:Int×List za):Option Bool:=
 ze (geti x.2 x.1) fun y1=>
 some (y1.token.kind==13)
def Us(x:List za):Option (List za×Int):=
 ze (Ck x) fun y1=>
 bif y1 != 0 then
  some ([],y1)
 else
  Zp (fun(s2:Int)=>
    ze (zK (decide (s2<(x.length:Int))) (Ex (s2,x)) (default:Bool)) fun y3=>
    bif bif decide (s2<(x.length:Int))then y3 else false then
     some (LO.again (w64 (s2+1)))
    else
     some (LO.out s2):Int->Option (LO (Int) (Int) _)) 0 fun o4=>
  Zp (fun(s5:Int)=>
    ze (zK (decide (o4<s5)) (Ex (w64 (s5 - 1),x)) (default:Bool)) fun y6=>
    bif bif decide (o4<s5)then y6 else false then
     some (LO.again (w64 (s5 - 1)))
    else
     some (LO.out s5):Int->Option (LO (Int) (Int) _)) (x.length:Int) fun o7=>
  need (decide (0<=o4)&&(decide (o4<=o7)&&(decide (o7<=o7)&&decide (o7<=(x.length:Int))))&&decide (o7=o7))<|
  ze (Rj (List.drop o4.toNat (List.take o7.toNat x))) fun y8=>
  some (y8,0)
def Ow(x:List za):Option (Zh×Bool):=
 ze (Gt x) fun y1=>
 ze (gm y1) fun y2=>
 ze (zK (!((y2.length:Int)==0)) (geti y2 0) (default:za)) fun y3=>
 ze (zK (!((y2.length:Int)==0)) (Qb ((⟨y3.token,y3.list⟩:za),1)) (default:Bool)) fun y4=>
 bif bif (y2.length:Int)==0 then true else !y4 then
  some ((⟨[],[],false⟩:Zh),false)
 else
  ze (geti y2 0) fun y5=>
  Zv (X:=List za×(Str×Bool)×(Str×Bool)) (
    ze (strings_HasPrefix (y5.token.text,[45,45])) fun y6=>
    bif !y6 then
     ze (ZL y5.token.text) fun y7=>
     some (LX.out (y2,([],false),(y7,false)))
    else
     some (LX.out (y2,([],false),(y5.token.text,false)))) fun j8=>
  need (decide (1<=(j8.1.length:Int)))<|
  ze (Gt (List.drop 1 j8.1)) fun y9=>
  ze (zK (!((y9.length:Int)==0)) (geti y9 0) (default:za)) fun y10=>
  ze (zK (!((y9.length:Int)==0)) (Qb ((⟨y10.token,y10.list⟩:za),16)) (default:Bool)) fun y11=>
  bif bif (y9.length:Int)==0 then true else !y11 then
   some ((⟨[],[],false⟩:Zh),false)
  else
   need (decide (1<=(y9.length:Int)))<|
   ze (Gt (List.drop 1 y9)) fun y12=>
   Zv (X:=List za×(Str×Bool)×(Str×Bool)) (
     ze (zK (decide (w64 ((y12.length:Int) - 1)>0)) (geti y12 (w64 ((y12.length:Int) - 1))) (default:za)) fun y13=>
     ze (zK (decide (w64 ((y12.length:Int) - 1)>0)) (Qb ((⟨y13.token,y13.list⟩:za),1)) (default:Bool)) fun y14=>
     ze (zK (bif decide (w64 ((y12.length:Int) - 1)>0)then y14 else false) (geti y12 (w64 ((y12.length:Int) - 1))) (default:za)) fun y15=>
     ze (zK (bif decide (w64 ((y12.length:Int) - 1)>0)then y14 else false) (ZZ (y15.token.text,[105,109,112,111,114,116,97,110,116])) (default:Bool)) fun y16=>
     bif bif bif decide (w64 ((y12.length:Int) - 1)>0)then y14 else false then y16 else false then
      need (decide (0<=w64 ((y12.length:Int) - 1))&&decide (w64 ((y12.length:Int) - 1)<=(y12.length:Int)))<|
      ze (gm (List.take (w64 ((y12.length:Int) - 1)).toNat y12)) fun y17=>
      ze (zK (decide ((y17.length:Int)>0)) (geti y17 (w64 ((y17.length:Int) - 1))) (default:za)) fun y18=>
      ze (zK (decide ((y17.length:Int)>0)) (vo (⟨y18.token,y18.list⟩:za)) (default:Bool)) fun y19=>
      bif bif decide ((y17.length:Int)>0)then y19 else false then
       need (decide (0<=w64 ((y17.length:Int) - 1))&&decide (w64 ((y17.length:Int) - 1)<=(y17.length:Int)))<|
       ze (gm (List.take (w64 ((y17.length:Int) - 1)).toNat y17)) fun y20=>
       some (LX.out (y20,(j8.2.1.1,j8.2.1.2),(j8.2.2.1,true)))
      else
       some (LX.out (y12,(j8.2.1.1,j8.2.1.2),(j8.2.2.1,j8.2.2.2)))
     else
      some (LX.out (y12,(j8.2.1.1,j8.2.1.2),(j8.2.2.1,j8.2.2.2)))) fun j21=>
   ze (Us j21.1) fun y22=>
   ze (zK (!(y22.2 != 0)) (Ep (⟨j21.2.2.1,y22.1,j21.2.2.2⟩:Zh)) (default:Int)) fun y23=>
   bif bif y22.2 != 0 then true else y23 != 0 then
    some ((⟨[],[],false⟩:Zh),false)
   else
    some ((⟨j21.2.2.1,y22.1,j21.2.2.2⟩:Zh),true)
def AA(x:List za):Option (List Zh×Int):=
 ze (Jt (x,17)) fun y1=>
 bif y1.2 != 0 then
  some ([],y1.2)
 else
  Zp (fun(s2:Int×List Zh)=>
    bif decide (s2.1<(y1.1.length:Int))then
     Zv (X:=Int×List Zh) (
       ze (geti y1.1 s2.1) fun y3=>
       ze (Ow y3) fun y4=>
       bif bif y4.2 then decide ((s2.2.length:Int)<32)else false then
        need (Zw s2.2.length 1 48)<|
        some (LX.out (s2.1,s2.2++[y4.1]))
       else
        some (LX.out (s2.1,s2.2))) fun j5=>
     some (LO.again (w64 (j5.1+1),j5.2))
    else
     some (LO.out s2.2):Int×List Zh->Option (LO (Int×List Zh) (List Zh) _)) (0,[]) fun o6=>
  some (o6,0)
def FC(x:List za×List za):Option (z8×Bool):=
 ze (YB x.1) fun y1=>
 bif y1.2 != 0 then
  some ((⟨0,[],[],(⟨0,[],0,(⟨[],[],false⟩:Zh),[]⟩:zt),[],[]⟩:z8),false)
 else
  ze (AA x.2) fun y2=>
  some ((⟨1,y1.1,y2.1,(⟨0,[],0,(⟨[],[],false⟩:Zh),[]⟩:zt),[],[]⟩:z8),y2.2==0)
def QR(x:List Str):Option Int:=
 Zp (fun(s1:Int)=>
   bif decide (s1<(x.length:Int))then
    need (decide (0<=s1)&&decide (s1<(x.length:Int)))<|
    ze x[s1.toNat]? fun y2=>
    ze (Vx y2) fun y3=>
    bif y3 then
     some (LO.ret s1)
    else
     some (LO.again (w64 (s1+1)))
   else
    some (LO.out ()):Int->Option (LO (Int) (Unit) _)) 0 fun o4=>
 some (-1)
def Qi(x:List Str):Option Bool:=
 ze (QR x) fun y1=>
 some (decide (y1>=0))
def rC(x:List Str):Option Bool:=
 ze (zK (bif decide ((x.length:Int)>0)then decide ((x.length:Int)<=16)else false) (Qi x) (default:Bool)) fun y1=>
 some (bif bif decide ((x.length:Int)>0)then decide ((x.length:Int)<=16)else false then !y1 else false)
def XB(x:List za):Option (List Str×Bool):=
 ze (Us x) fun y1=>
 bif bif y1.2 != 0 then true else Int.tmod (y1.1.length:Int) 2==0 then
  some ([],false)
 else
  Zp (fun(s2:Int×List Str)=>
    bif decide (s2.1<(y1.1.length:Int))then
     Zv (X:=Int×List Str) (
       ze (geti y1.1 s2.1) fun y3=>
       bif Int.tmod s2.1 2==1 then
        bif bif y3.token.kind != 9 then true else !(y3.token.text==[46])then
         some (LX.ret (LO.ret ([],false)))
        else
         some (LX.out (s2.1,s2.2))
       else
        bif y3.token.kind != 1 then
         some (LX.ret (LO.ret ([],false)))
        else
         need (Zw s2.2.length 1 16)<|
         some (LX.out (s2.1,s2.2++[y3.token.text]))) fun j4=>
     some (LO.again (w64 (j4.1+1),j4.2))
    else
     some (LO.out s2.2):Int×List Str->Option (LO (Int×List Str) (List Str) _)) (0,[]) fun o5=>
  ze (rC o5) fun y6=>
  some (o5,y6)
def Mx(x:List za×Bool):Option (z8×Bool):=
 ze (Jt (x.1,18)) fun y1=>
 bif bif y1.2 != 0 then true else decide ((y1.1.length:Int)>64)then
  some ((⟨0,[],[],(⟨0,[],0,(⟨[],[],false⟩:Zh),[]⟩:zt),[],[]⟩:z8),false)
 else
  Zv (X:=(Int×Int×Str×Int×Str×Bool)×(Int×Int×Str×Int×Str×Bool)) (
    bif x.2 then
     ze (Us x.1) fun y2=>
     bif (y2.1.length:Int)==0 then
      some (LX.ret ((⟨4,[],[],(⟨0,[],0,(⟨[],[],false⟩:Zh),[]⟩:zt),[],[]⟩:z8),true))
     else
      some (LX.out ((0,0,[],0,[],false),(4,0,[],0,[],false)))
    else
     some (LX.out ((0,0,[],0,[],false),(5,0,[],0,[],false)))) fun j3=>
  Zp (fun(s4:Int×(Int×Int×Str×Int×Str×Bool)×(Int×Int×Str×Int×Str×Bool)×List (List Str))=>
    bif decide (s4.1<(y1.1.length:Int))then
     ze (geti y1.1 s4.1) fun y5=>
     ze (XB y5) fun y6=>
     bif !y6.2 then
      some (LO.ret ((⟨0,[],[],(⟨0,[],0,(⟨[],[],false⟩:Zh),[]⟩:zt),[],[]⟩:z8),false))
     else
      need (Zw s4.2.2.2.length 1 24)<|
      some (LO.again (w64 (s4.1+1),(s4.2.1.1,s4.2.1.2.1,s4.2.1.2.2.1,s4.2.1.2.2.2.1,s4.2.1.2.2.2.2.1,s4.2.1.2.2.2.2.2),(s4.2.2.1.1,s4.2.2.1.2.1,s4.2.2.1.2.2.1,s4.2.2.1.2.2.2.1,s4.2.2.1.2.2.2.2.1,s4.2.2.1.2.2.2.2.2),s4.2.2.2++[y6.1]))
    else
     some (LO.out ((s4.2.1.1,s4.2.1.2.1,s4.2.1.2.2.1,s4.2.1.2.2.2.1,s4.2.1.2.2.2.2.1,s4.2.1.2.2.2.2.2),(s4.2.2.1.1,s4.2.2.1.2.1,s4.2.2.1.2.2.1,s4.2.2.1.2.2.2.1,s4.2.2.1.2.2.2.2.1,s4.2.2.1.2.2.2.2.2),s4.2.2.2)):Int×(Int×Int×Str×Int×Str×Bool)×(Int×Int×Str×Int×Str×Bool)×List (List Str)->Option (LO (Int×(Int×Int×Str×Int×Str×Bool)×(Int×Int×Str×Int×Str×Bool)×List (List Str)) ((Int×Int×Str×Int×Str×Bool)×(Int×Int×Str×Int×Str×Bool)×List (List Str)) _)) (0,(j3.1.1,j3.1.2.1,j3.1.2.2.1,j3.1.2.2.2.1,j3.1.2.2.2.2.1,j3.1.2.2.2.2.2),(j3.2.1,j3.2.2.1,j3.2.2.2.1,j3.2.2.2.2.1,j3.2.2.2.2.2.1,j3.2.2.2.2.2.2),[]) fun o7=>
  some ((⟨o7.2.1.1,[],[],(⟨o7.2.1.2.1,o7.2.1.2.2.1,o7.2.1.2.2.2.1,(⟨o7.2.1.2.2.2.2.1,[],o7.2.1.2.2.2.2.2⟩:Zh),[]⟩:zt),o7.2.2,[]⟩:z8),bif !x.2 then true else(o7.2.2.length:Int)==1)
def Zn(x:zh):Option Int:=
 bif (x.v.length:Int)==0 then
  some 0
 else
  ze (geti x.v 0) fun y1=>
  some y1.token.kind
def Zt(x:zh):Option (za×zh):=
 ze (geti x.v 0) fun y1=>
 need (decide (1<=(x.v.length:Int)))<|
 some ((⟨y1.token,y1.list⟩:za),(⟨List.drop 1 x.v⟩:zh))
def zQ(x:zh):Option (Bool×zh):=
 Zp (fun(s1:zh)=>
   ze (Zn s1) fun y2=>
   bif y2==13 then
    ze (Zt s1) fun y3=>
    some (LO.again y3.2)
   else
    some (LO.out s1):zh->Option (LO (zh) (zh) _)) x fun o4=>
 some (decide ((o4.v.length:Int)<(x.v.length:Int)),o4)
def qi(x:List Str×zh):Option (Str×zh):=
 Zp (fun(s1:Int×zh)=>
   bif decide (s1.1<(x.1.length:Int))then
    ze (geti x.1 s1.1) fun y2=>
    ze (Zn s1.2) fun y3=>
    ze (zK (y3==1) (geti s1.2.v 0) (default:za)) fun y4=>
    ze (zK (y3==1) (ZZ (y4.token.text,y2)) (default:Bool)) fun y5=>
    bif bif y3==1 then y5 else false then
     ze (Zt s1.2) fun y6=>
     some (LO.ret (y2,y6.2))
    else
     some (LO.again (w64 (s1.1+1),s1.2))
   else
    some (LO.out s1.2):Int×zh->Option (LO (Int×zh) (zh) _)) (0,x.2) fun o7=>
 some ([],o7)
def qL(x:zh):Option ((zt×Bool)×zh):=
 ze (Zn x) fun y1=>
 bif y1 != 21 then
  some (((⟨0,[],0,(⟨[],[],false⟩:Zh),[]⟩:zt),false),x)
 else
  ze (Zt x) fun y2=>
  ze (zQ (⟨y2.1.list⟩:zh)) fun y3=>
  Zv (X:=(Int×Str×Int×Str×Bool)×zh×(Int×Str×Int×Str×Bool)) (
    ze (qi ([[109,105,110,45,119,105,100,116,104],[109,97,120,45,119,105,100,116,104]],y3.2)) fun y4=>
    bif y4.1==[]then
     some (LX.ret (((⟨5,[],0,(⟨[],[],false⟩:Zh),[]⟩:zt),false),y2.2))
    else
     bif y4.1==[109,97,120,45,119,105,100,116,104]then
      some (LX.out ((0,[],0,[],false),y4.2,(6,[],0,[],false)))
     else
      some (LX.out ((0,[],0,[],false),y4.2,(5,[],0,[],false)))) fun j5=>
  ze (zQ j5.2.1) fun y6=>
  ze (Zn y6.2) fun y7=>
  bif y7 != 16 then
   some (((⟨j5.2.2.1,j5.2.2.2.1,j5.2.2.2.2.1,(⟨j5.2.2.2.2.2.1,[],j5.2.2.2.2.2.2⟩:Zh),[]⟩:zt),false),y2.2)
  else
   ze (Zt y6.2) fun y8=>
   ze (zQ y8.2) fun y9=>
   ze (Zn y9.2) fun y10=>
   ze (zK (y10 != 12) (Zn y9.2) (default:Int)) fun y11=>
   bif bif y10 != 12 then y11 != 10 else false then
    some (((⟨j5.2.2.1,j5.2.2.2.1,j5.2.2.2.2.1,(⟨j5.2.2.2.2.2.1,[],j5.2.2.2.2.2.2⟩:Zh),[]⟩:zt),false),y2.2)
   else
    ze (Zt y9.2) fun y12=>
    ze (zQ y12.2) fun y13=>
    ze (zK (y12.1.token.kind==12) (ZZ (y12.1.token.unit,[112,120])) (default:Bool)) fun y14=>
    ze (zK (bif bif bif y12.1.token.kind==12 then y14 else false then true else bif y12.1.token.kind==10 then y12.1.token.num==0 else false then decide (y12.1.token.num>=0)else false) (Pp y12.1.token.num) (default:Int)) fun y15=>
    some (((⟨j5.2.2.1,j5.2.2.2.1,y12.1.token.num,(⟨j5.2.2.2.2.2.1,[],j5.2.2.2.2.2.2⟩:Zh),[]⟩:zt),bif bif bif bif bif y12.1.token.kind==12 then y14 else false then true else bif y12.1.token.kind==10 then y12.1.token.num==0 else false then decide (y12.1.token.num>=0)else false then y15==0 else false then(y13.2.v.length:Int)==0 else false),y2.2)
def QZ(x:zh):Option ((zt×Bool)×zh):=
 ze (zQ x) fun y1=>
 ze (qi ([[110,111,116],[111,110,108,121]],y1.2)) fun y2=>
 ze (zQ y2.2) fun y3=>
 Zv (X:=zh×(Int×Str×Int×Str×Bool)×(Int×Str×Int×Str×Bool)×List zt) (
   ze (Zn y3.2) fun y4=>
   bif y4==1 then
    ze (Zt y3.2) fun y5=>
    ze (ZL y5.1.token.text) fun y6=>
    ze (Gx y6) fun y7=>
    bif !y7 then
     some (LX.ret (((⟨1,[],0,(⟨[],[],false⟩:Zh),[]⟩:zt),false),y5.2))
    else
     need (Zw 0 1 104)<|
     some (LX.out (y5.2,(0,[],0,[],false),(1,[],0,[],false),[(⟨4,y6,0,(⟨[],[],false⟩:Zh),[]⟩:zt)]))
   else
    ze (qL y3.2) fun y8=>
    bif bif !y8.1.2 then true else !(y2.1==[])then
     some (LX.ret (((⟨1,[],0,(⟨[],[],false⟩:Zh),[]⟩:zt),false),y8.2))
    else
     need (Zw 0 1 104)<|
     some (LX.out (y8.2,(0,[],0,[],false),(1,[],0,[],false),[(⟨y8.1.1.kind,y8.1.1.name,y8.1.1.num,y8.1.1.decl,y8.1.1.list⟩:zt)]))) fun j9=>
 ze (zQ j9.1) fun y10=>
 Zp (fun(s11:zh×(Int×Str×Int×Str×Bool)×(Int×Str×Int×Str×Bool)×List zt)=>
   bif decide ((s11.1.v.length:Int)>0)then
    ze (qi ([[97,110,100]],s11.1)) fun y12=>
    bif y12.1==[]then
     some (LO.ret (((⟨s11.2.2.1.1,s11.2.2.1.2.1,s11.2.2.1.2.2.1,(⟨s11.2.2.1.2.2.2.1,[],s11.2.2.1.2.2.2.2⟩:Zh),s11.2.2.2⟩:zt),false),y12.2))
    else
     ze (zQ y12.2) fun y13=>
     ze (qL y13.2) fun y14=>
     bif !y14.1.2 then
      some (LO.ret (((⟨s11.2.2.1.1,s11.2.2.1.2.1,s11.2.2.1.2.2.1,(⟨s11.2.2.1.2.2.2.1,[],s11.2.2.1.2.2.2.2⟩:Zh),s11.2.2.2⟩:zt),false),y14.2))
     else
      need (Zw s11.2.2.2.length 1 104)<|
      ze (zQ y14.2) fun y15=>
      some (LO.again (y15.2,(s11.2.1.1,s11.2.1.2.1,s11.2.1.2.2.1,s11.2.1.2.2.2.1,s11.2.1.2.2.2.2),(s11.2.2.1.1,s11.2.2.1.2.1,s11.2.2.1.2.2.1,s11.2.2.1.2.2.2.1,s11.2.2.1.2.2.2.2),s11.2.2.2++[(⟨y14.1.1.kind,y14.1.1.name,y14.1.1.num,y14.1.1.decl,y14.1.1.list⟩:zt)]))
   else
    some (LO.out (s11.1,(s11.2.1.1,s11.2.1.2.1,s11.2.1.2.2.1,s11.2.1.2.2.2.1,s11.2.1.2.2.2.2),(s11.2.2.1.1,s11.2.2.1.2.1,s11.2.2.1.2.2.1,s11.2.2.1.2.2.2.1,s11.2.2.1.2.2.2.2),s11.2.2.2)):zh×(Int×Str×Int×Str×Bool)×(Int×Str×Int×Str×Bool)×List zt->Option (LO (zh×(Int×Str×Int×Str×Bool)×(Int×Str×Int×Str×Bool)×List zt) (zh×(Int×Str×Int×Str×Bool)×(Int×Str×Int×Str×Bool)×List zt) _)) (y10.2,(j9.2.1.1,j9.2.1.2.1,j9.2.1.2.2.1,j9.2.1.2.2.2.1,j9.2.1.2.2.2.2),(j9.2.2.1.1,j9.2.2.1.2.1,j9.2.2.1.2.2.1,j9.2.2.1.2.2.2.1,j9.2.2.1.2.2.2.2),j9.2.2.2) fun o16=>
 Zv (X:=(Int×Str×Int×Str×Bool)×(Int×Str×Int×Str×Bool×List zt)) (
   bif y2.1==[110,111,116]then
    some (LX.out ((o16.2.1.1,o16.2.1.2.1,o16.2.1.2.2.1,o16.2.1.2.2.2.1,o16.2.1.2.2.2.2),(3,[],0,[],false,[(⟨o16.2.2.1.1,o16.2.2.1.2.1,o16.2.2.1.2.2.1,(⟨o16.2.2.1.2.2.2.1,[],o16.2.2.1.2.2.2.2⟩:Zh),o16.2.2.2⟩:zt)])))
   else
    some (LX.out ((o16.2.1.1,o16.2.1.2.1,o16.2.1.2.2.1,o16.2.1.2.2.2.1,o16.2.1.2.2.2.2),(o16.2.2.1.1,o16.2.2.1.2.1,o16.2.2.1.2.2.1,o16.2.2.1.2.2.2.1,o16.2.2.1.2.2.2.2,o16.2.2.2)))) fun j17=>
 some (((⟨j17.2.1,j17.2.2.1,j17.2.2.2.1,(⟨j17.2.2.2.2.1,[],j17.2.2.2.2.2.1⟩:Zh),j17.2.2.2.2.2.2⟩:zt),true),o16.1)
def xw(x:List za):Option (zt×Int):=
 ze (Jt (x,18)) fun y1=>
 bif y1.2 != 0 then
  some ((⟨0,[],0,(⟨[],[],false⟩:Zh),[]⟩:zt),y1.2)
 else
  Zv (X:=Int×Str×Int×Str×Bool) (
    bif (y1.1.length:Int)==1 then
     ze (zQ (⟨x⟩:zh)) fun y2=>
     bif (y2.2.v.length:Int)==0 then
      some (LX.ret ((⟨1,[],0,(⟨[],[],false⟩:Zh),[]⟩:zt),0))
     else
      some (LX.out (0,[],0,[],false))
    else
     some (LX.out (0,[],0,[],false))) fun j3=>
  bif decide ((y1.1.length:Int)>64)then
   some ((⟨0,[],0,(⟨[],[],false⟩:Zh),[]⟩:zt),4)
  else
   Zp (fun(s4:Int×(Int×Str×Int×Str×Bool)×List zt)=>
     bif decide (s4.1<(y1.1.length:Int))then
      ze (geti y1.1 s4.1) fun y5=>
      ze (QZ (⟨y5⟩:zh)) fun y6=>
      Zv (X:=(Int×Str×Int×Str×Bool)×List zt×zt) (
        bif !y6.1.2 then
         some (LX.out ((s4.2.1.1,s4.2.1.2.1,s4.2.1.2.2.1,s4.2.1.2.2.2.1,s4.2.1.2.2.2.2),s4.2.2,(⟨3,[],0,(⟨[],[],false⟩:Zh),[(⟨1,[],0,(⟨[],[],false⟩:Zh),[(⟨4,[97,108,108],0,(⟨[],[],false⟩:Zh),[]⟩:zt)]⟩:zt)]⟩:zt)))
        else
         some (LX.out ((s4.2.1.1,s4.2.1.2.1,s4.2.1.2.2.1,s4.2.1.2.2.2.1,s4.2.1.2.2.2.2),s4.2.2,(⟨y6.1.1.kind,y6.1.1.name,y6.1.1.num,y6.1.1.decl,y6.1.1.list⟩:zt)))) fun j7=>
      need (Zw j7.2.1.length 1 104)<|
      some (LO.again (w64 (s4.1+1),(j7.1.1,j7.1.2.1,j7.1.2.2.1,j7.1.2.2.2.1,j7.1.2.2.2.2),j7.2.1++[(⟨j7.2.2.kind,j7.2.2.name,j7.2.2.num,j7.2.2.decl,j7.2.2.list⟩:zt)]))
     else
      some (LO.out ((s4.2.1.1,s4.2.1.2.1,s4.2.1.2.2.1,s4.2.1.2.2.2.1,s4.2.1.2.2.2.2),s4.2.2)):Int×(Int×Str×Int×Str×Bool)×List zt->Option (LO (Int×(Int×Str×Int×Str×Bool)×List zt) ((Int×Str×Int×Str×Bool)×List zt) _)) (0,(2,[],0,[],false),[]) fun o8=>
   some ((⟨o8.1.1,o8.1.2.1,o8.1.2.2.1,(⟨o8.1.2.2.2.1,[],o8.1.2.2.2.2⟩:Zh),o8.2⟩:zt),0)
def WA(x:List za):Option (Zh×Bool×Int):=
 ze (Ck x) fun y1=>
 bif y1 != 0 then
  some ((⟨[],[],false⟩:Zh),false,y1)
 else
  ze (Ow x) fun y2=>
  some (y2.1,y2.2,0)
def qh(Ze:zh->Option ((zt×Bool)×zh))(x:zh):Option ((zt×Bool)×zh):=
 ze (Zn x) fun y1=>
 bif y1==2 then
  ze (Zt x) fun y2=>
  some (((⟨8,[],0,(⟨[],[],false⟩:Zh),[]⟩:zt),true),y2.2)
 else
  bif y1==21 then
   ze (Zt x) fun y3=>
   ze (WA y3.1.list) fun y4=>
   bif bif y4.2.2==0 then y4.2.1 else false then
    some (((⟨7,[],0,y4.1,[]⟩:zt),true),y3.2)
   else
    ze (Ze (⟨y3.1.list⟩:zh)) fun y5=>
    bif y5.1.2 then
     some (((⟨y5.1.1.kind,y5.1.1.name,y5.1.1.num,y5.1.1.decl,y5.1.1.list⟩:zt),true),y3.2)
    else
     some (((⟨8,[],0,(⟨[],[],false⟩:Zh),[]⟩:zt),true),y3.2)
  else
   some (((⟨8,[],0,(⟨[],[],false⟩:Zh),[]⟩:zt),false),x)
def qz(Ze:zh->Option ((zt×Bool)×zh))(x:zh):Option ((zt×Bool)×zh):=
 ze (zQ x) fun y1=>
 ze (qi ([[110,111,116]],y1.2)) fun y2=>
 bif !(y2.1==[])then
  ze (zQ y2.2) fun y3=>
  ze (qh Ze y3.2) fun y4=>
  ze (zQ y4.2) fun y5=>
  some (((⟨3,[],0,(⟨[],[],false⟩:Zh),[(⟨y4.1.1.kind,y4.1.1.name,y4.1.1.num,y4.1.1.decl,y4.1.1.list⟩:zt)]⟩:zt),bif bif y4.1.2 then y3.1 else false then(y5.2.v.length:Int)==0 else false),y5.2)
 else
  ze (qh Ze y2.2) fun y6=>
  bif !y6.1.2 then
   some (((⟨y6.1.1.kind,y6.1.1.name,y6.1.1.num,y6.1.1.decl,y6.1.1.list⟩:zt),false),y6.2)
  else
   ze (zQ y6.2) fun y7=>
   bif (y7.2.v.length:Int)==0 then
    some (((⟨y6.1.1.kind,y6.1.1.name,y6.1.1.num,y6.1.1.decl,y6.1.1.list⟩:zt),true),y7.2)
   else
    Zp (fun(s8:Bool×zh×(Int×Str×Int×Str×Bool)×(Int×Str×Int×Str×Bool)×List zt)=>
      bif decide ((s8.2.1.v.length:Int)>0)then
       ze (qi ([[97,110,100],[111,114]],s8.2.1)) fun y9=>
       bif bif bif (bif y9.1==[97,110,100]then 1 else bif y9.1==[111,114]then 2 else(0:Int))==0 then true else !s8.1 then true else bif s8.2.2.2.1.1 != 0 then s8.2.2.2.1.1 != (bif y9.1==[97,110,100]then 1 else bif y9.1==[111,114]then 2 else(0:Int))else false then
        some (LO.ret (((⟨s8.2.2.2.1.1,s8.2.2.2.1.2.1,s8.2.2.2.1.2.2.1,(⟨s8.2.2.2.1.2.2.2.1,[],s8.2.2.2.1.2.2.2.2⟩:Zh),s8.2.2.2.2⟩:zt),false),y9.2))
       else
        ze (zQ y9.2) fun y10=>
        ze (qh Ze y10.2) fun y11=>
        bif bif !y10.1 then true else !y11.1.2 then
         some (LO.ret (((⟨bif y9.1==[97,110,100]then 1 else bif y9.1==[111,114]then 2 else(0:Int),s8.2.2.2.1.2.1,s8.2.2.2.1.2.2.1,(⟨s8.2.2.2.1.2.2.2.1,[],s8.2.2.2.1.2.2.2.2⟩:Zh),s8.2.2.2.2⟩:zt),false),y11.2))
        else
         need (Zw s8.2.2.2.2.length 1 104)<|
         ze (zQ y11.2) fun y12=>
         some (LO.again (y12.1,y12.2,(s8.2.2.1.1,s8.2.2.1.2.1,s8.2.2.1.2.2.1,s8.2.2.1.2.2.2.1,s8.2.2.1.2.2.2.2),(bif y9.1==[97,110,100]then 1 else bif y9.1==[111,114]then 2 else(0:Int),s8.2.2.2.1.2.1,s8.2.2.2.1.2.2.1,s8.2.2.2.1.2.2.2.1,s8.2.2.2.1.2.2.2.2),s8.2.2.2.2++[(⟨y11.1.1.kind,y11.1.1.name,y11.1.1.num,y11.1.1.decl,y11.1.1.list⟩:zt)]))
      else
       some (LO.out (s8.2.1,(s8.2.2.1.1,s8.2.2.1.2.1,s8.2.2.1.2.2.1,s8.2.2.1.2.2.2.1,s8.2.2.1.2.2.2.2),(s8.2.2.2.1.1,s8.2.2.2.1.2.1,s8.2.2.2.1.2.2.1,s8.2.2.2.1.2.2.2.1,s8.2.2.2.1.2.2.2.2),s8.2.2.2.2)):Bool×zh×(Int×Str×Int×Str×Bool)×(Int×Str×Int×Str×Bool)×List zt->Option (LO (Bool×zh×(Int×Str×Int×Str×Bool)×(Int×Str×Int×Str×Bool)×List zt) (zh×(Int×Str×Int×Str×Bool)×(Int×Str×Int×Str×Bool)×List zt) _)) (y7.1,y7.2,(0,[],0,[],false),(0,[],0,[],false),[(⟨y6.1.1.kind,y6.1.1.name,y6.1.1.num,y6.1.1.decl,y6.1.1.list⟩:zt)]) fun o13=>
    some (((⟨o13.2.2.1.1,o13.2.2.1.2.1,o13.2.2.1.2.2.1,(⟨o13.2.2.1.2.2.2.1,[],o13.2.2.1.2.2.2.2⟩:Zh),o13.2.2.2⟩:zt),true),o13.1)
def Ze:zh->Option ((zt×Bool)×zh):=recE (qz)
def Yx(x:List za):Option (zt×Int):=
 ze (Ck x) fun y1=>
 bif y1 != 0 then
  some ((⟨0,[],0,(⟨[],[],false⟩:Zh),[]⟩:zt),y1)
 else
  ze (Ze (⟨x⟩:zh)) fun y2=>
  ze (zK (!(!y2.1.2)) (QG (⟨y2.1.1.kind,y2.1.1.name,y2.1.1.num,y2.1.1.decl,y2.1.1.list⟩:zt)) (default:Int)) fun y3=>
  bif bif !y2.1.2 then true else y3 != 0 then
   some ((⟨0,[],0,(⟨[],[],false⟩:Zh),[]⟩:zt),12)
  else
   some ((⟨y2.1.1.kind,y2.1.1.name,y2.1.1.num,y2.1.1.decl,y2.1.1.list⟩:zt),0)
def YD(x:(Bool×Str×List za)×zx):Option ((z8×Bool)×zx):=
 Zv (X:=Bool×zx×(Int×Int×Str×Int×Str×Bool)×z8) (
   bif bif !x.1.1 then false else false then
    none
   else
    bif bif x.1.1 then x.1.2.1==[108,97,121,101,114]else false then
     ze (Mx (x.1.2.2,false)) fun y1=>
     some (LX.out (y1.2,x.2,(0,0,[],0,[],false),(⟨y1.1.kind,y1.1.selectors,y1.1.decls,(⟨y1.1.cond.kind,y1.1.cond.name,y1.1.cond.num,y1.1.cond.decl,y1.1.cond.list⟩:zt),y1.1.names,y1.1.rules⟩:z8)))
    else
     bif bif bif x.1.1 then x.1.2.1==[109,101,100,105,97]else false then false else false then
      ze (xw x.1.2.2) fun y2=>
      some (LX.out (y2.2==0,x.2,(0,0,[],0,[],false),(⟨2,[],[],(⟨y2.1.kind,y2.1.name,y2.1.num,y2.1.decl,y2.1.list⟩:zt),[],[]⟩:z8)))
     else
      bif bif bif x.1.1 then x.1.2.1==[115,117,112,112,111,114,116,115]else false then false else false then
       ze (Yx x.1.2.2) fun y3=>
       some (LX.out (y3.2==0,x.2,(0,0,[],0,[],false),(⟨3,[],[],(⟨y3.1.kind,y3.1.name,y3.1.num,y3.1.decl,y3.1.list⟩:zt),[],[]⟩:z8)))
      else
       some (LX.out (false,x.2,(0,0,[],0,[],false),(⟨0,[],[],(⟨0,[],0,(⟨[],[],false⟩:Zh),[]⟩:zt),[],[]⟩:z8)))) fun j4=>
 bif !j4.1 then
  some (((⟨0,[],[],(⟨0,[],0,(⟨[],[],false⟩:Zh),[]⟩:zt),[],[]⟩:z8),false),j4.2.1)
 else
  bif bif bif j4.2.2.2.kind==2 then true else j4.2.2.2.kind==3 then true else j4.2.2.2.kind==4 then
   none
  else
   some (((⟨j4.2.2.2.kind,j4.2.2.2.selectors,j4.2.2.2.decls,(⟨j4.2.2.2.cond.kind,j4.2.2.2.cond.name,j4.2.2.2.cond.num,j4.2.2.2.cond.decl,j4.2.2.2.cond.list⟩:zt),j4.2.2.2.names,j4.2.2.2.rules⟩:z8),true),(⟨w64 (j4.2.1.room - 1),j4.2.1.constructs⟩:zx))
def qQ(zY:(List za×Bool)×zx->Option (List z8×zx))(x:(Bool×Str×List za×za)×zx):Option ((z8×Bool)×zx):=
 Zv (X:=Bool×zx×(Int×Int×Str×Int×Str×Bool)×z8) (
   bif bif !x.1.1 then true else false then
    ze (FC (x.1.2.2.1,x.1.2.2.2.list)) fun y1=>
    some (LX.out (y1.2,x.2,(0,0,[],0,[],false),(⟨y1.1.kind,y1.1.selectors,y1.1.decls,(⟨y1.1.cond.kind,y1.1.cond.name,y1.1.cond.num,y1.1.cond.decl,y1.1.cond.list⟩:zt),y1.1.names,y1.1.rules⟩:z8)))
   else
    bif bif x.1.1 then x.1.2.1==[108,97,121,101,114]else false then
     ze (Mx (x.1.2.2.1,true)) fun y2=>
     some (LX.out (y2.2,x.2,(0,0,[],0,[],false),(⟨y2.1.kind,y2.1.selectors,y2.1.decls,(⟨y2.1.cond.kind,y2.1.cond.name,y2.1.cond.num,y2.1.cond.decl,y2.1.cond.list⟩:zt),y2.1.names,y2.1.rules⟩:z8)))
    else
     bif bif bif x.1.1 then x.1.2.1==[109,101,100,105,97]else false then true else false then
      ze (xw x.1.2.2.1) fun y3=>
      some (LX.out (y3.2==0,x.2,(0,0,[],0,[],false),(⟨2,[],[],(⟨y3.1.kind,y3.1.name,y3.1.num,y3.1.decl,y3.1.list⟩:zt),[],[]⟩:z8)))
     else
      bif bif bif x.1.1 then x.1.2.1==[115,117,112,112,111,114,116,115]else false then true else false then
       ze (Yx x.1.2.2.1) fun y4=>
       some (LX.out (y4.2==0,x.2,(0,0,[],0,[],false),(⟨3,[],[],(⟨y4.1.kind,y4.1.name,y4.1.num,y4.1.decl,y4.1.list⟩:zt),[],[]⟩:z8)))
      else
       some (LX.out (false,x.2,(0,0,[],0,[],false),(⟨0,[],[],(⟨0,[],0,(⟨[],[],false⟩:Zh),[]⟩:zt),[],[]⟩:z8)))) fun j5=>
 bif !j5.1 then
  some (((⟨0,[],[],(⟨0,[],0,(⟨[],[],false⟩:Zh),[]⟩:zt),[],[]⟩:z8),false),j5.2.1)
 else
  Zv (X:=zx×(Int×Int×Str×Int×Str×Bool)×z8) (
    bif bif bif j5.2.2.2.kind==2 then true else j5.2.2.2.kind==3 then true else j5.2.2.2.kind==4 then
     ze (zY ((x.1.2.2.2.list,false),(⟨w64 (j5.2.1.room - 1),j5.2.1.constructs⟩:zx))) fun y6=>
     some (LX.out (y6.2,(j5.2.2.1.1,j5.2.2.1.2.1,j5.2.2.1.2.2.1,j5.2.2.1.2.2.2.1,j5.2.2.1.2.2.2.2.1,j5.2.2.1.2.2.2.2.2),(⟨j5.2.2.2.kind,j5.2.2.2.selectors,j5.2.2.2.decls,(⟨j5.2.2.2.cond.kind,j5.2.2.2.cond.name,j5.2.2.2.cond.num,j5.2.2.2.cond.decl,j5.2.2.2.cond.list⟩:zt),j5.2.2.2.names,y6.1⟩:z8)))
    else
     some (LX.out ((⟨w64 (j5.2.1.room - 1),j5.2.1.constructs⟩:zx),(j5.2.2.1.1,j5.2.2.1.2.1,j5.2.2.1.2.2.1,j5.2.2.1.2.2.2.1,j5.2.2.1.2.2.2.2.1,j5.2.2.1.2.2.2.2.2),(⟨j5.2.2.2.kind,j5.2.2.2.selectors,j5.2.2.2.decls,(⟨j5.2.2.2.cond.kind,j5.2.2.2.cond.name,j5.2.2.2.cond.num,j5.2.2.2.cond.decl,j5.2.2.2.cond.list⟩:zt),j5.2.2.2.names,j5.2.2.2.rules⟩:z8)))) fun j7=>
  some (((⟨j7.2.2.kind,j7.2.2.selectors,j7.2.2.decls,(⟨j7.2.2.cond.kind,j7.2.2.cond.name,j7.2.2.cond.num,j7.2.2.cond.decl,j7.2.2.cond.list⟩:zt),j7.2.2.names,j7.2.2.rules⟩:z8),true),j7.1)
def qb(zY:(List za×Bool)×zx->Option (List z8×zx))(x:(List za×Bool)×zx):Option (List z8×zx):=
 Zp (fun(s1:List za×zx×List z8)=>
   bif decide ((s1.1.length:Int)>0)then
    ze (iw s1.1) fun y2=>
    bif bif y2==13 then true else bif x.1.2 then bif y2==14 then true else y2==15 else false then
     need (decide (1<=(s1.1.length:Int)))<|
     some (LO.again (List.drop 1 s1.1,s1.2.1,s1.2.2))
    else
     Zv (X:=List za×zx×List z8) (
       bif x.1.2 then
        some (LX.out (s1.1,(⟨s1.2.1.room,w64 (s1.2.1.constructs+1)⟩:zx),s1.2.2))
       else
        some (LX.out (s1.1,s1.2.1,s1.2.2))) fun j3=>
     Zv (X:=(List za×Str)×zx×List z8×List UInt8) (
       bif y2==3 then
        ze (geti j3.1 0) fun y4=>
        ze (ZL y4.token.text) fun y5=>
        need (Zw 1 1 1)<|
        need (decide (1<=(j3.1.length:Int)))<|
        some (LX.out ((List.drop 1 j3.1,y5),j3.2.1,j3.2.2,[(23:UInt8),(17:UInt8)]))
       else
        some (LX.out ((j3.1,[]),j3.2.1,j3.2.2,[(23:UInt8)]))) fun j6=>
     ze (EC (j6.1.1,j6.2.2.2)) fun y7=>
     ze (iw y7.2) fun y8=>
     bif y8==23 then
      ze (geti y7.2 0) fun y9=>
      Zv (X:=List za×zx×List z8) (
        bif decide ((y7.2.length:Int)>0)then
         need (decide (1<=(y7.2.length:Int)))<|
         some (LX.out (List.drop 1 y7.2,j6.2.1,j6.2.2.1))
        else
         some (LX.out (y7.2,j6.2.1,j6.2.2.1))) fun j10=>
      bif j10.2.1.room==0 then
       some (LO.again (j10.1,j10.2.1,j10.2.2))
      else
       ze (qQ zY ((y2==3,j6.1.2,y7.1,y9),j10.2.1)) fun y11=>
       bif y11.1.2 then
        need (Zw j10.2.2.length 1 208)<|
        some (LO.again (j10.1,y11.2,j10.2.2++[(⟨y11.1.1.kind,y11.1.1.selectors,y11.1.1.decls,(⟨y11.1.1.cond.kind,y11.1.1.cond.name,y11.1.1.cond.num,y11.1.1.cond.decl,y11.1.1.cond.list⟩:zt),y11.1.1.names,y11.1.1.rules⟩:z8)]))
       else
        some (LO.again (j10.1,y11.2,j10.2.2))
     else
      Zv (X:=List za×zx×List z8) (
        bif decide ((y7.2.length:Int)>0)then
         need (decide (1<=(y7.2.length:Int)))<|
         some (LX.out (List.drop 1 y7.2,j6.2.1,j6.2.2.1))
        else
         some (LX.out (y7.2,j6.2.1,j6.2.2.1))) fun j12=>
      bif j12.2.1.room==0 then
       some (LO.again (j12.1,j12.2.1,j12.2.2))
      else
       ze (YD ((y2==3,j6.1.2,y7.1),j12.2.1)) fun y13=>
       bif y13.1.2 then
        need (Zw j12.2.2.length 1 208)<|
        some (LO.again (j12.1,y13.2,j12.2.2++[(⟨y13.1.1.kind,y13.1.1.selectors,y13.1.1.decls,(⟨y13.1.1.cond.kind,y13.1.1.cond.name,y13.1.1.cond.num,y13.1.1.cond.decl,y13.1.1.cond.list⟩:zt),y13.1.1.names,y13.1.1.rules⟩:z8)]))
       else
        some (LO.again (j12.1,y13.2,j12.2.2))
   else
    some (LO.out (s1.2.1,s1.2.2)):List za×zx×List z8->Option (LO (List za×zx×List z8) (zx×List z8) _)) (x.1.1,x.2,[]) fun o14=>
 some (o14.2,o14.1)
def zY:(List za×Bool)×zx->Option (List z8×zx):=recE (qb)
def WB(x:Str):Option (List z8×Int):=
 ze (um x) fun y1=>
 bif y1.2 != 0 then
  some ([],y1.2)
 else
  ze (parseF y1.1) fun y2=>
  bif y2.2 != 0 then
   some ([],y2.2)
  else
   ze (zY ((y2.1,true),(⟨64,0⟩:zx))) fun y3=>
   none
def Pt(x:Str):Option (zbr×Int):=
 ze (WB x) fun y1=>
 bif y1.2 != 0 then
  some ((⟨[]⟩:zbr),y1.2)
 else
  some ((⟨y1.1⟩:zbr),0)
def KC(x:Str):Option ((List z8×Int)×zx):=
 ze (um x) fun y1=>
 bif y1.2 != 0 then
  none
 else
  ze (parseF y1.1) fun y2=>
  bif y2.2 != 0 then
   none
  else
   ze (zY ((y2.1,true),(⟨64,0⟩:zx))) fun y3=>
   some ((y3.1,0),y3.2)
def Rx(x:Str):Option (zbr×Int):=
 ze (KC x) fun y1=>
 bif y1.1.2 != 0 then
  some ((⟨[]⟩:zbr),y1.1.2)
 else
  some ((⟨y1.1.1⟩:zbr),0)
def wm(x:Str):Option (zbr×Int):=
 ze (um x) fun y1=>
 bif !(y1.2==0)then
  ze (Pt x) fun z1=>
  some z1
 else
  ze (parseF y1.1) fun y2=>
  bif !(y2.2==0)then
   ze (Pt x) fun z1=>
   some z1
  else
   ze (Rx x) fun z1=>
   some z1
def CP(x:Str×List UInt8):Option Bool:=
 ze (wm x.1) fun y1=>
 ze (zK (!(bif y1.2 != 0 then true else(y1.1.rules.length:Int) != (x.2.length:Int))) (OP y1.1) (default:Int)) fun y2=>
 bif bif bif y1.2 != 0 then true else(y1.1.rules.length:Int) != (x.2.length:Int)then true else y2 != 0 then
  some false
 else
  Zp (fun(s3:Int)=>
    bif decide (s3<(x.2.length:Int))then
     ze (geti y1.1.rules s3) fun y4=>
     ze (geti x.2 s3) fun y5=>
     bif y4.kind != (y5.toNat:Int)then
      some (LO.ret false)
     else
      some (LO.again (w64 (s3+1)))
    else
     some (LO.out ()):Int->Option (LO (Int) (Unit) _)) 0 fun o6=>
  some true
def Np(x:Unit):Option Bool:=
 ze (wm [97,123,98,58,99,125,32,120,32,121,59,32,100,123,101,58,102,125,32,64,109,101,100,105,97,32,112,114,105,110,116,123,103,123,125,125,32,64,108,97,121,101,114,32,112,46,113,44,32,114,59,32,64,102,111,110,116,45,102,97,99,101,123,125]) fun y1=>
 ze (zK (!(y1.2 != 0)) (CP ([97,123,98,58,99,125,32,120,32,121,59,32,100,123,101,58,102,125,32,64,109,101,100,105,97,32,112,114,105,110,116,123,103,123,125,125,32,64,108,97,121,101,114,32,112,46,113,44,32,114,59,32,64,102,111,110,116,45,102,97,99,101,123,125],[(1:UInt8),(2:UInt8),(5:UInt8)])) (default:Bool)) fun y2=>
 ze (zK (!(bif y1.2 != 0 then true else !y2)) (geti y1.1.rules 1) (default:z8)) fun y3=>
 bif bif bif y1.2 != 0 then true else !y2 then true else(y3.rules.length:Int) != 1 then
  some false
 else
  ze (geti y1.1.rules 2) fun y4=>
  ze (zK ((y4.names.length:Int)==2) (geti y4.names 0) (default:List Str)) fun y5=>
  ze (zK (bif (y4.names.length:Int)==2 then(y5.length:Int)==2 else false) (geti y4.names 0) (default:List Str)) fun y6=>
  ze (zK (bif (y4.names.length:Int)==2 then(y5.length:Int)==2 else false) (geti y6 0) (default:Str)) fun y7=>
  ze (zK (bif bif (y4.names.length:Int)==2 then(y5.length:Int)==2 else false then y7==[112]else false) (geti y4.names 0) (default:List Str)) fun y8=>
  ze (zK (bif bif (y4.names.length:Int)==2 then(y5.length:Int)==2 else false then y7==[112]else false) (geti y8 1) (default:Str)) fun y9=>
  ze (zK (bif bif bif (y4.names.length:Int)==2 then(y5.length:Int)==2 else false then y7==[112]else false then y9==[113]else false) (geti y4.names 1) (default:List Str)) fun y10=>
  ze (zK (bif bif bif bif (y4.names.length:Int)==2 then(y5.length:Int)==2 else false then y7==[112]else false then y9==[113]else false then(y10.length:Int)==1 else false) (geti y4.names 1) (default:List Str)) fun y11=>
  ze (zK (bif bif bif bif (y4.names.length:Int)==2 then(y5.length:Int)==2 else false then y7==[112]else false then y9==[113]else false then(y10.length:Int)==1 else false) (geti y11 0) (default:Str)) fun y12=>
  some (bif bif bif bif bif (y4.names.length:Int)==2 then(y5.length:Int)==2 else false then y7==[112]else false then y9==[113]else false then(y10.length:Int)==1 else false then y12==[114]else false)
def Ot(x:Str):Option (z8×Int):=
 ze (WB x) fun y1=>
 bif y1.2 != 0 then
  some ((⟨0,[],[],(⟨0,[],0,(⟨[],[],false⟩:Zh),[]⟩:zt),[],[]⟩:z8),y1.2)
 else
  none
def Px(x:Str):Option (z8×Int):=
 ze (KC x) fun y1=>
 bif y1.1.2 != 0 then
  some ((⟨0,[],[],(⟨0,[],0,(⟨[],[],false⟩:Zh),[]⟩:zt),[],[]⟩:z8),y1.1.2)
 else
  bif bif (y1.1.1.length:Int) != 1 then true else y1.2.constructs != 1 then
   some ((⟨0,[],[],(⟨0,[],0,(⟨[],[],false⟩:Zh),[]⟩:zt),[],[]⟩:z8),12)
  else
   ze (geti y1.1.1 0) fun y2=>
   some ((⟨y2.kind,y2.selectors,y2.decls,(⟨y2.cond.kind,y2.cond.name,y2.cond.num,y2.cond.decl,y2.cond.list⟩:zt),y2.names,y2.rules⟩:z8),0)
def qG(x:Str):Option (z8×Int):=
 ze (um x) fun y1=>
 bif !(y1.2==0)then
  ze (Ot x) fun z1=>
  some z1
 else
  ze (parseF y1.1) fun y2=>
  bif !(y2.2==0)then
   ze (Ot x) fun z1=>
   some z1
  else
   ze (Px x) fun z1=>
   some z1
def OC(x:zF):Option Qp:=
 some (⟨x.kind,x.name,x.op,x.value,x.fold,x.anb,x.of_⟩:Qp)
def dD(ZP:List zq×List zq->Option Bool)(x:List zF×List zF):Option Bool:=
 bif (x.1.length:Int) != (x.2.length:Int)then
  some false
 else
  Zp (fun(s1:Int)=>
    bif decide (s1<(x.1.length:Int))then
     ze (geti x.1 s1) fun y2=>
     ze (OC (⟨y2.kind,y2.name,y2.op,y2.value,y2.fold,y2.anb,y2.of_,y2.list⟩:zF)) fun y3=>
     ze (geti x.2 s1) fun y4=>
     ze (OC (⟨y4.kind,y4.name,y4.op,y4.value,y4.fold,y4.anb,y4.of_,y4.list⟩:zF)) fun y5=>
     ze (zK (!(!(y3.kind==y5.kind&&(y3.name==y5.name&&(y3.op==y5.op&&(y3.value==y5.value&&(y3.fold==y5.fold&&(y3.anb.a==y5.anb.a&&(y3.anb.b==y5.anb.b&&(y3.of_==y5.of_&&true)))))))))) (geti x.1 s1) (default:zF)) fun y6=>
     ze (zK (!(!(y3.kind==y5.kind&&(y3.name==y5.name&&(y3.op==y5.op&&(y3.value==y5.value&&(y3.fold==y5.fold&&(y3.anb.a==y5.anb.a&&(y3.anb.b==y5.anb.b&&(y3.of_==y5.of_&&true)))))))))) (geti x.2 s1) (default:zF)) fun y7=>
     ze (zK (!(!(y3.kind==y5.kind&&(y3.name==y5.name&&(y3.op==y5.op&&(y3.value==y5.value&&(y3.fold==y5.fold&&(y3.anb.a==y5.anb.a&&(y3.anb.b==y5.anb.b&&(y3.of_==y5.of_&&true)))))))))) (ZP (y6.list,y7.list)) (default:Bool)) fun y8=>
     bif bif !(y3.kind==y5.kind&&(y3.name==y5.name&&(y3.op==y5.op&&(y3.value==y5.value&&(y3.fold==y5.fold&&(y3.anb.a==y5.anb.a&&(y3.anb.b==y5.anb.b&&(y3.of_==y5.of_&&true))))))))then true else !y8 then
      some (LO.ret false)
     else
      some (LO.again (w64 (s1+1)))
    else
     some (LO.out ()):Int->Option (LO (Int) (Unit) _)) 0 fun o9=>
  some true
def JC(ZP:List zq×List zq->Option Bool)(x:zq×zq):Option Bool:=
 bif bif bif x.1.lead != x.2.lead then true else(x.1.parts.length:Int) != (x.2.parts.length:Int)then true else !(x.1.combs==x.2.combs)then
  some false
 else
  Zp (fun(s1:Int)=>
    bif decide (s1<(x.1.parts.length:Int))then
     ze (geti x.1.parts s1) fun y2=>
     ze (geti x.2.parts s1) fun y3=>
     ze (zK (!(!(y2.tag==y3.tag))) (geti x.1.parts s1) (default:zO)) fun y4=>
     ze (zK (!(!(y2.tag==y3.tag))) (geti x.2.parts s1) (default:zO)) fun y5=>
     ze (zK (!(!(y2.tag==y3.tag))) (dD ZP (y4.simples,y5.simples)) (default:Bool)) fun y6=>
     bif bif !(y2.tag==y3.tag)then true else !y6 then
      some (LO.ret false)
     else
      some (LO.again (w64 (s1+1)))
    else
     some (LO.out ()):Int->Option (LO (Int) (Unit) _)) 0 fun o7=>
  some true
def SC(ZP:List zq×List zq->Option Bool)(x:List zq×List zq):Option Bool:=
 bif (x.1.length:Int) != (x.2.length:Int)then
  some false
 else
  Zp (fun(s1:Int)=>
    bif decide (s1<(x.1.length:Int))then
     ze (geti x.1 s1) fun y2=>
     ze (geti x.2 s1) fun y3=>
     ze (JC ZP ((⟨y2.lead,y2.parts,y2.combs⟩:zq),(⟨y3.lead,y3.parts,y3.combs⟩:zq))) fun y4=>
     bif !y4 then
      some (LO.ret false)
     else
      some (LO.again (w64 (s1+1)))
    else
     some (LO.out ()):Int->Option (LO (Int) (Unit) _)) 0 fun o5=>
  some true
def ZP:List zq×List zq->Option Bool:=recE (SC)
def UC(Ul:List za×List za->Option Bool)(x:List za×List za):Option Bool:=
 bif (x.1.length:Int) != (x.2.length:Int)then
  some false
 else
  Zp (fun(s1:Int)=>
    bif decide (s1<(x.1.length:Int))then
     ze (geti x.1 s1) fun y2=>
     ze (geti x.2 s1) fun y3=>
     ze (zK (!(!(y2.token.kind==y3.token.kind&&(y2.token.text==y3.token.text&&(y2.token.num==y3.token.num&&(y2.token.unit==y3.token.unit&&(y2.token.flag==y3.token.flag&&true))))))) (geti x.1 s1) (default:za)) fun y4=>
     ze (zK (!(!(y2.token.kind==y3.token.kind&&(y2.token.text==y3.token.text&&(y2.token.num==y3.token.num&&(y2.token.unit==y3.token.unit&&(y2.token.flag==y3.token.flag&&true))))))) (geti x.2 s1) (default:za)) fun y5=>
     ze (zK (!(!(y2.token.kind==y3.token.kind&&(y2.token.text==y3.token.text&&(y2.token.num==y3.token.num&&(y2.token.unit==y3.token.unit&&(y2.token.flag==y3.token.flag&&true))))))) (Ul (y4.list,y5.list)) (default:Bool)) fun y6=>
     bif bif !(y2.token.kind==y3.token.kind&&(y2.token.text==y3.token.text&&(y2.token.num==y3.token.num&&(y2.token.unit==y3.token.unit&&(y2.token.flag==y3.token.flag&&true)))))then true else !y6 then
      some (LO.ret false)
     else
      some (LO.again (w64 (s1+1)))
    else
     some (LO.out ()):Int->Option (LO (Int) (Unit) _)) 0 fun o7=>
  some true
def Ul:List za×List za->Option Bool:=recE (UC)
def Ut(x:Zh×Zh):Option Bool:=
 ze (zK (bif x.1.name==x.2.name then x.1.important==x.2.important else false) (Ul (x.1.value,x.2.value)) (default:Bool)) fun y1=>
 some (bif bif x.1.name==x.2.name then x.1.important==x.2.important else false then y1 else false)
def kw(x:List Zh×List Zh):Option Bool:=
 bif (x.1.length:Int) != (x.2.length:Int)then
  some false
 else
  Zp (fun(s1:Int)=>
    bif decide (s1<(x.1.length:Int))then
     ze (geti x.1 s1) fun y2=>
     ze (geti x.2 s1) fun y3=>
     ze (Ut (y2,y3)) fun y4=>
     bif !y4 then
      some (LO.ret false)
     else
      some (LO.again (w64 (s1+1)))
    else
     some (LO.out ()):Int->Option (LO (Int) (Unit) _)) 0 fun o5=>
  some true
def NC(Ak:zt×zt->Option Bool)(x:zt×zt):Option Bool:=
 ze (zK (!(bif bif x.1.kind != x.2.kind then true else !(x.1.name==x.2.name)then true else x.1.num != x.2.num)) (Ut (x.1.decl,x.2.decl)) (default:Bool)) fun y1=>
 bif bif bif bif bif x.1.kind != x.2.kind then true else !(x.1.name==x.2.name)then true else x.1.num != x.2.num then true else !y1 then true else(x.1.list.length:Int) != (x.2.list.length:Int)then
  some false
 else
  Zp (fun(s2:Int)=>
    bif decide (s2<(x.1.list.length:Int))then
     ze (geti x.1.list s2) fun y3=>
     ze (geti x.2.list s2) fun y4=>
     ze (Ak ((⟨y3.kind,y3.name,y3.num,y3.decl,y3.list⟩:zt),(⟨y4.kind,y4.name,y4.num,y4.decl,y4.list⟩:zt))) fun y5=>
     bif !y5 then
      some (LO.ret false)
     else
      some (LO.again (w64 (s2+1)))
    else
     some (LO.out ()):Int->Option (LO (Int) (Unit) _)) 0 fun o6=>
  some true
def Ak:zt×zt->Option Bool:=recE (NC)
def yx(x:List (List Str)×List (List Str)):Option Bool:=
 bif (x.1.length:Int) != (x.2.length:Int)then
  some false
 else
  Zp (fun(s1:Int)=>
    bif decide (s1<(x.1.length:Int))then
     ze (geti x.1 s1) fun y2=>
     ze (geti x.2 s1) fun y3=>
     bif (y2.length:Int) != (y3.length:Int)then
      some (LO.ret false)
     else
      Zp (fun(s4:Int)=>
        ze (geti x.1 s1) fun y5=>
        bif decide (s4<(y5.length:Int))then
         ze (geti x.1 s1) fun y6=>
         ze (geti y6 s4) fun y7=>
         ze (geti x.2 s1) fun y8=>
         ze (geti y8 s4) fun y9=>
         bif !(y7==y9)then
          some (LO.ret (LO.ret false))
         else
          some (LO.again (w64 (s4+1)))
        else
         some (LO.out ()):Int->Option (LO (Int) (Unit) _)) 0 fun o10=>
      some (LO.again (w64 (s1+1)))
    else
     some (LO.out ()):Int->Option (LO (Int) (Unit) _)) 0 fun o11=>
  some true
def jw(ZV:z8×z8->Option Bool)(x:List z8×List z8):Option Bool:=
 bif (x.1.length:Int) != (x.2.length:Int)then
  some false
 else
  Zp (fun(s1:Int)=>
    bif decide (s1<(x.1.length:Int))then
     ze (geti x.1 s1) fun y2=>
     ze (geti x.2 s1) fun y3=>
     ze (ZV ((⟨y2.kind,y2.selectors,y2.decls,(⟨y2.cond.kind,y2.cond.name,y2.cond.num,y2.cond.decl,y2.cond.list⟩:zt),y2.names,y2.rules⟩:z8),(⟨y3.kind,y3.selectors,y3.decls,(⟨y3.cond.kind,y3.cond.name,y3.cond.num,y3.cond.decl,y3.cond.list⟩:zt),y3.names,y3.rules⟩:z8))) fun y4=>
     bif !y4 then
      some (LO.ret false)
     else
      some (LO.again (w64 (s1+1)))
    else
     some (LO.out ()):Int->Option (LO (Int) (Unit) _)) 0 fun o5=>
  some true
def vC(ZV:z8×z8->Option Bool)(x:z8×z8):Option Bool:=
 ze (zK (x.1.kind==x.2.kind) (ZP (x.1.selectors,x.2.selectors)) (default:Bool)) fun y1=>
 ze (zK (bif x.1.kind==x.2.kind then y1 else false) (kw (x.1.decls,x.2.decls)) (default:Bool)) fun y2=>
 ze (zK (bif bif x.1.kind==x.2.kind then y1 else false then y2 else false) (Ak ((⟨x.1.cond.kind,x.1.cond.name,x.1.cond.num,x.1.cond.decl,x.1.cond.list⟩:zt),(⟨x.2.cond.kind,x.2.cond.name,x.2.cond.num,x.2.cond.decl,x.2.cond.list⟩:zt))) (default:Bool)) fun y3=>
 ze (zK (bif bif bif x.1.kind==x.2.kind then y1 else false then y2 else false then y3 else false) (yx (x.1.names,x.2.names)) (default:Bool)) fun y4=>
 ze (zK (bif bif bif bif x.1.kind==x.2.kind then y1 else false then y2 else false then y3 else false then y4 else false) (jw ZV (x.1.rules,x.2.rules)) (default:Bool)) fun y5=>
 some (bif bif bif bif bif x.1.kind==x.2.kind then y1 else false then y2 else false then y3 else false then y4 else false then y5 else false)
def ZV:z8×z8->Option Bool:=recE (vC)
def VD(x:(zk×Int×Int)×List Zu):Option (List Zu):=
 need (Zw x.2.length 1 16)<|
 some (x.2++[(⟨x.1.2.1,x.1.2.2⟩:Zu)])
def EI(x:Str):Option (Int×List Zu):=
 ze (ni x) fun y1=>
 bif y1.2 != 0 then
  some (y1.2,[])
 else
  ze (ZB (⟨y1.1,0⟩:zb)) fun y2=>
  Zp (fun(s3:Int×List Zu×zb)=>
    bif decide (s3.2.2.at_<(y1.1.length:Int))then
     bif decide (w64 (s3.1+1)>1500)then
      some (LO.ret (4,s3.2.1))
     else
      ze (qC s3.2.2) fun y4=>
      ze (VD ((y4.1,s3.2.2.at_,y4.2.at_),s3.2.1)) fun y5=>
      ze (ZB y4.2) fun y6=>
      some (LO.again (w64 (s3.1+1),y5,y6))
    else
     some (LO.out (s3.2.1,s3.2.2)):Int×List Zu×zb->Option (LO (Int×List Zu×zb) (List Zu×zb) _)) (0,[],y2) fun o7=>
  some (0,o7.1)
def jB(x:Str):Option (List Zu×Int):=
 ze (EI x) fun y1=>
 bif y1.1 != 0 then
  some ([],y1.1)
 else
  some (y1.2,0)
def VC(x:Int):Option Int:=
 bif x==19 then
  some 20
 else
  Zv (X:=Bool) (
    bif x==21 then
     some (LX.out (x==21))
    else
     some (LX.out (x==2))) fun j1=>
  bif j1 then
   some 22
  else
   bif x==23 then
    some 24
   else
    some 0
def BD(QJ:List za->Option (List zk))(x:List za):Option (List zk):=
 Zp (fun(s1:Int×List zk)=>
   bif decide (s1.1<(x.length:Int))then
    Zv (X:=Int×List zk) (
      ze (geti x s1.1) fun y2=>
      need (Zw s1.2.length 1 56)<|
      ze (geti x s1.1) fun y3=>
      ze (VC y3.token.kind) fun y4=>
      bif y4 != 0 then
       ze (geti x s1.1) fun y5=>
       ze (QJ y5.list) fun y6=>
       need (Zw (s1.2++[y2.token]).length y6.length 56)<|
       need (Zw (s1.2++[y2.token]++y6).length 1 56)<|
       some (LX.out (s1.1,s1.2++[y2.token]++y6++[(⟨y4,[],0,[],false⟩:zk)]))
      else
       some (LX.out (s1.1,s1.2++[y2.token]))) fun j7=>
    some (LO.again (w64 (j7.1+1),j7.2))
   else
    some (LO.out s1.2):Int×List zk->Option (LO (Int×List zk) (List zk) _)) (0,[]) fun o8=>
 some o8
def QJ:List za->Option (List zk):=recE (BD)
def XC(x:Str):Option (Int×Bool):=
 ze (ni x) fun y1=>
 ze (um x) fun y2=>
 ze (jB x) fun y3=>
 ze (parseF y2.1) fun y4=>
 bif bif bif bif bif bif y1.2 != 0 then true else y2.2 != 0 then true else y3.2 != 0 then true else y4.2 != 0 then true else(y4.1.length:Int)==0 then true else(y3.1.length:Int)==0 then
  some (0,false)
 else
  ze (geti y3.1 (w64 ((y3.1.length:Int) - 1))) fun y5=>
  ze (zK (y5.e1==(y1.1.length:Int)) (geti y4.1 (w64 ((y4.1.length:Int) - 1))) (default:za)) fun y6=>
  ze (zK (bif y5.e1==(y1.1.length:Int)then y6.token.kind==23 else false) (QJ y4.1) (default:List zk)) fun y7=>
  some ((y2.1.length:Int),bif bif y5.e1==(y1.1.length:Int)then y6.token.kind==23 else false then(y7.length:Int)==(y2.1.length:Int)else false)
def DD(x:Str):Option Bool:=
 bif decide ((x.length:Int)>600)then
  ze (@Np fuK ()) fun y1=>
  some y1
 else
  ze (qG x) fun y2=>
  ze (wm x) fun y3=>
  bif y3.2 != 0 then
   ze (zK (y2.2==y3.2) (@Np fuK ()) (default:Bool)) fun y4=>
   some (bif y2.2==y3.2 then y4 else false)
  else
   bif y2.2 != 0 then
    ze (zK (y2.2==12) (ZV ((⟨y2.1.kind,y2.1.selectors,y2.1.decls,(⟨y2.1.cond.kind,y2.1.cond.name,y2.1.cond.num,y2.1.cond.decl,y2.1.cond.list⟩:zt),y2.1.names,y2.1.rules⟩:z8),(⟨0,[],[],(⟨0,[],0,(⟨[],[],false⟩:Zh),[]⟩:zt),[],[]⟩:z8))) (default:Bool)) fun y5=>
    ze (zK (bif y2.2==12 then y5 else false) (@Np fuK ()) (default:Bool)) fun y6=>
    some (bif bif y2.2==12 then y5 else false then y6 else false)
   else
    ze (zK (!((y3.1.rules.length:Int) != 1)) (geti y3.1.rules 0) (default:z8)) fun y7=>
    ze (zK (!((y3.1.rules.length:Int) != 1)) (ZV ((⟨y7.kind,y7.selectors,y7.decls,(⟨y7.cond.kind,y7.cond.name,y7.cond.num,y7.cond.decl,y7.cond.list⟩:zt),y7.names,y7.rules⟩:z8),(⟨y2.1.kind,y2.1.selectors,y2.1.decls,(⟨y2.1.cond.kind,y2.1.cond.name,y2.1.cond.num,y2.1.cond.decl,y2.1.cond.list⟩:zt),y2.1.names,y2.1.rules⟩:z8))) (default:Bool)) fun y8=>
    bif bif (y3.1.rules.length:Int) != 1 then true else !y8 then
     some false
    else
     ze (XC x) fun y9=>
     bif !y9.2 then
      ze (@Np fuK ()) fun y10=>
      some y10
     else
      need (Sj x.length ([122,123,125]:Str).length)<|
      ze (qG (x++([122,123,125]:Str))) fun y11=>
      need (Sj ([64,121,59]:Str).length x.length)<|
      ze (qG (([64,121,59]:Str)++x)) fun y12=>
      ze (zK (bif bif y11.2==12 then true else y11.2==4 then bif y12.2==12 then true else y12.2==4 else false) (@Np fuK ()) (default:Bool)) fun y13=>
      some (bif bif bif y11.2==12 then true else y11.2==4 then bif y12.2==12 then true else y12.2==4 else false then y13 else false)
end Go.Lv.VT
end
