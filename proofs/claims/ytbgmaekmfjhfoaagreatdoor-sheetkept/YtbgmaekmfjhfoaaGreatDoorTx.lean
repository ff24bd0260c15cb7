/- Texts. -/
import Derived.Test.YtbgmaekmfjhfoaaGreatDoorTy
import Derived.Test.YtbgmaekmfjhfoaaGreatDoorLf
noncomputable section
set_option linter.unusedSimpArgs false
set_option linter.unusedVariables false
namespace Go.Lv.VT
set_option maxRecDepth 100000
variable [Fu]
def strings_IndexByte(x:Str×Int):Option Int:=
 ze (Ny (x.1,x.2)) fun y1=>
 some y1
def Uw(x:Str):Option Bool:=
 ze (zI (!(bif x==[]then true else decide ((x.length:Int)>64))) (strings_IndexByte (x,0)) (default:Int)) fun y1=>
 some (bif bif x==[]then true else decide ((x.length:Int)>64)then true else decide (y1>=0))
def AR(x:List Str):Option Int:=
 Zl (S:=Int) (X:=Unit) (fun s1=>
   bif decide (s1<(x.length:Int))then
    ze (geti x s1) fun y2=>
    ze (Uw y2) fun y3=>
    bif y3 then
     some (.ret s1)
    else
     some (.again (w64 (s1+1)))
   else
    some (.out ())) 0 fun o4=>
 some (-1)
def wQ(x:List Str):Option Bool:=
 ze (AR x) fun y1=>
 some (decide (y1>=0))
def mO(x:List Str):Option Bool:=
 ze (zI (bif decide ((x.length:Int)>0)then decide ((x.length:Int)<=16)else false) (wQ x) (default:Bool)) fun y1=>
 some (bif bif decide ((x.length:Int)>0)then decide ((x.length:Int)<=16)else false then !y1 else false)
def PP(x:List Str):Option Bool:=
 ze (mO x) fun y1=>
 some (!y1)
def sQ(x:List (List Str)):Option Int:=
 Zl (S:=Int) (X:=Unit) (fun s1=>
   bif decide (s1<(x.length:Int))then
    ze (geti x s1) fun y2=>
    ze (PP y2) fun y3=>
    bif y3 then
     some (.ret s1)
    else
     some (.again (w64 (s1+1)))
   else
    some (.out ())) 0 fun o4=>
 some (-1)
def xQ(x:List (List Str)):Option Bool:=
 ze (sQ x) fun y1=>
 some (decide (y1>=0))
def mH(Qh:List zu->Option Int)(x:List zu):Option Int:=
 Zl (S:=Int×Int) (X:=Int) (fun s1=>
   bif decide (s1.2<(x.length:Int))then
    ze (geti x s1.2) fun y2=>
    Zl (S:=Int×Int) (X:=Int) (fun s3=>
      bif decide (s3.2<(y2.parts.length:Int))then
       ze (geti y2.parts s3.2) fun y4=>
       Zl (S:=Int×Int) (X:=Int) (fun s5=>
         bif decide (s5.2<(y4.simples.length:Int))then
          Zt (X:=Int×Int) (
            ze (geti y4.simples s5.2) fun y6=>
            bif bif y6.kind==3 then true else bif decide (y6.kind>=9)then !(bif bif bif y6.kind==9 then true else y6.kind==10 then !y6.of_ else false then y6.anb.a==0&&(y6.anb.b==1&&true)else false)else false then
             ze (Qh y6.list) fun y7=>
             some (.out (if w64 (y7+1)>s5.1 then w64 (y7+1)else s5.1,s5.2))
            else
             some (.out (s5.1,s5.2))) fun j8=>
          some (.again (j8.1,w64 (j8.2+1)))
         else
          some (.out s5.1)) (s3.1,0) fun o9=>
       some (.again (o9,w64 (s3.2+1)))
      else
       some (.out s3.1)) (s1.1,0) fun o10=>
    some (.again (o10,w64 (s1.2+1)))
   else
    some (.out s1.1)) (0,0) fun o11=>
 some o11
def Qh:List zu->Option Int:=recE (mH)
def Dt(x:Str×Int):Option Bool:=
 ze (zI (!(decide ((x.1.length:Int)>x.2))) (strings_IndexByte (x.1,0)) (default:Int)) fun y1=>
 some (bif decide ((x.1.length:Int)>x.2)then true else decide (y1>=0))
def Lt(x:Str):Option Bool:=
 ze (zI (!(x==[])) (Dt (x,64)) (default:Bool)) fun y1=>
 some (bif !(x==[])then !y1 else false)
def ZJ(x:Str):Option Str:=
 need (decide (x.length<=maxLen))<|
 Zl (S:=Int×List UInt8) (X:=List UInt8) (fun s1=>
   bif decide (s1.1<(x.length:Int))then
    Zt (X:=Int×List UInt8) (
      need (decide (0<=s1.1)&&decide (s1.1<(s1.2.length:Int)))<|
      ze s1.2[s1.1.toNat]? fun y2=>
      bif bif decide (65<=(y2.toNat:Int))then decide ((y2.toNat:Int)<=90)else false then
       need (decide (0<=s1.1)&&decide (s1.1<(s1.2.length:Int)))<|
       ze s1.2[s1.1.toNat]? fun y3=>
       need (decide (0<=s1.1)&&decide (s1.1<(s1.2.length:Int)))<|
       ze s1.2[s1.1.toNat]? fun y4=>
       ze (Df (ibOr IntKind.u8 (y3.toNat:Int) 32)) fun y5=>
       some (.out (s1.1,List.set s1.2 s1.1.toNat y5))
      else
       some (.out (s1.1,s1.2))) fun j6=>
    some (.again (w64 (j6.1+1),j6.2))
   else
    some (.out s1.2)) (0,x) fun o7=>
 some o7
def Jt(x:Str):Option Bool:=
 ze (Lt x) fun y1=>
 ze (zI y1 (ZJ x) (default:Str)) fun y2=>
 some (bif y1 then y2==x else false)
def TB(x:zH):Option (Bool×Bool):=
 Zt (X:=Bool) (
   bif x.kind==9 then
    some (.out (x.kind==9))
   else
    some (.out (x.kind==10))) fun j1=>
 bif j1 then
  some (x.of_,false)
 else
  Zt (X:=Bool) (
    bif x.kind==11 then
     some (.out (x.kind==11))
    else
     some (.out (x.kind==12))) fun j2=>
  bif j2 then
   some (true,true)
  else
   Zt (X:=Bool) (
     bif x.kind==13 then
      some (.out (x.kind==13))
     else
      some (.out (x.kind==14))) fun j3=>
   bif j3 then
    some (true,false)
   else
    some (false,true)
def qZ(x:zg×Int):Option (zg×Bool):=
 bif bif x.1.deep==3 then true else bif x.1.has then x.2==14 else false then
  some ((⟨0,false⟩:zg),false)
 else
  some ((⟨w64 (x.1.deep+1),bif x.1.has then true else x.2==14⟩:zg),true)
def RA(x:Int):Option Bool:=
 some (bif decide ((-1000000000)<=x)then decide (x<=1000000000)else false)
def mr(x:VAnb):Option Int:=
 ze (RA x.a) fun y1=>
 ze (zI (!(!y1)) (RA x.b) (default:Bool)) fun y2=>
 bif bif !y1 then true else !y2 then
  some 8
 else
  some 0
def nH(zx:zu×zg×Bool->Option Bool)(x:zu×zg×zH):Option Bool:=
 ze (zx ((⟨x.1.lead,x.1.parts,x.1.combs⟩:zu),x.2.1,x.2.2.kind==14)) fun y1=>
 some (!y1)
def Qz(zx:zu×zg×Bool->Option Bool)(x:List zu×zg×zH):Option Int:=
 Zl (S:=Int) (X:=Unit) (fun s1=>
   bif decide (s1<(x.1.length:Int))then
    ze (geti x.1 s1) fun y2=>
    ze (nH zx ((⟨y2.lead,y2.parts,y2.combs⟩:zu),x.2.1,(⟨x.2.2.kind,x.2.2.name,x.2.2.op,x.2.2.value,x.2.2.fold,x.2.2.anb,x.2.2.of_,x.2.2.list⟩:zH))) fun y3=>
    bif y3 then
     some (.ret s1)
    else
     some (.again (w64 (s1+1)))
   else
    some (.out ())) 0 fun o4=>
 some (-1)
def qf(zx:zu×zg×Bool->Option Bool)(x:List zu×zg×zH):Option Bool:=
 ze (Qz zx (x.1,x.2.1,(⟨x.2.2.kind,x.2.2.name,x.2.2.op,x.2.2.value,x.2.2.fold,x.2.2.anb,x.2.2.of_,x.2.2.list⟩:zH))) fun y1=>
 some (decide (y1>=0))
def ow(zx:zu×zg×Bool->Option Bool)(x:zH×zg):Option Bool:=
 ze (TB (⟨x.1.kind,x.1.name,x.1.op,x.1.value,x.1.fold,x.1.anb,x.1.of_,x.1.list⟩:zH)) fun y1=>
 Zt (X:=Unit) (
   bif y1.1 then
    ze (qZ (x.2,x.1.kind)) fun y2=>
    ze (zI (!(bif !y2.2 then true else bif !y1.2 then(x.1.list.length:Int)==0 else false)) (qf zx (x.1.list,y2.1,(⟨x.1.kind,x.1.name,x.1.op,x.1.value,x.1.fold,x.1.anb,x.1.of_,x.1.list⟩:zH))) (default:Bool)) fun y3=>
    bif bif bif !y2.2 then true else bif !y1.2 then(x.1.list.length:Int)==0 else false then true else y3 then
     some (.ret false)
    else
     some (.out ())
   else
    bif decide ((x.1.list.length:Int)>0)then
     some (.ret false)
    else
     some (.out ())) fun j4=>
 bif bif bif !(x.1.kind==3)then bif bif x.1.op != 0 then true else !(x.1.value==[])then true else x.1.fold else false then true else bif !(bif x.1.kind==9 then true else x.1.kind==10)then bif x.1.of_ then true else !(x.1.anb.a==0&&(x.1.anb.b==0&&true))else false then
  some false
 else
  Zt (X:=Bool) (
    bif x.1.kind==1 then
     some (.out (x.1.kind==1))
    else
     some (.out (x.1.kind==2))) fun j5=>
  bif j5 then
   ze (Lt x.1.name) fun y6=>
   some y6
  else
   bif x.1.kind==3 then
    ze (Jt x.1.name) fun y7=>
    ze (zI (bif y7 then decide (x.1.op<=6)else false) (Dt (x.1.value,400)) (default:Bool)) fun y8=>
    some (bif bif bif y7 then decide (x.1.op<=6)else false then !y8 else false then bif x.1.op != 0 then true else bif x.1.value==[]then !x.1.fold else false else false)
   else
    ze (zI (!(!(bif x.1.kind==9 then true else x.1.kind==10))&&(bif bif x.1.name==[]then decide (x.1.kind>=4)else false then decide (x.1.kind<=14)else false)) (mr x.1.anb) (default:Int)) fun y9=>
    some (bif bif bif x.1.name==[]then decide (x.1.kind>=4)else false then decide (x.1.kind<=14)else false then bif !(bif x.1.kind==9 then true else x.1.kind==10)then true else y9==0 else false)
def QA(zx:zu×zg×Bool->Option Bool)(x:zU×zg):Option Bool:=
 ze (zI (bif !(x.1.tag==[])then !(x.1.tag==[42])else false) (Jt x.1.tag) (default:Bool)) fun y1=>
 bif bif bif bif !(x.1.tag==[])then !(x.1.tag==[42])else false then !y1 else false then true else decide ((x.1.simples.length:Int)>64)then
  some false
 else
  Zl (S:=Int) (X:=Unit) (fun s2=>
    bif decide (s2<(x.1.simples.length:Int))then
     ze (geti x.1.simples s2) fun y3=>
     ze (ow zx ((⟨y3.kind,y3.name,y3.op,y3.value,y3.fold,y3.anb,y3.of_,y3.list⟩:zH),x.2)) fun y4=>
     bif !y4 then
      some (.ret false)
     else
      some (.again (w64 (s2+1)))
    else
     some (.out ())) 0 fun o5=>
  some (bif !(x.1.tag==[])then true else decide ((x.1.simples.length:Int)>0))
def kH(zx:zu×zg×Bool->Option Bool)(x:zU×zg):Option Bool:=
 ze (QA zx ((⟨x.1.tag,x.1.simples⟩:zU),x.2)) fun y1=>
 some (!y1)
def QK(zx:zu×zg×Bool->Option Bool)(x:List zU×zg):Option Int:=
 Zl (S:=Int) (X:=Unit) (fun s1=>
   bif decide (s1<(x.1.length:Int))then
    ze (geti x.1 s1) fun y2=>
    ze (kH zx ((⟨y2.tag,y2.simples⟩:zU),x.2)) fun y3=>
    bif y3 then
     some (.ret s1)
    else
     some (.again (w64 (s1+1)))
   else
    some (.out ())) 0 fun o4=>
 some (-1)
def qp(zx:zu×zg×Bool->Option Bool)(x:List zU×zg):Option Bool:=
 ze (QK zx (x.1,x.2)) fun y1=>
 some (decide (y1>=0))
def jB(zx:zu×zg×Bool->Option Bool)(x:zu×zg×Bool):Option Bool:=
 bif bif bif bif !(x.2.2==(x.1.lead != 0))then true else decide (x.1.lead>4)then true else w64 ((x.1.combs.length:Int)+1) != (x.1.parts.length:Int)then true else decide ((x.1.parts.length:Int)>64)then
  some false
 else
  Zl (S:=Int) (X:=Unit) (fun s1=>
    bif decide (s1<(x.1.combs.length:Int))then
     ze (geti x.1.combs s1) fun y2=>
     bif bif decide ((y2.toNat:Int)<1)then true else decide ((y2.toNat:Int)>4)then
      some (.ret false)
     else
      some (.again (w64 (s1+1)))
    else
     some (.out ())) 0 fun o3=>
  ze (qp zx (x.1.parts,x.2.1)) fun y4=>
  some (!y4)
def zx:zu×zg×Bool->Option Bool:=recE (jB)
def KQ(x:zu):Option Bool:=
 ze (zx ((⟨x.lead,x.parts,x.combs⟩:zu),(⟨0,false⟩:zg),false)) fun y1=>
 some (!y1)
def tQ(x:List zu):Option Int:=
 Zl (S:=Int) (X:=Unit) (fun s1=>
   bif decide (s1<(x.length:Int))then
    ze (geti x s1) fun y2=>
    ze (KQ (⟨y2.lead,y2.parts,y2.combs⟩:zu)) fun y3=>
    bif y3 then
     some (.ret s1)
    else
     some (.again (w64 (s1+1)))
   else
    some (.out ())) 0 fun o4=>
 some (-1)
def yQ(x:List zu):Option Bool:=
 ze (tQ x) fun y1=>
 some (decide (y1>=0))
def uB(qP:List zu->Option Int)(x:List zu):Option Int:=
 Zl (S:=Int×Int) (X:=Int) (fun s1=>
   bif decide (s1.2<(x.length:Int))then
    ze (geti x s1.2) fun y2=>
    Zl (S:=Int×Int) (X:=Int) (fun s3=>
      bif decide (s3.2<(y2.parts.length:Int))then
       ze (geti y2.parts s3.2) fun y4=>
       Zl (S:=Int×Int) (X:=Int) (fun s5=>
         bif decide (s5.2<(y4.simples.length:Int))then
          ze (geti y4.simples s5.2) fun y6=>
          ze (qP y6.list) fun y7=>
          some (.again (w64 (s5.1+y7),w64 (s5.2+1)))
         else
          some (.out s5.1)) (s3.1,0) fun o8=>
       some (.again (o8,w64 (s3.2+1)))
      else
       some (.out s3.1)) (s1.1,0) fun o9=>
    some (.again (o9,w64 (s1.2+1)))
   else
    some (.out s1.1)) ((x.length:Int),0) fun o10=>
 some o10
def qP:List zu->Option Int:=recE (uB)
def jP(x:List zu):Option Int:=
 ze (zI (!((x.length:Int)==0)) (yQ x) (default:Bool)) fun y1=>
 bif bif (x.length:Int)==0 then true else y1 then
  some 8
 else
  ze (qP x) fun y2=>
  bif decide (y2>64)then
   some 4
  else
   some 0
def VA(x:zt):Option Bool:=
 some (bif bif bif bif bif bif x.kind==0 then x.name==[]else false then x.num==0 else false then(x.list.length:Int)==0 else false then x.decl.name==[]else false then(x.decl.value.length:Int)==0 else false then !x.decl.important else false)
def Ws(x:Int):Option Int:=
 bif x==2 then
  some 22
 else
  Zt (X:=Bool) (
    bif x==19 then
     some (.out (x==19))
    else
     bif x==21 then
      some (.out (x==21))
     else
      some (.out (x==23))) fun j1=>
  bif j1 then
   some (wu8 (x+1))
  else
   some 0
def XA(yj:List za×Int->Option ZA)(x:List za×Int):Option ZA:=
 Zl (S:=Int×ZA) (X:=ZA) (fun s1=>
   bif decide (s1.1<(x.1.length:Int))then
    Zt (X:=Int×ZA) (
      ze (geti x.1 s1.1) fun y2=>
      ze (Ws y2.token.kind) fun y3=>
      Zt (X:=ZA) (
        bif bif bif x.2 != 0 then y2.token.kind==x.2 else false then true else bif y3==0 then decide ((y2.list.length:Int)>0)else false then
         some (.out (⟨s1.2.depth,w64 (s1.2.tokens+1),true⟩:ZA))
        else
         some (.out (⟨s1.2.depth,w64 (s1.2.tokens+1),s1.2.bad⟩:ZA))) fun j4=>
      bif y3==0 then
       some (.out (s1.1,j4))
      else
       ze (yj (y2.list,y3)) fun y5=>
       some (.out (s1.1,(⟨if w64 (y5.depth+1)>j4.depth then w64 (y5.depth+1)else j4.depth,w64 (w64 (j4.tokens+y5.tokens)+1),bif j4.bad then true else y5.bad⟩:ZA)))) fun j6=>
    some (.again (w64 (j6.1+1),j6.2))
   else
    some (.out s1.2)) (0,(⟨0,0,false⟩:ZA)) fun o7=>
 some o7
def yj:List za×Int->Option ZA:=recE (XA)
def aj(x:List za):Option Int:=
 ze (yj (x,0)) fun y1=>
 bif decide (y1.depth>16)then
  some 20
 else
  bif decide (y1.tokens>1500)then
   some 4
  else
   bif y1.bad then
    some 8
   else
    some 0
def Ms(x:List za):Option (Int×Int):=
 ze (aj x) fun y1=>
 bif y1 != 0 then
  some (0,y1)
 else
  ze (yj (x,0)) fun y2=>
  some (y2.depth,0)
def WB(Nl:List za×List zk->Option (List zk))(x:List za×List zk):Option (List zk):=
 Zl (S:=Int×List zk) (X:=List zk) (fun s1=>
   bif decide (s1.1<(x.1.length:Int))then
    Zt (X:=Int×List zk) (
      ze (geti x.1 s1.1) fun y2=>
      need (Zp s1.2.length 1 56)<|
      ze (Ws y2.token.kind) fun y3=>
      bif y3 != 0 then
       ze (Nl (y2.list,s1.2++[y2.token])) fun y4=>
       need (Zp y4.length 1 56)<|
       some (.out (s1.1,y4++[(⟨y3,[],0,[],false⟩:zk)]))
      else
       some (.out (s1.1,s1.2++[y2.token]))) fun j5=>
    some (.again (w64 (j5.1+1),j5.2))
   else
    some (.out s1.2)) (0,x.2) fun o6=>
 some o6
def Nl:List za×List zk->Option (List zk):=recE (WB)
def YA(x:List za):Option (List zk):=
 Zl (S:=Int×List zk) (X:=List zk) (fun s1=>
   bif decide (s1.1<(x.length:Int))then
    Zt (X:=Int×List zk) (
      ze (geti x s1.1) fun y2=>
      need (Zp s1.2.length 1 56)<|
      ze (Ws y2.token.kind) fun y3=>
      bif y3 != 0 then
       ze (Nl (y2.list,s1.2++[y2.token])) fun y4=>
       need (Zp y4.length 1 56)<|
       some (.out (s1.1,y4++[(⟨y3,[],0,[],false⟩:zk)]))
      else
       some (.out (s1.1,s1.2++[y2.token]))) fun j5=>
    some (.again (w64 (j5.1+1),j5.2))
   else
    some (.out s1.2)) (0,[]) fun o6=>
 some o6
def Yv(x:List za):Option (List zk×Int):=
 ze (aj x) fun y1=>
 bif y1 != 0 then
  some ([],y1)
 else
  ze (YA x) fun y2=>
  some (y2,0)
def stringslite_HasPrefix(x:Str×Str):Option Bool:=
 need (decide (0<=(x.2.length:Int))&&decide ((x.2.length:Int)<=(x.1.length:Int))|| !(decide ((x.1.length:Int)>=(x.2.length:Int))))<|
 some (bif decide ((x.1.length:Int)>=(x.2.length:Int))then List.take x.2.length x.1==x.2 else false)
def strings_HasPrefix(x:Str×Str):Option Bool:=
 ze (stringslite_HasPrefix (x.1,x.2)) fun y1=>
 some y1
def LA(x:Str):Option Bool:=
 ze (zI (!(bif x==[]then true else decide ((x.length:Int)>64))) (strings_IndexByte (x,0)) (default:Int)) fun y1=>
 bif bif bif x==[]then true else decide ((x.length:Int)>64)then true else decide (y1>=0)then
  some false
 else
  ze (strings_HasPrefix (x,[45,45])) fun y2=>
  bif y2 then
   some (!(x==[45,45]))
  else
   ze (ZJ x) fun y3=>
   some (x==y3)
def stringslite_TrimPrefix(x:Str×Str):Option Str:=
 ze (stringslite_HasPrefix (x.1,x.2)) fun y1=>
 bif y1 then
  need (decide (0<=(x.2.length:Int))&&decide ((x.2.length:Int)<=(x.1.length:Int)))<|
  some (List.drop x.2.length x.1)
 else
  some x.1
def strings_TrimPrefix(x:Str×Str):Option Str:=
 ze (stringslite_TrimPrefix (x.1,x.2)) fun y1=>
 some y1
def Ps(x:Int):Option Bool:=
 some (bif decide (48<=x)then decide (x<=57)else false)
def JB(x:Str):Option Bool:=
 ze (strings_TrimPrefix (x,[45])) fun y1=>
 ze (zI (!(y1==[])) (geti y1 0) 0) fun y2=>
 ze (zI (!(y1==[])) (Ps (y2.toNat:Int)) (default:Bool)) fun y3=>
 some (bif !(y1==[])then y3 else false)
def sO(x:Int):Option Bool:=
 some (bif bif decide (97<=ibOr IntKind.u8 x 32)then decide (ibOr IntKind.u8 x 32<=122)else false then decide (x<128)else false)
def KA(x:Int):Option Bool:=
 ze (sO x) fun y1=>
 ze (zI (!y1) (Ps x) (default:Bool)) fun y2=>
 some (bif bif bif bif y1 then true else y2 then true else x==95 then true else x==45 then true else decide (x>=128))
def strings_Contains(x:Str×Str):Option Bool:=
 ze (ek (x.1,x.2)) fun y1=>
 some (decide (y1>=0))
def nz(x:zk):Option Bool:=
 need (Nj x.text.length x.unit.length)<|
 ze (strings_IndexByte (x.text++x.unit,0)) fun y1=>
 Zt (X:=Bool×Bool×Bool×Bool×Bool) (
   Zt (X:=Bool×Bool×Bool×Bool×Bool×Bool) (
     bif x.kind==1 then
      some (.out (false,false,false,false,decide (y1<0),x.kind==1))
     else
      bif x.kind==2 then
       some (.out (false,false,false,false,decide (y1<0),x.kind==2))
      else
       some (.out (false,false,false,false,decide (y1<0),x.kind==3))) fun j2=>
   bif j2.2.2.2.2.2 then
    some (.out (true,j2.2.1,j2.2.2.1,j2.2.2.2.1,bif j2.2.2.2.2.1 then !(x.text==[])else false))
   else
    bif x.kind==4 then
     ze (zI (!x.flag&&(bif j2.2.2.2.2.1 then !(x.text==[])else false)) (JB x.text) (default:Bool)) fun y3=>
     ze (zI (y3&&(!x.flag&&(bif j2.2.2.2.2.1 then !(x.text==[])else false))) (strings_HasPrefix (x.text,[45,45])) (default:Bool)) fun y4=>
     some (.out (true,j2.2.1,j2.2.2.1,true,bif bif j2.2.2.2.2.1 then !(x.text==[])else false then bif bif x.flag then true else bif y3 then !y4 else false then true else x.text==[45]else false))
    else
     Zt (X:=Bool×Bool×Bool×Bool×Bool×Bool) (
       bif x.kind==5 then
        some (.out (j2.1,j2.2.1,j2.2.2.1,j2.2.2.2.1,j2.2.2.2.2.1,x.kind==5))
       else
        some (.out (j2.1,j2.2.1,j2.2.2.1,j2.2.2.2.1,j2.2.2.2.2.1,x.kind==7))) fun j5=>
     bif j5.2.2.2.2.2 then
      some (.out (true,j5.2.1,j5.2.2.1,j5.2.2.2.1,j5.2.2.2.2.1))
     else
      bif x.kind==9 then
       ze (zI (bif j5.2.2.2.2.1 then(x.text.length:Int)==1 else false) (geti x.text 0) 0) fun y6=>
       ze (zI (bif j5.2.2.2.2.1 then(x.text.length:Int)==1 else false) (KA (y6.toNat:Int)) (default:Bool)) fun y7=>
       ze (zI (bif bif bif j5.2.2.2.2.1 then(x.text.length:Int)==1 else false then !y7 else false then true else x.text==[45]) (strings_Contains ([32,9,10,12,13,34,39,58,59,44,91,93,40,41,123,125],x.text)) (default:Bool)) fun y8=>
       some (.out (true,j5.2.1,j5.2.2.1,j5.2.2.2.1,bif bif bif bif j5.2.2.2.2.1 then(x.text.length:Int)==1 else false then !y7 else false then true else x.text==[45]then !y8 else false))
      else
       Zt (X:=Bool×Bool×Bool×Bool×Bool) (
         bif x.kind==10 then
          some (.out (j5.2.1,j5.2.2.1,j5.2.2.2.1,j5.2.2.2.2.1,x.kind==10))
         else
          bif x.kind==11 then
           some (.out (j5.2.1,j5.2.2.1,j5.2.2.2.1,j5.2.2.2.2.1,x.kind==11))
          else
           some (.out (j5.2.1,j5.2.2.1,j5.2.2.2.1,j5.2.2.2.2.1,x.kind==12))) fun j9=>
       bif j9.2.2.2.2 then
        some (.out (j5.1,x.kind==12,true,x.kind != 11,bif bif bif bif j9.2.2.2.1 then decide (x.num>=(-1000000000000))else false then decide (x.num<=1000000000000)else false then bif !x.flag then true else Int.tmod x.num 1000==0 else false then bif !(x.kind==12)then true else !(x.unit==[])else false))
       else
        some (.out (j5.1,j9.1,j9.2.1,j9.2.2.1,bif decide (x.kind>=13)then decide (x.kind<=24)else false))) fun j10=>
 some (bif bif bif bif j10.2.2.2.2 then bif j10.1 then true else x.text==[]else false then bif j10.2.1 then true else x.unit==[]else false then bif j10.2.2.1 then true else x.num==0 else false then bif j10.2.2.2.1 then true else !x.flag else false)
def Q7(x:(Int×Int)×List zk):Option Bool:=
 ze (zI (decide (x.1.1<(x.2.length:Int))) (geti x.2 x.1.1) (default:zk)) fun y1=>
 some (bif decide (x.1.1<(x.2.length:Int))then y1.kind==x.1.2 else false)
def ZW(x:Str×Str):Option Bool:=
 ze (ZJ x.1) fun y1=>
 ze (ZJ x.2) fun y2=>
 some (y1==y2)
def JA(x:List zk):Option Int:=
 ze (geti x 0) fun y1=>
 bif bif y1.kind==9 then y1.text==[92]else false then
  ze (Q7 ((1,13),x)) fun y2=>
  bif !y2 then
   some 0
  else
   some 2
 else
  ze (zI (y1.kind==2) (ZW (y1.text,[117,114,108])) (default:Bool)) fun y3=>
  bif bif y1.kind==2 then y3 else false then
   Zt (X:=Int) (
     ze (Q7 ((1,13),x)) fun y4=>
     bif y4 then
      some (.out 2)
     else
      some (.out 1)) fun j5=>
   ze (Q7 ((j5,5),x)) fun y6=>
   bif !y6 then
    some 0
   else
    some (w64 (j5+1))
  else
   some 1
def Ew(x:List zk):Option Int:=
 bif decide ((x.length:Int)>1500)then
  some 4
 else
  Zl (S:=Int) (X:=Unit) (fun s1=>
    bif decide (s1<(x.length:Int))then
     ze (geti x s1) fun y2=>
     ze (nz y2) fun y3=>
     need (decide (0<=s1)&&decide (s1<=(x.length:Int))|| !(!(!y3)))<|
     ze (zI (!(!y3)) (JA (List.drop s1.toNat x)) (default:Int)) fun y4=>
     bif bif !y3 then true else y4==0 then
      some (.ret 8)
     else
      some (.again (w64 (s1+1)))
    else
     some (.out ())) 0 fun o5=>
  some 0
def qX(x:za×Int):Option Bool:=
 some (x.1.token.kind==x.2)
def jw(Zh:List za->Option Bool)(x:za):Option Bool:=
 ze (qX ((⟨x.token,x.list⟩:za),20)) fun y1=>
 ze (zI (!y1) (qX ((⟨x.token,x.list⟩:za),22)) (default:Bool)) fun y2=>
 ze (zI (!(bif y1 then true else y2)) (qX ((⟨x.token,x.list⟩:za),24)) (default:Bool)) fun y3=>
 ze (zI (!(bif bif y1 then true else y2 then true else y3)) (Zh x.list) (default:Bool)) fun y4=>
 some (bif bif bif y1 then true else y2 then true else y3 then true else y4)
def vH(Zh:List za->Option Bool)(x:List za):Option Int:=
 Zl (S:=Int) (X:=Unit) (fun s1=>
   bif decide (s1<(x.length:Int))then
    ze (geti x s1) fun y2=>
    ze (jw Zh (⟨y2.token,y2.list⟩:za)) fun y3=>
    bif y3 then
     some (.ret s1)
    else
     some (.again (w64 (s1+1)))
   else
    some (.out ())) 0 fun o4=>
 some (-1)
def QJ(Zh:List za->Option Bool)(x:List za):Option Bool:=
 ze (vH Zh x) fun y1=>
 some (decide (y1>=0))
def YB(Zh:List za->Option Bool)(x:List za):Option Bool:=
 ze (QJ Zh x) fun y1=>
 some y1
def Zh:List za->Option Bool:=recE (YB)
def mo(x:za):Option Bool:=
 ze (qX ((⟨x.token,x.list⟩:za),9)) fun y1=>
 some (bif y1 then x.token.text==[33]else false)
def LB(x:za):Option Bool:=
 ze (qX ((⟨x.token,x.list⟩:za),17)) fun y1=>
 ze (zI (!y1) (mo (⟨x.token,x.list⟩:za)) (default:Bool)) fun y2=>
 some (bif y1 then true else y2)
def QZ(x:List za):Option Int:=
 Zl (S:=Int) (X:=Unit) (fun s1=>
   bif decide (s1<(x.length:Int))then
    ze (geti x s1) fun y2=>
    ze (LB (⟨y2.token,y2.list⟩:za)) fun y3=>
    bif y3 then
     some (.ret s1)
    else
     some (.again (w64 (s1+1)))
   else
    some (.out ())) 0 fun o4=>
 some (-1)
def qA(x:List za):Option Bool:=
 ze (QZ x) fun y1=>
 some (decide (y1>=0))
def yo(x:Zm):Option Int:=
 ze (Yv x.value) fun y1=>
 ze (LA x.name) fun y2=>
 ze (zI (!(bif !y2 then true else y1.2 != 0)) (Ew y1.1) (default:Int)) fun y3=>
 ze (zI (!(bif bif !y2 then true else y1.2 != 0 then true else y3 != 0)) (Zh x.value) (default:Bool)) fun y4=>
 bif bif bif bif !y2 then true else y1.2 != 0 then true else y3 != 0 then true else y4 then
  some 8
 else
  ze (qA x.value) fun y5=>
  bif y5 then
   some 8
  else
   ze (zI ((x.value.length:Int)==0) (strings_HasPrefix (x.name,[45,45])) (default:Bool)) fun y6=>
   ze (zI (decide ((x.value.length:Int)>0)&& !(bif (x.value.length:Int)==0 then !y6 else false)) (geti x.value 0) (default:za)) fun y7=>
   ze (zI (decide ((x.value.length:Int)>0)&& !(bif (x.value.length:Int)==0 then !y6 else false)) (qX ((⟨y7.token,y7.list⟩:za),13)) (default:Bool)) fun y8=>
   ze (zI (!y8&&(decide ((x.value.length:Int)>0)&& !(bif (x.value.length:Int)==0 then !y6 else false))) (geti x.value (w64 ((x.value.length:Int) - 1))) (default:za)) fun y9=>
   ze (zI (!y8&&(decide ((x.value.length:Int)>0)&& !(bif (x.value.length:Int)==0 then !y6 else false))) (qX ((⟨y9.token,y9.list⟩:za),13)) (default:Bool)) fun y10=>
   bif bif bif (x.value.length:Int)==0 then !y6 else false then true else bif decide ((x.value.length:Int)>0)then bif y8 then true else y10 else false then
    some 8
   else
    some 0
def SH(ym:zt->Option Int)(x:zt):Option Int:=
 Zt (X:=Int) (
   bif bif x.kind==5 then true else x.kind==6 then
    some (.out 1)
   else
    some (.out 0)) fun j1=>
 Zl (S:=Int×Int) (X:=Int) (fun s2=>
   bif decide (s2.2<(x.list.length:Int))then
    ze (geti x.list s2.2) fun y3=>
    ze (ym (⟨y3.kind,y3.name,y3.num,y3.decl,y3.list⟩:zt)) fun y4=>
    some (.again (if y4>s2.1 then y4 else s2.1,w64 (s2.2+1)))
   else
    some (.out s2.1)) (j1,0) fun o5=>
 some o5
def ym:zt->Option Int:=recE (SH)
def Ml(x:zt):Option Bool:=
 some (bif bif bif bif x.name==[]then x.num==0 else false then x.decl.name==[]else false then(x.decl.value.length:Int)==0 else false then !x.decl.important else false)
def slices_Index_string(x:List Str×Str):Option Int:=
 Zl (S:=Int) (X:=Unit) (fun s1=>
   bif decide (s1<(x.1.length:Int))then
    ze (geti x.1 s1) fun y2=>
    bif x.2==y2 then
     some (.ret s1)
    else
     some (.again (w64 (s1+1)))
   else
    some (.out ())) 0 fun o3=>
 some (-1)
def slices_Contains_string(x:List Str×Str):Option Bool:=
 ze (slices_Index_string (x.1,x.2)) fun y1=>
 some (decide (y1>=0))
def Nw(x:Str):Option Bool:=
 ze (slices_Contains_string ([[],[97,110,100],[111,114],[110,111,116],[111,110,108,121]],x)) fun y1=>
 ze (zI (bif !y1 then decide ((x.length:Int)<=64)else false) (ZJ x) (default:Str)) fun y2=>
 ze (zI (bif bif !y1 then decide ((x.length:Int)<=64)else false then y2==x else false) (strings_IndexByte (x,0)) (default:Int)) fun y3=>
 some (bif bif bif !y1 then decide ((x.length:Int)<=64)else false then y2==x else false then decide (y3<0)else false)
def wG(x:List Int):Option Int:=
 Zl (S:=Int) (X:=Unit) (fun s1=>
   bif decide (s1<(x.length:Int))then
    ze (geti x s1) fun y2=>
    bif bif decide (y2<(-1000000000000))then true else decide (y2>1000000000000)then
     some (.ret 8)
    else
     some (.again (w64 (s1+1)))
   else
    some (.out ())) 0 fun o3=>
 some 0
def Jp(x:Int):Option Int:=
 ze (wG [x]) fun y1=>
 some y1
def lG(x:zt):Option Bool:=
 ze (zI (!(x.kind != 1)) (Ml (⟨x.kind,x.name,x.num,x.decl,x.list⟩:zt)) (default:Bool)) fun y1=>
 bif bif bif x.kind != 1 then true else !y1 then true else(x.list.length:Int)==0 then
  some false
 else
  Zl (S:=Int) (X:=Unit) (fun s2=>
    bif decide (s2<(x.list.length:Int))then
     Zt (X:=Int) (
       ze (geti x.list s2) fun y3=>
       ze (zI (!(decide ((y3.list.length:Int)>0))) (Ml (⟨y3.kind,[],0,y3.decl,y3.list⟩:zt)) (default:Bool)) fun y4=>
       bif bif decide ((y3.list.length:Int)>0)then true else !y4 then
        some (.ret (LO.ret false))
       else
        bif y3.kind==4 then
         ze (zI (!(bif decide (s2>0)then true else y3.num != 0)) (Nw y3.name) (default:Bool)) fun y5=>
         bif bif bif decide (s2>0)then true else y3.num != 0 then true else !y5 then
          some (.ret (LO.ret false))
         else
          some (.out s2)
        else
         Zt (X:=Bool) (
           bif y3.kind==5 then
            some (.out (y3.kind==5))
           else
            some (.out (y3.kind==6))) fun j6=>
         bif j6 then
          ze (zI (!(bif !(y3.name==[])then true else decide (y3.num<0))) (Jp y3.num) (default:Int)) fun y7=>
          bif bif bif !(y3.name==[])then true else decide (y3.num<0)then true else y7 != 0 then
           some (.ret (LO.ret false))
          else
           some (.out s2)
         else
          some (.ret (LO.ret false))) fun j8=>
     some (.again (w64 (j8+1)))
    else
     some (.out ())) 0 fun o9=>
  some true
def kN(x:zt):Option Bool:=
 ze (zI (decide ((x.list.length:Int)>0)) (geti x.list 0) (default:zt)) fun y1=>
 some (bif decide ((x.list.length:Int)>0)then y1.kind==4 else false)
def PN(x:zt):Option Bool:=
 bif x.kind==3 then
  ze (Ml (⟨x.kind,x.name,x.num,x.decl,x.list⟩:zt)) fun y1=>
  ze (zI (bif y1 then(x.list.length:Int)==1 else false) (geti x.list 0) (default:zt)) fun y2=>
  ze (zI (bif y1 then(x.list.length:Int)==1 else false) (lG (⟨y2.kind,y2.name,y2.num,y2.decl,y2.list⟩:zt)) (default:Bool)) fun y3=>
  ze (zI (bif bif y1 then(x.list.length:Int)==1 else false then y3 else false) (geti x.list 0) (default:zt)) fun y4=>
  ze (zI (bif bif y1 then(x.list.length:Int)==1 else false then y3 else false) (kN (⟨y4.kind,y4.name,y4.num,y4.decl,y4.list⟩:zt)) (default:Bool)) fun y5=>
  some (bif bif bif y1 then(x.list.length:Int)==1 else false then y3 else false then y5 else false)
 else
  ze (lG (⟨x.kind,x.name,x.num,x.decl,x.list⟩:zt)) fun y6=>
  some y6
def fQ(x:zt):Option Bool:=
 ze (PN (⟨x.kind,x.name,x.num,x.decl,x.list⟩:zt)) fun y1=>
 some (!y1)
def jQ(x:List zt):Option Int:=
 Zl (S:=Int) (X:=Unit) (fun s1=>
   bif decide (s1<(x.length:Int))then
    ze (geti x s1) fun y2=>
    ze (fQ (⟨y2.kind,y2.name,y2.num,y2.decl,y2.list⟩:zt)) fun y3=>
    bif y3 then
     some (.ret s1)
    else
     some (.again (w64 (s1+1)))
   else
    some (.out ())) 0 fun o4=>
 some (-1)
def uQ(x:List zt):Option Bool:=
 ze (jQ x) fun y1=>
 some (decide (y1>=0))
def VQ(x:zt):Option Int:=
 ze (zI (bif bif x.kind==2 then decide ((x.list.length:Int)>0)else false then decide ((x.list.length:Int)<=64)else false) (uQ x.list) (default:Bool)) fun y1=>
 ze (Ml (⟨x.kind,x.name,x.num,x.decl,x.list⟩:zt)) fun y2=>
 bif bif !y2 then true else bif !(bif x.kind==1 then(x.list.length:Int)==0 else false)then !(bif bif bif x.kind==2 then decide ((x.list.length:Int)>0)else false then decide ((x.list.length:Int)<=64)else false then !y1 else false)else false then
  some 8
 else
  some 0
def JH(om:zt->Option Int)(x:zt):Option Int:=
 bif x.kind==7 then
  ze (Ms x.decl.value) fun y1=>
  some (w64 (y1.1+1))
 else
  bif x.kind==8 then
   some 1
  else
   Zl (S:=Int×Int) (X:=Int) (fun s2=>
     bif decide (s2.2<(x.list.length:Int))then
      ze (geti x.list s2.2) fun y3=>
      ze (om (⟨y3.kind,y3.name,y3.num,y3.decl,y3.list⟩:zt)) fun y4=>
      Zt (X:=Int×Int) (
        bif bif y3.kind != 7 then y3.kind != 8 else false then
         some (.out (s2.1,w64 (y4+1)))
        else
         some (.out (s2.1,y4))) fun j5=>
      some (.again (if j5.2>j5.1 then j5.2 else j5.1,w64 (s2.2+1)))
     else
      some (.out s2.1)) (0,0) fun o6=>
   some o6
def om:zt->Option Int:=recE (JH)
def rz(x:zt):Option Bool:=
 some (bif x.kind==7 then true else x.kind==8)
def Bt(bi:zt×Int->Option ((Int×Bool)×Int))(x:zt×Int):Option ((Int×Bool)×Int):=
 bif decide (w64 (x.2+1)>1500)then
  some ((0,false),w64 (x.2+1))
 else
  bif x.1.kind==7 then
   ze (Ms x.1.decl.value) fun y1=>
   ze (zI (bif bif bif (x.1.list.length:Int)==0 then x.1.name==[]else false then x.1.num==0 else false then y1.2==0 else false) (yo x.1.decl) (default:Int)) fun y2=>
   some ((w64 (y1.1+1),bif bif bif bif (x.1.list.length:Int)==0 then x.1.name==[]else false then x.1.num==0 else false then y1.2==0 else false then y2==0 else false),w64 (x.2+1))
  else
   bif x.1.kind==8 then
    ze (zI ((x.1.list.length:Int)==0) (Ml (⟨x.1.kind,x.1.name,x.1.num,x.1.decl,x.1.list⟩:zt)) (default:Bool)) fun y3=>
    some ((1,bif (x.1.list.length:Int)==0 then y3 else false),w64 (x.2+1))
   else
    Zt (X:=Bool) (
      bif x.1.kind==3 then
       some (.out (x.1.kind==3))
      else
       bif x.1.kind==1 then
        some (.out (x.1.kind==1))
       else
        some (.out (x.1.kind==2))) fun j4=>
    bif j4 then
     ze (Ml (⟨x.1.kind,x.1.name,x.1.num,x.1.decl,x.1.list⟩:zt)) fun y5=>
     bif bif bif !y5 then true else bif x.1.kind==3 then(x.1.list.length:Int) != 1 else false then true else bif x.1.kind != 3 then decide ((x.1.list.length:Int)<2)else false then
      some ((0,false),w64 (x.2+1))
     else
      Zl (S:=(Int×Int)×Int) (X:=Int×Int) (fun s6=>
        bif decide (s6.1.2<(x.1.list.length:Int))then
         ze (geti x.1.list s6.1.2) fun y7=>
         ze (bi ((⟨y7.kind,y7.name,y7.num,y7.decl,y7.list⟩:zt),s6.2)) fun y8=>
         bif !y8.1.2 then
          some (.ret ((0,false),y8.2))
         else
          Zt (X:=Int×Int) (
            ze (rz (⟨y7.kind,y7.name,y7.num,y7.decl,y7.list⟩:zt)) fun y9=>
            bif !y9 then
             some (.out (s6.1.1,w64 (y8.1.1+1)))
            else
             some (.out (s6.1.1,y8.1.1))) fun j10=>
          some (.again ((if j10.2>j10.1 then j10.2 else j10.1,w64 (s6.1.2+1)),y8.2))
        else
         some (.out (s6.1.1,s6.2))) ((0,0),w64 (x.2+1)) fun o11=>
      some ((o11.1,true),o11.2)
    else
     some ((0,false),w64 (x.2+1))
def bi:zt×Int->Option ((Int×Bool)×Int):=recE (Bt)
def QC(x:zt):Option Int:=
 ze (bi ((⟨x.kind,x.name,x.num,x.decl,x.list⟩:zt),0)) fun y1=>
 bif bif !y1.1.2 then true else decide (y1.1.1>16)then
  some 8
 else
  some 0
def LH(Xm:List zJ->Option Zg)(x:List zJ):Option Zg:=
 Zl (S:=Int×Zg) (X:=Zg) (fun s1=>
   bif decide (s1.1<(x.length:Int))then
    ze (geti x s1.1) fun y2=>
    ze (Xm y2.rules) fun y3=>
    ze (xQ y2.names) fun y4=>
    Zt (X:=(Int×Bool)×Zg×Zg) (
      bif y2.kind==1 then
       ze (Qh y2.selectors) fun y5=>
       ze (zI (!(bif y3.bad then true else y4)) (jP y2.selectors) (default:Int)) fun y6=>
       ze (zI (!(bif bif bif y3.bad then true else y4 then true else y6 != 0 then true else decide ((y2.decls.length:Int)>32))) (VA (⟨y2.cond.kind,y2.cond.name,y2.cond.num,y2.cond.decl,y2.cond.list⟩:zt)) (default:Bool)) fun y7=>
       Zl (S:=(Bool×Int)×Zg) (X:=Bool×Zg) (fun s8=>
         bif decide (s8.1.2<(y2.decls.length:Int))then
          ze (geti y2.decls s8.1.2) fun y9=>
          ze (Ms y9.value) fun y10=>
          ze (zI (!(bif s8.1.1 then true else y10.2 != 0)) (yo y9) (default:Int)) fun y11=>
          some (.again ((bif bif s8.1.1 then true else y10.2 != 0 then true else y11 != 0,w64 (s8.1.2+1)),(⟨s8.2.rules,if y10.1>s8.2.depth then y10.1 else s8.2.depth,s8.2.bad⟩:Zg)))
         else
          some (.out (s8.1.1,s8.2))) ((bif bif bif bif bif y3.bad then true else y4 then true else y6 != 0 then true else decide ((y2.decls.length:Int)>32)then true else !y7 then true else decide (w64 ((y2.names.length:Int)+(y2.rules.length:Int))>0),0),y3) fun o12=>
       some (.out ((y5,o12.1),(⟨w64 (s1.2.rules+w64 (y3.rules+1)),s1.2.depth,s1.2.bad⟩:Zg),o12.2))
      else
       bif y2.kind==2 then
        ze (ym (⟨y2.cond.kind,y2.cond.name,y2.cond.num,y2.cond.decl,y2.cond.list⟩:zt)) fun y13=>
        ze (zI (!(bif bif bif y3.bad then true else y4 then true else decide (w64 ((y2.selectors.length:Int)+(y2.decls.length:Int))>0)then true else decide ((y2.names.length:Int)>0))) (VQ (⟨y2.cond.kind,y2.cond.name,y2.cond.num,y2.cond.decl,y2.cond.list⟩:zt)) (default:Int)) fun y14=>
        some (.out ((y13,bif bif bif bif y3.bad then true else y4 then true else decide (w64 ((y2.selectors.length:Int)+(y2.decls.length:Int))>0)then true else decide ((y2.names.length:Int)>0)then true else y14 != 0),(⟨w64 (s1.2.rules+w64 (y3.rules+1)),s1.2.depth,s1.2.bad⟩:Zg),y3))
       else
        bif y2.kind==3 then
         ze (om (⟨y2.cond.kind,y2.cond.name,y2.cond.num,y2.cond.decl,y2.cond.list⟩:zt)) fun y15=>
         ze (zI (!(bif bif bif y3.bad then true else y4 then true else decide (w64 ((y2.selectors.length:Int)+(y2.decls.length:Int))>0)then true else decide ((y2.names.length:Int)>0))) (QC (⟨y2.cond.kind,y2.cond.name,y2.cond.num,y2.cond.decl,y2.cond.list⟩:zt)) (default:Int)) fun y16=>
         some (.out ((y15,bif bif bif bif y3.bad then true else y4 then true else decide (w64 ((y2.selectors.length:Int)+(y2.decls.length:Int))>0)then true else decide ((y2.names.length:Int)>0)then true else y16 != 0),(⟨w64 (s1.2.rules+w64 (y3.rules+1)),s1.2.depth,s1.2.bad⟩:Zg),y3))
        else
         bif y2.kind==4 then
          ze (zI (!(bif bif bif y3.bad then true else y4 then true else decide (w64 ((y2.selectors.length:Int)+(y2.decls.length:Int))>0)then true else decide ((y2.names.length:Int)>1))) (VA (⟨y2.cond.kind,y2.cond.name,y2.cond.num,y2.cond.decl,y2.cond.list⟩:zt)) (default:Bool)) fun y17=>
          some (.out ((0,bif bif bif bif y3.bad then true else y4 then true else decide (w64 ((y2.selectors.length:Int)+(y2.decls.length:Int))>0)then true else decide ((y2.names.length:Int)>1)then true else !y17),(⟨w64 (s1.2.rules+w64 (y3.rules+1)),s1.2.depth,s1.2.bad⟩:Zg),y3))
         else
          bif y2.kind==5 then
           ze (zI (!(bif bif bif bif bif y3.bad then true else y4 then true else decide (w64 ((y2.selectors.length:Int)+(y2.decls.length:Int))>0)then true else decide ((y2.names.length:Int)<1)then true else decide ((y2.names.length:Int)>64)then true else decide ((y2.rules.length:Int)>0))) (VA (⟨y2.cond.kind,y2.cond.name,y2.cond.num,y2.cond.decl,y2.cond.list⟩:zt)) (default:Bool)) fun y18=>
           some (.out ((0,bif bif bif bif bif bif y3.bad then true else y4 then true else decide (w64 ((y2.selectors.length:Int)+(y2.decls.length:Int))>0)then true else decide ((y2.names.length:Int)<1)then true else decide ((y2.names.length:Int)>64)then true else decide ((y2.rules.length:Int)>0)then true else !y18),(⟨w64 (s1.2.rules+w64 (y3.rules+1)),s1.2.depth,s1.2.bad⟩:Zg),(⟨y3.rules,(-1),y3.bad⟩:Zg)))
          else
           some (.out ((0,true),(⟨w64 (s1.2.rules+w64 (y3.rules+1)),s1.2.depth,s1.2.bad⟩:Zg),y3))) fun j19=>
    some (.again (w64 (s1.1+1),(⟨j19.2.1.rules,if j19.1.1>(if w64 (j19.2.2.depth+1)>j19.2.1.depth then w64 (j19.2.2.depth+1)else j19.2.1.depth)then j19.1.1 else if w64 (j19.2.2.depth+1)>j19.2.1.depth then w64 (j19.2.2.depth+1)else j19.2.1.depth,bif j19.2.1.bad then true else j19.1.2⟩:Zg)))
   else
    some (.out s1.2)) (0,(⟨0,0,false⟩:Zg)) fun o20=>
 some o20
def Xm:List zJ->Option Zg:=recE (LH)
def nO(x:List zJ):Option Int:=
 ze (Xm x) fun y1=>
 bif bif bif y1.bad then true else decide (y1.rules>64)then true else decide (y1.depth>16)then
  some 8
 else
  some 0
def xO(x:zdy):Option Int:=
 ze (nO x.rules) fun y1=>
 some y1
def Zz(x:zb):Option zb:=
 Zl (S:=zb) (X:=zb) (fun s1=>
   need (decide (0<=s1.at_)&&decide (s1.at_<=(s1.s.length:Int)))<|
   ze (strings_HasPrefix (List.drop s1.at_.toNat s1.s,[47,42])) fun y2=>
   bif y2 then
    need (decide (0<=w64 (s1.at_+2))&&decide (w64 (s1.at_+2)<=(s1.s.length:Int)))<|
    ze (ek (List.drop (w64 (s1.at_+2)).toNat s1.s,[42,47])) fun y3=>
    bif decide (y3<0)then
     some (.ret (⟨s1.s,(s1.s.length:Int)⟩:zb))
    else
     some (.again (⟨s1.s,w64 (s1.at_+w64 (y3+4))⟩:zb))
   else
    some (.out s1)) x fun o4=>
 some o4
def zm(x:Int×zb):Option Int:=
 bif decide (w64 (x.2.at_+x.1)<(x.2.s.length:Int))then
  ze (geti x.2.s (w64 (x.2.at_+x.1))) fun y1=>
  some (w64 (y1.toNat:Int))
 else
  some (-1)
def Bp(x:Int):Option Bool:=
 some (bif bif x==32 then true else x==9 then true else x==10)
def Z0(x:zb):Option zb:=
 Zl (S:=zb) (X:=zb) (fun s1=>
   ze (zm (0,s1)) fun y2=>
   ze (Bp y2) fun y3=>
   bif y3 then
    some (.again (⟨s1.s,w64 (s1.at_+1)⟩:zb))
   else
    some (.out s1)) x fun o4=>
 some o4
def QM(x:Int):Option (List UInt8):=
 bif decide (wu32 x<=2047)then
  ze (Df (ibOr IntKind.u8 192 (wu8 (xg IntKind.i32 x 6)))) fun y1=>
  ze (Df (ibOr IntKind.u8 128 (ah IntKind.u8 (wu8 x) 63))) fun y2=>
  need (Zp 0 2 1)<|
  some [y1,y2]
 else
  Zt (X:=Bool) (
    bif decide (wu32 x<55296)then
     some (.out (decide (wu32 x<55296)))
    else
     some (.out (bif decide (57343<wu32 x)then decide (wu32 x<=65535)else false))) fun j3=>
  bif j3 then
   ze (Df (ibOr IntKind.u8 224 (wu8 (xg IntKind.i32 x 12)))) fun y4=>
   ze (Df (ibOr IntKind.u8 128 (ah IntKind.u8 (wu8 (xg IntKind.i32 x 6)) 63))) fun y5=>
   ze (Df (ibOr IntKind.u8 128 (ah IntKind.u8 (wu8 x) 63))) fun y6=>
   need (Zp 0 3 1)<|
   some [y4,y5,y6]
  else
   bif bif decide (wu32 x>65535)then decide (wu32 x<=1114111)else false then
    ze (Df (ibOr IntKind.u8 240 (wu8 (xg IntKind.i32 x 18)))) fun y7=>
    ze (Df (ibOr IntKind.u8 128 (ah IntKind.u8 (wu8 (xg IntKind.i32 x 12)) 63))) fun y8=>
    ze (Df (ibOr IntKind.u8 128 (ah IntKind.u8 (wu8 (xg IntKind.i32 x 6)) 63))) fun y9=>
    ze (Df (ibOr IntKind.u8 128 (ah IntKind.u8 (wu8 x) 63))) fun y10=>
    need (Zp 0 4 1)<|
    some [y7,y8,y9,y10]
   else
    need (Zp 0 3 1)<|
    some [(239:UInt8),(191:UInt8),(189:UInt8)]
def Qk(x:Int):Option (List UInt8):=
 bif decide (wu32 x<=127)then
  ze (Df (wu8 x)) fun y1=>
  need (Zp 0 1 1)<|
  some [y1]
 else
  ze (QM x) fun y2=>
  some y2
def Q9(x:Int×Int×Int):Option Bool:=
 some (bif decide (x.2.1<=x.1)then decide (x.1<=x.2.2)else false)
def Qv(x:Int):Option Bool:=
 ze (Q9 (x,48,57)) fun y1=>
 some y1
def Nr(x:Int):Option Int:=
 ze (Qv x) fun y1=>
 bif y1 then
  some (w64 (x - 48))
 else
  ze (zI (x != (-1)) (Q9 (ibOr IntKind.i64 x 32,97,102)) (default:Bool)) fun y2=>
  bif bif bif bif x != (-1)then y2 else false then decide (x>64)else false then decide (x<128)else false then
   some (w64 (w64 (ibOr IntKind.i64 x 32 - 97)+10))
  else
   some (-1)
def Qg(x:zb):Option (zb×List UInt8):=
 ze (zm (0,(⟨x.s,w64 (x.at_+1)⟩:zb))) fun y1=>
 bif y1==(-1)then
  ze (Qk 65533) fun y2=>
  some ((⟨x.s,w64 (x.at_+1)⟩:zb),y2)
 else
  ze (Nr y1) fun y3=>
  bif decide (y3<0)then
   ze (Df (wu8 y1)) fun y4=>
   need (Zp 0 1 1)<|
   some ((⟨x.s,w64 (w64 (x.at_+1)+1)⟩:zb),[y4])
  else
   Zl (S:=(Int×Int)×zb) (X:=Int×zb) (fun s5=>
     bif decide (s5.1.2<6)then
      ze (zm (0,s5.2)) fun y6=>
      ze (Nr y6) fun y7=>
      bif decide (y7<0)then
       some (.out (s5.1.1,s5.2))
      else
       some (.again ((ibOr IntKind.i64 (Bu IntKind.i64 s5.1.1 4) y7,w64 (s5.1.2+1)),(⟨s5.2.s,w64 (s5.2.at_+1)⟩:zb)))
     else
      some (.out (s5.1.1,s5.2))) ((0,0),(⟨x.s,w64 (x.at_+1)⟩:zb)) fun o8=>
   Zt (X:=Int×zb) (
     ze (zm (0,o8.2)) fun y9=>
     ze (Bp y9) fun y10=>
     bif y10 then
      some (.out (o8.1,(⟨o8.2.s,w64 (o8.2.at_+1)⟩:zb)))
     else
      some (.out (o8.1,o8.2))) fun j11=>
   Zt (X:=Int) (
     bif j11.1==0 then
      some (.out 65533)
     else
      some (.out j11.1)) fun j12=>
   ze (Qk (w32 j12)) fun y13=>
   some (j11.2,y13)
def QN(x:Int×List UInt8):Option (List UInt8):=
 bif decide (wu32 x.1<=2047)then
  ze (Df (ibOr IntKind.u8 192 (wu8 (xg IntKind.i32 x.1 6)))) fun y1=>
  ze (Df (ibOr IntKind.u8 128 (ah IntKind.u8 (wu8 x.1) 63))) fun y2=>
  need (Zp x.2.length 2 1)<|
  some (x.2++[y1,y2])
 else
  Zt (X:=Bool×List UInt8) (
    bif decide (wu32 x.1<55296)then
     some (.out (decide (wu32 x.1<55296),x.2))
    else
     some (.out (bif decide (57343<wu32 x.1)then decide (wu32 x.1<=65535)else false,x.2))) fun j3=>
  bif j3.1 then
   ze (Df (ibOr IntKind.u8 224 (wu8 (xg IntKind.i32 x.1 12)))) fun y4=>
   ze (Df (ibOr IntKind.u8 128 (ah IntKind.u8 (wu8 (xg IntKind.i32 x.1 6)) 63))) fun y5=>
   ze (Df (ibOr IntKind.u8 128 (ah IntKind.u8 (wu8 x.1) 63))) fun y6=>
   need (Zp j3.2.length 3 1)<|
   some (j3.2++[y4,y5,y6])
  else
   bif bif decide (wu32 x.1>65535)then decide (wu32 x.1<=1114111)else false then
    ze (Df (ibOr IntKind.u8 240 (wu8 (xg IntKind.i32 x.1 18)))) fun y7=>
    ze (Df (ibOr IntKind.u8 128 (ah IntKind.u8 (wu8 (xg IntKind.i32 x.1 12)) 63))) fun y8=>
    ze (Df (ibOr IntKind.u8 128 (ah IntKind.u8 (wu8 (xg IntKind.i32 x.1 6)) 63))) fun y9=>
    ze (Df (ibOr IntKind.u8 128 (ah IntKind.u8 (wu8 x.1) 63))) fun y10=>
    need (Zp j3.2.length 4 1)<|
    some (j3.2++[y7,y8,y9,y10])
   else
    need (Zp j3.2.length 3 1)<|
    some (j3.2++[(239:UInt8),(191:UInt8),(189:UInt8)])
def Ql(x:Int×List UInt8):Option (List UInt8):=
 bif decide (wu32 x.1<=127)then
  ze (Df (wu8 x.1)) fun y1=>
  need (Zp x.2.length 1 1)<|
  some (x.2++[y1])
 else
  ze (QN (x.1,x.2)) fun y2=>
  some y2
def Z5(x:zb×List UInt8):Option (zb×List UInt8):=
 ze (zm (0,(⟨x.1.s,w64 (x.1.at_+1)⟩:zb))) fun y1=>
 bif y1==(-1)then
  ze (Ql (65533,x.2)) fun y2=>
  some ((⟨x.1.s,w64 (x.1.at_+1)⟩:zb),y2)
 else
  ze (Nr y1) fun y3=>
  bif decide (y3<0)then
   ze (Df (wu8 y1)) fun y4=>
   need (Zp x.2.length 1 1)<|
   some ((⟨x.1.s,w64 (w64 (x.1.at_+1)+1)⟩:zb),x.2++[y4])
  else
   Zl (S:=(Int×Int)×zb) (X:=Int×zb) (fun s5=>
     bif decide (s5.1.2<6)then
      ze (zm (0,s5.2)) fun y6=>
      ze (Nr y6) fun y7=>
      bif decide (y7<0)then
       some (.out (s5.1.1,s5.2))
      else
       some (.again ((ibOr IntKind.i64 (Bu IntKind.i64 s5.1.1 4) y7,w64 (s5.1.2+1)),(⟨s5.2.s,w64 (s5.2.at_+1)⟩:zb)))
     else
      some (.out (s5.1.1,s5.2))) ((0,0),(⟨x.1.s,w64 (x.1.at_+1)⟩:zb)) fun o8=>
   Zt (X:=Int×zb×List UInt8) (
     ze (zm (0,o8.2)) fun y9=>
     ze (Bp y9) fun y10=>
     bif y10 then
      some (.out (o8.1,(⟨o8.2.s,w64 (o8.2.at_+1)⟩:zb),x.2))
     else
      some (.out (o8.1,o8.2,x.2))) fun j11=>
   Zt (X:=Int×List UInt8) (
     bif j11.1==0 then
      some (.out (65533,j11.2.2))
     else
      some (.out (j11.1,j11.2.2))) fun j12=>
   ze (Ql (w32 j12.1,j12.2)) fun y13=>
   some (j11.2.1,y13)
def QR(x:zb):Option (zk×zb):=
 ze (zm (0,x)) fun y1=>
 Zl (S:=zb×zk×List UInt8) (X:=zb×zk×List UInt8) (fun s2=>
   ze (zm (0,s2.1)) fun y3=>
   bif y3==(-1)then
    some (.out (s2.1,s2.2.1,s2.2.2))
   else
    bif y3==y1 then
     some (.out ((⟨s2.1.s,w64 (s2.1.at_+1)⟩:zb),s2.2.1,s2.2.2))
    else
     bif y3==10 then
      some (.ret ((⟨6,[],0,[],false⟩:zk),s2.1))
     else
      ze (zI (y3==92) (zm (1,s2.1)) (default:Int)) fun y4=>
      ze (zI (!(y4==(-1))&&y3==92) (zm (1,s2.1)) (default:Int)) fun y5=>
      bif bif y3==92 then bif y4==(-1)then true else y5==10 else false then
       some (.again ((⟨s2.1.s,if(s2.1.s.length:Int)<w64 (s2.1.at_+2)then(s2.1.s.length:Int)else w64 (s2.1.at_+2)⟩:zb),s2.2.1,s2.2.2))
      else
       bif y3==92 then
        ze (Z5 (s2.1,s2.2.2)) fun y6=>
        some (.again (y6.1,s2.2.1,y6.2))
       else
        ze (Df (wu8 y3)) fun y7=>
        need (Zp s2.2.2.length 1 1)<|
        some (.again ((⟨s2.1.s,w64 (s2.1.at_+1)⟩:zb),s2.2.1,s2.2.2++[y7]))) ((⟨x.s,w64 (x.at_+1)⟩:zb),(⟨0,[],0,[],false⟩:zk),[]) fun o8=>
 some ((⟨5,o8.2.2,0,[],false⟩:zk),o8.1)
def Ow(x:Int):Option Bool:=
 ze (Q9 (ibOr IntKind.i64 x 32,97,122)) fun y1=>
 some (bif bif bif bif y1 then decide (x<128)else false then decide (x>64)else false then true else x==95 then true else decide (x>=128))
def nA(x:Int):Option Bool:=
 ze (Ow x) fun y1=>
 ze (zI (!y1) (Qv x) (default:Bool)) fun y2=>
 some (bif bif y1 then true else y2 then true else x==45)
def Zo(x:Int×zb):Option Bool:=
 ze (zm (x.1,x.2)) fun y1=>
 ze (zI (y1==92) (zm (w64 (x.1+1),x.2)) (default:Int)) fun y2=>
 some (bif y1==92 then y2 != 10 else false)
def Zq(x:Int×zb):Option Bool:=
 ze (zm (x.1,x.2)) fun y1=>
 bif y1 != 45 then
  ze (zm (x.1,x.2)) fun y2=>
  ze (Ow y2) fun y3=>
  ze (zI (!y3) (Zo (x.1,x.2)) (default:Bool)) fun y4=>
  some (bif y3 then true else y4)
 else
  ze (zm (w64 (x.1+1),x.2)) fun y5=>
  ze (Ow y5) fun y6=>
  ze (zI (!y6) (zm (w64 (x.1+1),x.2)) (default:Int)) fun y7=>
  ze (zI (!(bif y6 then true else y7==45)) (Zo (w64 (x.1+1),x.2)) (default:Bool)) fun y8=>
  some (bif bif y6 then true else y7==45 then true else y8)
def ZL(x:zb):Option (Str×zb):=
 Zl (S:=zb×List UInt8) (X:=Unit) (fun s1=>
   ze (zm (0,s1.1)) fun y2=>
   ze (nA y2) fun y3=>
   bif y3 then
    ze (Df (wu8 y2)) fun y4=>
    need (Zp s1.2.length 1 1)<|
    some (.again ((⟨s1.1.s,w64 (s1.1.at_+1)⟩:zb),s1.2++[y4]))
   else
    ze (zI (y2 != (-1)) (Zo (0,s1.1)) (default:Bool)) fun y5=>
    bif bif y2 != (-1)then y5 else false then
     ze (Z5 (s1.1,s1.2)) fun y6=>
     some (.again (y6.1,y6.2))
    else
     some (.ret (s1.2,s1.1))) (x,[]) fun o7=>
 none
def qE(x:zb):Option Bool:=
 Zt (X:=Int) (
   ze (zm (0,x)) fun y1=>
   bif bif y1==43 then true else y1==45 then
    some (.out 1)
   else
    some (.out 0)) fun j2=>
 Zt (X:=Int) (
   ze (zm (j2,x)) fun y3=>
   bif y3==46 then
    some (.out (w64 (j2+1)))
   else
    some (.out j2)) fun j4=>
 ze (zm (j4,x)) fun y5=>
 ze (Qv y5) fun y6=>
 some y6
def ZC(x:zb):Option zb:=
 Zl (S:=zb) (X:=zb) (fun s1=>
   ze (zm (0,s1)) fun y2=>
   ze (Qv y2) fun y3=>
   bif y3 then
    some (.again (⟨s1.s,w64 (s1.at_+1)⟩:zb))
   else
    some (.out s1)) x fun o4=>
 some o4
def QG(x:zb):Option (Bool×zb):=
 Zt (X:=zb) (
   ze (zm (0,x)) fun y1=>
   bif bif y1==43 then true else y1==45 then
    some (.out (⟨x.s,w64 (x.at_+1)⟩:zb))
   else
    some (.out x)) fun j2=>
 ze (ZC j2) fun y3=>
 Zt (X:=Bool×zb) (
   ze (zm (0,y3)) fun y4=>
   ze (zI (y4==46) (zm (1,y3)) (default:Int)) fun y5=>
   ze (zI (y4==46) (Qv y5) (default:Bool)) fun y6=>
   bif bif y4==46 then y6 else false then
    ze (ZC (⟨y3.s,w64 (y3.at_+1)⟩:zb)) fun y7=>
    some (.out (false,y7))
   else
    some (.out (true,y3))) fun j8=>
 Zt (X:=Bool×zb) (
   ze (zm (0,j8.2)) fun y9=>
   ze (zI (!(y9==101)) (zm (0,j8.2)) (default:Int)) fun y10=>
   bif bif y9==101 then true else y10==69 then
    Zt (X:=(Bool×Int)×zb) (
      ze (zm (1,j8.2)) fun y11=>
      bif bif y11==43 then true else y11==45 then
       some (.out ((j8.1,2),j8.2))
      else
       some (.out ((j8.1,1),j8.2))) fun j12=>
    ze (zm (j12.1.2,j12.2)) fun y13=>
    ze (Qv y13) fun y14=>
    bif y14 then
     ze (ZC (⟨j12.2.s,w64 (j12.2.at_+j12.1.2)⟩:zb)) fun y15=>
     some (.out (false,y15))
    else
     some (.out (j12.1.1,j12.2))
   else
    some (.out (j8.1,j8.2))) fun j16=>
 some (j16.1,j16.2)
def EC(x:Str):Option Int:=
 ze (geti x 0) fun y1=>
 ze (Am (x,[43,45])) fun y2=>
 Zt (X:=Str×Int) (
   ze (Um (y2,[101,69])) fun y3=>
   bif decide (y3>=0)then
    need (decide (0<=w64 (y3+1))&&decide (w64 (y3+1)<=(y2.length:Int)))<|
    ze (Am (List.drop (w64 (y3+1)).toNat y2,[43,45])) fun y4=>
    need (decide (y4.length<=maxLen))<|
    Zl (S:=Int×Int) (X:=Int) (fun s5=>
      bif decide (s5.2<(y4.length:Int))then
       need (decide (0<=s5.2)&&decide (s5.2<(y4.length:Int)))<|
       ze y4[s5.2.toNat]? fun y6=>
       some (.again (if 1048576<w64 (w64 (10*s5.1)+w64 (wu8 ((y6.toNat:Int) - 48)))then 1048576 else w64 (w64 (10*s5.1)+w64 (wu8 ((y6.toNat:Int) - 48))),w64 (s5.2+1)))
      else
       some (.out s5.1)) (0,0) fun o7=>
    Zt (X:=Str×Int×Int) (
      ze (geti y2 (w64 (y3+1))) fun y8=>
      bif (y8.toNat:Int)==45 then
       some (.out (y2,3,w64 (0 - o7)))
      else
       some (.out (y2,3,o7))) fun j9=>
    need (decide (0<=y3)&&decide (y3<=(j9.1.length:Int)))<|
    some (.out (List.take y3.toNat j9.1,w64 (j9.2.1+j9.2.2)))
   else
    some (.out (y2,3))) fun j10=>
 ze (cutF (j10.1,[46])) fun y11=>
 need (Nj y11.1.length y11.2.1.length)<|
 Zt (X:=Str×Int) (
   bif decide (w64 (j10.2 - (y11.2.1.length:Int))<0)then
    need (decide (0<=(if w64 (((y11.1++y11.2.1).length:Int)+w64 (j10.2 - (y11.2.1.length:Int)))>0 then w64 (((y11.1++y11.2.1).length:Int)+w64 (j10.2 - (y11.2.1.length:Int)))else 0))&&decide ((if w64 (((y11.1++y11.2.1).length:Int)+w64 (j10.2 - (y11.2.1.length:Int)))>0 then w64 (((y11.1++y11.2.1).length:Int)+w64 (j10.2 - (y11.2.1.length:Int)))else 0)<=((y11.1++y11.2.1).length:Int)))<|
    some (.out (List.take (if w64 (((y11.1++y11.2.1).length:Int)+w64 (j10.2 - (y11.2.1.length:Int)))>0 then w64 (((y11.1++y11.2.1).length:Int)+w64 (j10.2 - (y11.2.1.length:Int)))else 0).toNat (y11.1++y11.2.1),w64 (j10.2 - (y11.2.1.length:Int))))
   else
    some (.out (y11.1++y11.2.1,w64 (j10.2 - (y11.2.1.length:Int))))) fun j12=>
 need (decide (j12.1.length<=maxLen))<|
 Zl (S:=Int×Int) (X:=Int) (fun s13=>
   bif decide (s13.2<(j12.1.length:Int))then
    need (decide (0<=s13.2)&&decide (s13.2<(j12.1.length:Int)))<|
    ze j12.1[s13.2.toNat]? fun y14=>
    some (.again (if 1000000000000<w64 (w64 (10*s13.1)+w64 (wu8 ((y14.toNat:Int) - 48)))then 1000000000000 else w64 (w64 (10*s13.1)+w64 (wu8 ((y14.toNat:Int) - 48))),w64 (s13.2+1)))
   else
    some (.out s13.1)) (0,0) fun o15=>
 Zl (S:=Int×Int) (X:=Int) (fun s16=>
   bif bif bif decide (s16.1>0)then decide (s16.2>0)else false then decide (s16.2<1000000000000)else false then
    some (.again (w64 (s16.1 - 1),if 1000000000000<w64 (10*s16.2)then 1000000000000 else w64 (10*s16.2)))
   else
    some (.out s16.2)) (j12.2,o15) fun o17=>
 Zt (X:=Int) (
   bif (y1.toNat:Int)==45 then
    some (.out (w64 (0 - o17)))
   else
    some (.out o17)) fun j18=>
 some j18
def qR(x:zb):Option (zk×zb):=
 ze (QG x) fun y1=>
 need (decide (0<=x.at_)&&(decide (x.at_<=y1.2.at_)&&decide (y1.2.at_<=(y1.2.s.length:Int))))<|
 ze (EC (List.drop x.at_.toNat (List.take y1.2.at_.toNat y1.2.s))) fun y2=>
 Zt (X:=zb×zk×zk) (
   ze (Zq (0,y1.2)) fun y3=>
   bif y3 then
    ze (ZL y1.2) fun y4=>
    some (.out (y4.2,(⟨0,[],0,[],false⟩:zk),(⟨12,[],y2,y4.1,y1.1⟩:zk)))
   else
    ze (zm (0,y1.2)) fun y5=>
    bif y5==37 then
     some (.out ((⟨y1.2.s,w64 (y1.2.at_+1)⟩:zb),(⟨0,[],0,[],false⟩:zk),(⟨11,[],y2,[],false⟩:zk)))
    else
     some (.out (y1.2,(⟨0,[],0,[],false⟩:zk),(⟨10,[],y2,[],y1.1⟩:zk)))) fun j6=>
 some (j6.2.2,j6.1)
def Qj(x:zb):Option (zk×zb):=
 Zl (S:=zb×zk) (X:=Unit) (fun s1=>
   ze (zm (0,s1.1)) fun y2=>
   bif y2==(-1)then
    some (.ret ((⟨8,[],0,[],false⟩:zk),s1.1))
   else
    ze (Zo (0,s1.1)) fun y3=>
    bif y3 then
     ze (Qg s1.1) fun y4=>
     some (.again (y4.1,s1.2))
    else
     ze (geti s1.1.s (w64 (w64 (s1.1.at_+1) - 1))) fun y5=>
     bif (y5.toNat:Int)==41 then
      some (.ret ((⟨8,[],0,[],false⟩:zk),(⟨s1.1.s,w64 (s1.1.at_+1)⟩:zb)))
     else
      some (.again ((⟨s1.1.s,w64 (s1.1.at_+1)⟩:zb),s1.2))) (x,(⟨0,[],0,[],false⟩:zk)) fun o6=>
 none
def FC(x:zb):Option (zk×zb):=
 ze (Z0 x) fun y1=>
 Zl (S:=zb×zk×List UInt8) (X:=Unit) (fun s2=>
   ze (zm (0,s2.1)) fun y3=>
   Zt (X:=Int×zb×zk×List UInt8) (
     ze (Bp y3) fun y4=>
     bif y4 then
      ze (Z0 s2.1) fun y5=>
      ze (zm (0,y5)) fun y6=>
      bif bif y6 != 41 then y6 != (-1)else false then
       ze (Qj y5) fun y7=>
       some (.ret (LO.ret (y7.1,y7.2)))
      else
       some (.out (y6,y5,s2.2.1,s2.2.2))
     else
      some (.out (y3,s2.1,s2.2.1,s2.2.2))) fun j8=>
   bif j8.1==(-1)then
    some (.ret ((⟨7,j8.2.2.2,0,[],false⟩:zk),j8.2.1))
   else
    bif j8.1==41 then
     some (.ret ((⟨7,j8.2.2.2,0,[],false⟩:zk),(⟨j8.2.1.s,w64 (j8.2.1.at_+1)⟩:zb)))
    else
     ze (zI (!(bif bif bif bif j8.1==34 then true else j8.1==39 then true else j8.1==40 then true else decide (j8.1<=8)then true else j8.1==11)) (Q9 (j8.1,14,31)) (default:Bool)) fun y9=>
     bif bif bif bif bif bif bif j8.1==34 then true else j8.1==39 then true else j8.1==40 then true else decide (j8.1<=8)then true else j8.1==11 then true else y9 then true else j8.1==127 then
      ze (Qj j8.2.1) fun y10=>
      some (.ret (y10.1,y10.2))
     else
      bif j8.1 != 92 then
       ze (Df (wu8 j8.1)) fun y11=>
       need (Zp j8.2.2.2.length 1 1)<|
       some (.again ((⟨j8.2.1.s,w64 (j8.2.1.at_+1)⟩:zb),j8.2.2.1,j8.2.2.2++[y11]))
      else
       ze (Zo (0,j8.2.1)) fun y12=>
       bif y12 then
        ze (Z5 (j8.2.1,j8.2.2.2)) fun y13=>
        some (.again (y13.1,j8.2.2.1,y13.2))
       else
        ze (Qj j8.2.1) fun y14=>
        some (.ret (y14.1,y14.2))) (y1,(⟨0,[],0,[],false⟩:zk),[]) fun o15=>
 none
def qO(x:zb):Option (zk×zb):=
 ze (ZL x) fun y1=>
 ze (zm (0,y1.2)) fun y2=>
 bif y2 != 40 then
  some ((⟨1,y1.1,0,[],false⟩:zk),y1.2)
 else
  Zt (X:=zb×zk) (
    ze (ZW (y1.1,[117,114,108])) fun y3=>
    bif y3 then
     ze (Z0 (⟨y1.2.s,w64 (y1.2.at_+1)⟩:zb)) fun y4=>
     ze (zm (0,y4)) fun y5=>
     bif bif y5 != 34 then y5 != 39 else false then
      ze (FC (⟨y1.2.s,w64 (y1.2.at_+1)⟩:zb)) fun y6=>
      some (.ret (y6.1,y6.2))
     else
      some (.out ((⟨y1.2.s,w64 (y1.2.at_+1)⟩:zb),(⟨0,[],0,[],false⟩:zk)))
    else
     some (.out ((⟨y1.2.s,w64 (y1.2.at_+1)⟩:zb),(⟨0,[],0,[],false⟩:zk)))) fun j7=>
  some ((⟨2,y1.1,0,[],false⟩:zk),j7.1)
def qB(x:zb):Option (zk×zb):=
 ze (zm (0,x)) fun y1=>
 need (decide (0<=x.at_)&&decide (x.at_<=(x.s.length:Int)))<|
 ze (Bp y1) fun y2=>
 bif y2 then
  ze (Z0 x) fun y3=>
  some ((⟨13,[],0,[],false⟩:zk),y3)
 else
  bif bif y1==34 then true else y1==39 then
   ze (QR x) fun y4=>
   some (y4.1,y4.2)
  else
   ze (zI (y1==35) (zm (1,x)) (default:Int)) fun y5=>
   ze (zI (y1==35) (nA y5) (default:Bool)) fun y6=>
   ze (zI (!y6&&y1==35) (Zo (1,x)) (default:Bool)) fun y7=>
   bif bif y1==35 then bif y6 then true else y7 else false then
    ze (Zq (1,x)) fun y8=>
    ze (ZL (⟨x.s,w64 (x.at_+1)⟩:zb)) fun y9=>
    some ((⟨4,y9.1,0,[],y8⟩:zk),y9.2)
   else
    ze (qE x) fun y10=>
    bif y10 then
     ze (qR x) fun y11=>
     some (y11.1,y11.2)
    else
     ze (strings_HasPrefix (List.drop x.at_.toNat x.s,[45,45,62])) fun y12=>
     bif y12 then
      some ((⟨15,[],0,[],false⟩:zk),(⟨x.s,w64 (x.at_+3)⟩:zb))
     else
      ze (strings_HasPrefix (List.drop x.at_.toNat x.s,[60,33,45,45])) fun y13=>
      bif y13 then
       some ((⟨14,[],0,[],false⟩:zk),(⟨x.s,w64 (x.at_+4)⟩:zb))
      else
       ze (zI (y1==64) (Zq (1,x)) (default:Bool)) fun y14=>
       bif bif y1==64 then y14 else false then
        ze (ZL (⟨x.s,w64 (x.at_+1)⟩:zb)) fun y15=>
        some ((⟨3,y15.1,0,[],false⟩:zk),y15.2)
       else
        ze (Zq (0,x)) fun y16=>
        bif y16 then
         ze (qO x) fun y17=>
         some (y17.1,y17.2)
        else
         ze (strings_IndexByte ([58,59,44,91,93,40,41,123,125],wu8 y1)) fun y18=>
         bif decide (y18>=0)then
          some ((⟨wu8 (16+wu8 y18),[],0,[],false⟩:zk),(⟨x.s,w64 (x.at_+1)⟩:zb))
         else
          need (decide (1<=((List.drop x.at_.toNat x.s).length:Int)))<|
          some ((⟨9,List.take 1 (List.drop x.at_.toNat x.s),0,[],false⟩:zk),(⟨x.s,w64 (x.at_+1)⟩:zb))
def dB(x:(zk×Int×Int)×List zk):Option (List zk):=
 need (Zp x.2.length 1 56)<|
 some (x.2++[x.1.1])
def jA(x:Str):Option (Int×List zk):=
 ze (Yi x) fun y1=>
 bif y1.2 != 0 then
  some (y1.2,[])
 else
  ze (Zz (⟨y1.1,0⟩:zb)) fun y2=>
  Zl (S:=Int×List zk×zb) (X:=List zk×zb) (fun s3=>
    bif decide (s3.2.2.at_<(y1.1.length:Int))then
     bif decide (w64 (s3.1+1)>1500)then
      some (.ret (4,s3.2.1))
     else
      ze (qB s3.2.2) fun y4=>
      ze (dB ((y4.1,s3.2.2.at_,y4.2.at_),s3.2.1)) fun y5=>
      ze (Zz y4.2) fun y6=>
      some (.again (w64 (s3.1+1),y5,y6))
    else
     some (.out (s3.2.1,s3.2.2))) (0,[],y2) fun o7=>
  some (0,o7.1)
def Rp(x:Str):Option (List zk×Int):=
 ze (jA x) fun y1=>
 bif y1.1 != 0 then
  some ([],y1.1)
 else
  some (y1.2,0)
def vv(x:List za):Option Int:=
 bif (x.length:Int)==0 then
  some 0
 else
  ze (geti x 0) fun y1=>
  some y1.token.kind
def tH(x:Int×List UInt8):Option Int:=
 Zl (S:=Int) (X:=Unit) (fun s1=>
   bif decide (s1<(x.2.length:Int))then
    need (decide (0<=s1)&&decide (s1<(x.2.length:Int)))<|
    ze x.2[s1.toNat]? fun y2=>
    bif x.1==(y2.toNat:Int)then
     some (.ret s1)
    else
     some (.again (w64 (s1+1)))
   else
    some (.out ())) 0 fun o3=>
 some (-1)
def QF(x:Int×List UInt8):Option Bool:=
 ze (tH (x.1,x.2)) fun y1=>
 some (decide (y1>=0))
def RH(x:za×List UInt8):Option Bool:=
 ze (QF (x.1.token.kind,x.2)) fun y1=>
 some y1
def qV(x:List za×List UInt8):Option Int:=
 Zl (S:=Int) (X:=Unit) (fun s1=>
   bif decide (s1<(x.1.length:Int))then
    ze (geti x.1 s1) fun y2=>
    ze (RH ((⟨y2.token,y2.list⟩:za),x.2)) fun y3=>
    bif y3 then
     some (.ret s1)
    else
     some (.again (w64 (s1+1)))
   else
    some (.out ())) 0 fun o4=>
 some (-1)
def UA(x:List za×List UInt8):Option (List za×List za):=
 ze (qV (x.1,x.2)) fun y1=>
 bif decide (y1<0)then
  some (x.1,[])
 else
  need (decide (0<=y1)&&decide (y1<=(x.1.length:Int)))<|
  need (decide (0<=y1)&&decide (y1<=(x.1.length:Int)))<|
  some (List.take y1.toNat x.1,List.drop y1.toNat x.1)
def zZ(x:Int×zq):Option zk:=
 bif decide (w64 (x.2.at_+x.1)<(x.2.v.length:Int))then
  ze (geti x.2.v (w64 (x.2.at_+x.1))) fun y1=>
  some y1.token
 else
  some (⟨0,[],0,[],false⟩:zk)
def Zj(x:zq):Option (Bool×zq):=
 Zl (S:=zq) (X:=zq) (fun s1=>
   ze (zZ (0,s1)) fun y2=>
   bif y2.kind==13 then
    some (.again (⟨s1.v,w64 (s1.at_+1)⟩:zq))
   else
    some (.out s1)) x fun o3=>
 some (decide (o3.at_>x.at_),o3)
def ZZ(x:Str×zq):Option (Bool×zq):=
 ze (zZ (0,x.2)) fun y1=>
 bif bif y1.kind != 9 then true else !(y1.text==x.1)then
  some (false,x.2)
 else
  some (true,(⟨x.2.v,w64 (x.2.at_+1)⟩:zq))
def qM(x:zq):Option (Int×zq):=
 Zl (S:=Int×zq) (X:=zq) (fun s1=>
   bif decide (s1.1<3)then
    need (decide (0<=s1.1)&&(decide (s1.1<=w64 (s1.1+1))&&decide (w64 (s1.1+1)<=3)))<|
    ze (ZZ (List.drop s1.1.toNat (List.take (w64 (s1.1+1)).toNat ([62,43,126]:Str)),s1.2)) fun y2=>
    bif y2.1 then
     ze (Zj y2.2) fun y3=>
     some (.ret (wu8 (2+wu8 s1.1),y3.2))
    else
     some (.again (w64 (s1.1+1),y2.2))
   else
    some (.out s1.2)) (0,x) fun o4=>
 some (0,o4)
def Qt(x:Int×zq):Option (List za):=
 ze (geti x.2.v (w64 (x.2.at_+x.1))) fun y1=>
 some y1.list
def qN(x:zq):Option Bool:=
 some (x.at_==(x.v.length:Int))
def uA(x:List za):Option (zH×Bool):=
 ze (Zj (⟨x,0⟩:zq)) fun y1=>
 ze (zZ (0,y1.2)) fun y2=>
 ze (ZJ y2.text) fun y3=>
 ze (zZ (0,y1.2)) fun y4=>
 bif y4.kind != 1 then
  some ((⟨3,y3,0,[],false,(⟨0,0⟩:VAnb),false,[]⟩:zH),false)
 else
  ze (Zj (⟨y1.2.v,w64 (y1.2.at_+1)⟩:zq)) fun y5=>
  ze (qN y5.2) fun y6=>
  bif y6 then
   some ((⟨3,y3,0,[],false,(⟨0,0⟩:VAnb),false,[]⟩:zH),true)
  else
   Zt (X:=(Int×Str×Int×Str×Bool×Int×Int×Bool)×zq×(Int×Str×Int×Str×Bool×Int×Int×Bool)) (
     ze (ZZ ([61],y5.2)) fun y7=>
     bif y7.1 then
      some (.out ((0,[],0,[],false,0,0,false),y7.2,(3,y3,1,[],false,0,0,false)))
     else
      ze (zZ (0,y7.2)) fun y8=>
      ze (ek ([126,124,94,36,42],y8.text)) fun y9=>
      bif bif y8.kind != 9 then true else decide (y9<0)then
       some (.ret ((⟨3,y3,0,[],false,(⟨0,0⟩:VAnb),false,[]⟩:zH),false))
      else
       ze (ZZ ([61],(⟨y7.2.v,w64 (y7.2.at_+1)⟩:zq))) fun y10=>
       bif !y10.1 then
        some (.ret ((⟨3,y3,0,[],false,(⟨0,0⟩:VAnb),false,[]⟩:zH),false))
       else
        some (.out ((0,[],0,[],false,0,0,false),y10.2,(3,y3,wu8 (2+wu8 y9),[],false,0,0,false)))) fun j11=>
   ze (Zj j11.2.1) fun y12=>
   ze (zZ (0,y12.2)) fun y13=>
   bif bif y13.kind != 1 then y13.kind != 5 else false then
    some ((⟨j11.2.2.1,j11.2.2.2.1,j11.2.2.2.2.1,j11.2.2.2.2.2.1,j11.2.2.2.2.2.2.1,(⟨j11.2.2.2.2.2.2.2.1,j11.2.2.2.2.2.2.2.2.1⟩:VAnb),j11.2.2.2.2.2.2.2.2.2,[]⟩:zH),false)
   else
    ze (Zj (⟨y12.2.v,w64 (y12.2.at_+1)⟩:zq)) fun y14=>
    ze (zZ (0,y14.2)) fun y15=>
    bif y15.kind==1 then
     ze (Zj (⟨y14.2.v,w64 (y14.2.at_+1)⟩:zq)) fun y16=>
     ze (ZW (y15.text,[105])) fun y17=>
     ze (qN y16.2) fun y18=>
     ze (zI (!y17&&y18) (ZW (y15.text,[115])) (default:Bool)) fun y19=>
     some ((⟨j11.2.2.1,j11.2.2.2.1,j11.2.2.2.2.1,y13.text,y17,(⟨j11.2.2.2.2.2.2.2.1,j11.2.2.2.2.2.2.2.2.1⟩:VAnb),j11.2.2.2.2.2.2.2.2.2,[]⟩:zH),bif y18 then bif y17 then true else y19 else false)
    else
     ze (qN y14.2) fun y20=>
     some ((⟨j11.2.2.1,j11.2.2.2.1,j11.2.2.2.2.1,y13.text,j11.2.2.2.2.2.2.1,(⟨j11.2.2.2.2.2.2.2.1,j11.2.2.2.2.2.2.2.2.1⟩:VAnb),j11.2.2.2.2.2.2.2.2.2,[]⟩:zH),y20)
def Ww(x:Unit):Option (List Str):=
 some [[108,105,110,107],[118,105,115,105,116,101,100],[97,110,121,45,108,105,110,107],[114,111,111,116],[101,109,112,116,121],[110,116,104,45,99,104,105,108,100],[110,116,104,45,108,97,115,116,45,99,104,105,108,100],[105,115],[119,104,101,114,101],[110,111,116],[104,97,115]]
def rA(x:Str):Option (zH×Bool):=
 ze (ZJ x) fun y1=>
 bif y1==[102,105,114,115,116,45,99,104,105,108,100]then
  some ((⟨9,[],0,[],false,(⟨0,1⟩:VAnb),false,[]⟩:zH),true)
 else
  bif y1==[108,97,115,116,45,99,104,105,108,100]then
   some ((⟨10,[],0,[],false,(⟨0,1⟩:VAnb),false,[]⟩:zH),true)
  else
   ze (Ww ()) fun y2=>
   ze (ZJ x) fun y3=>
   ze (slices_Index_string (y2,y3)) fun y4=>
   some ((⟨wu8 (4+wu8 (if 0>y4 then 0 else y4)),[],0,[],false,(⟨0,0⟩:VAnb),false,[]⟩:zH),bif decide (y4>=0)then decide (y4<5)else false)
def XH(x:za):Option Bool:=
 ze (zI (x.token.kind==1) (ZW (x.token.text,[111,102])) (default:Bool)) fun y1=>
 some (bif x.token.kind==1 then y1 else false)
def qW(x:List za):Option Int:=
 Zl (S:=Int) (X:=Unit) (fun s1=>
   bif decide (s1<(x.length:Int))then
    ze (geti x s1) fun y2=>
    ze (XH (⟨y2.token,y2.list⟩:za)) fun y3=>
    bif y3 then
     some (.ret s1)
    else
     some (.again (w64 (s1+1)))
   else
    some (.out ())) 0 fun o4=>
 some (-1)
def qH(x:zN):Option zN:=
 Zl (S:=zN) (X:=zN) (fun s1=>
   ze (zI (decide ((s1.l.length:Int)>0)) (geti s1.l 0) (default:zk)) fun y2=>
   bif bif decide ((s1.l.length:Int)>0)then y2.kind==13 else false then
    need (decide (1<=(s1.l.length:Int)))<|
    some (.again (⟨List.drop 1 s1.l⟩:zN))
   else
    some (.out s1)) x fun o3=>
 some o3
def QT(x:Int×zN):Option ((zk×Bool)×zN):=
 ze (zI (!((x.2.l.length:Int)==0)) (geti x.2.l 0) (default:zk)) fun y1=>
 bif bif (x.2.l.length:Int)==0 then true else y1.kind != x.1 then
  some (((⟨0,[],0,[],false⟩:zk),false),x.2)
 else
  ze (geti x.2.l 0) fun y2=>
  need (decide (1<=(x.2.l.length:Int)))<|
  some ((y2,true),(⟨List.drop 1 x.2.l⟩:zN))
def fw(x:zN):Option ((Int×Bool)×zN):=
 ze (QT (10,x)) fun y1=>
 some ((w64 (Int.tdiv y1.1.1.num 1000),bif bif y1.1.2 then y1.1.1.flag else false then Int.tmod y1.1.1.num 1000==0 else false),y1.2)
def stringslite_CutPrefix(x:Str×Str):Option (Str×Bool):=
 ze (stringslite_HasPrefix (x.1,x.2)) fun y1=>
 bif !y1 then
  some (x.1,false)
 else
  need (decide (0<=(x.2.length:Int))&&decide ((x.2.length:Int)<=(x.1.length:Int)))<|
  some (List.drop x.2.length x.1,true)
def strings_CutPrefix(x:Str×Str):Option (Str×Bool):=
 ze (stringslite_CutPrefix (x.1,x.2)) fun y1=>
 some (y1.1,y1.2)
def dw(x:zN):Option (Int×zN):=
 ze (zI (!((x.l.length:Int)==0)) (geti x.l 0) (default:zk)) fun y1=>
 bif bif (x.l.length:Int)==0 then true else y1.kind != 9 then
  some (0,x)
 else
  ze (geti x.l 0) fun y2=>
  ze (ek ([45,32,43],y2.text)) fun y3=>
  ze (geti x.l 0) fun y4=>
  ze (zI (!(y4.text==[43])) (geti x.l 0) (default:zk)) fun y5=>
  bif bif y4.text==[43]then true else y5.text==[45]then
   need (decide (1<=(x.l.length:Int)))<|
   some (w64 (y3 - 1),(⟨List.drop 1 x.l⟩:zN))
  else
   some (0,x)
def QS(x:Str×zN):Option ((Int×Bool)×zN):=
 Zt (X:=Int×zN) (
   bif x.1==[45]then
    some (.out ((-1),x.2))
   else
    bif !(x.1==[])then
     ze (strings_CutPrefix (x.1,[45])) fun y1=>
     ze (zI (!(!y1.2)) (trimF (y1.1,[48,49,50,51,52,53,54,55,56,57])) (default:Str)) fun y2=>
     bif bif !y1.2 then true else !(y2==[])then
      some (.ret ((0,false),x.2))
     else
      ze (tu (y1.1,10,64)) fun y3=>
      Zt (X:=Int) (
        bif bif y3.2 then true else decide (y3.1>1000000000)then
         some (.out 1000000000)
        else
         some (.out y3.1)) fun j4=>
      some (.ret ((w64 (0 - j4),true),x.2))
    else
     ze (qH x.2) fun y5=>
     bif (y5.l.length:Int)==0 then
      some (.ret ((0,true),y5))
     else
      ze (dw y5) fun y6=>
      some (.out (y6.1,y6.2))) fun j7=>
 ze (qH j7.2) fun y8=>
 ze (fw y8) fun y9=>
 bif j7.1==0 then
  some ((y9.1.1,y9.1.2),y9.2)
 else
  some ((w64 (j7.1*y9.1.1),bif y9.1.2 then decide (y9.1.1>=0)else false),y9.2)
def AC(x:zN):Option ((VAnb×Bool)×zN):=
 ze (fw x) fun y1=>
 bif y1.1.2 then
  some (((⟨0,y1.1.1⟩:VAnb),true),y1.2)
 else
  ze (QT (12,y1.2)) fun y2=>
  bif y2.1.2 then
   ze (ZJ y2.1.1.unit) fun y3=>
   ze (strings_CutPrefix (y3,[110])) fun y4=>
   bif bif bif !y4.2 then true else !y2.1.1.flag then true else Int.tmod y2.1.1.num 1000 != 0 then
    some (((⟨0,0⟩:VAnb),false),y2.2)
   else
    ze (QS (y4.1,y2.2)) fun y5=>
    some (((⟨w64 (Int.tdiv y2.1.1.num 1000),y5.1.1⟩:VAnb),y5.1.2),y5.2)
  else
   ze (dw y2.2) fun y6=>
   ze (QT (1,y6.2)) fun y7=>
   bif bif !y7.1.2 then true else decide (y6.1<0)then
    some (((⟨0,0⟩:VAnb),false),y7.2)
   else
    ze (ZJ y7.1.1.text) fun y8=>
    Zt (X:=(Str×Int)×zN×VAnb) (
      bif y6.1==0 then
       bif y8==[111,100,100]then
        some (.ret (((⟨2,1⟩:VAnb),true),y7.2))
       else
        bif y8==[101,118,101,110]then
         some (.ret (((⟨2,0⟩:VAnb),true),y7.2))
        else
         ze (strings_CutPrefix (y8,[45])) fun y9=>
         bif y9.2 then
          some (.out ((y9.1,(-1)),y7.2,(⟨0,0⟩:VAnb)))
         else
          some (.out ((y8,1),y7.2,(⟨0,0⟩:VAnb)))
      else
       some (.out ((y8,1),y7.2,(⟨0,0⟩:VAnb)))) fun j10=>
    ze (strings_CutPrefix (j10.1.1,[110])) fun y11=>
    bif !y11.2 then
     some (((⟨0,0⟩:VAnb),false),j10.2.1)
    else
     ze (QS (y11.1,j10.2.1)) fun y12=>
     some (((⟨j10.1.2,y12.1.1⟩:VAnb),y12.1.2),y12.2)
def Ox(x:List zk):Option (VAnb×Int):=
 ze (qH (⟨x⟩:zN)) fun y1=>
 ze (AC y1) fun y2=>
 ze (qH y2.2) fun y3=>
 ze (zI (!(bif !y2.1.2 then true else decide ((y3.l.length:Int)>0))) (mr y2.1.1) (default:Int)) fun y4=>
 bif bif bif !y2.1.2 then true else decide ((y3.l.length:Int)>0)then true else y4 != 0 then
  some ((⟨0,0⟩:VAnb),12)
 else
  some (y2.1.1,0)
def Ep(zB:List za×zg×Bool×Bool->Option (List zu×Bool))(x:zH×List za×zg):Option (zH×Bool):=
 ze (qW x.2.1) fun y1=>
 Zt (X:=List za×zH×(Int×Str×Int×Str×Bool×Int×Int×Bool)) (
   bif decide (y1>=0)then
    ze (qZ (x.2.2,x.1.kind)) fun y2=>
    need (decide (0<=w64 (y1+1))&&decide (w64 (y1+1)<=(x.2.1.length:Int)))<|
    ze (zB (List.drop (w64 (y1+1)).toNat x.2.1,y2.1,false,false)) fun y3=>
    bif bif !y2.2 then true else !y3.2 then
     some (.ret ((⟨x.1.kind,x.1.name,x.1.op,x.1.value,x.1.fold,x.1.anb,x.1.of_,x.1.list⟩:zH),false))
    else
     need (decide (0<=y1)&&decide (y1<=(x.2.1.length:Int)))<|
     some (.out (List.take y1.toNat x.2.1,(⟨x.1.kind,x.1.name,x.1.op,x.1.value,x.1.fold,x.1.anb,true,y3.1⟩:zH),(0,[],0,[],false,0,0,false)))
   else
    some (.out (x.2.1,(⟨x.1.kind,x.1.name,x.1.op,x.1.value,x.1.fold,x.1.anb,x.1.of_,x.1.list⟩:zH),(0,[],0,[],false,0,0,false)))) fun j4=>
 ze (Yv j4.1) fun y5=>
 bif y5.2 != 0 then
  some ((⟨j4.2.1.kind,j4.2.1.name,j4.2.1.op,j4.2.1.value,j4.2.1.fold,j4.2.1.anb,j4.2.1.of_,j4.2.1.list⟩:zH),false)
 else
  ze (Ox y5.1) fun y6=>
  some ((⟨j4.2.1.kind,j4.2.1.name,j4.2.1.op,j4.2.1.value,j4.2.1.fold,y6.1,j4.2.1.of_,j4.2.1.list⟩:zH),y6.2==0)
def qY(zB:List za×zg×Bool×Bool->Option (List zu×Bool))(x:Str×List za×zg):Option (zH×Bool):=
 ze (Ww ()) fun y1=>
 ze (ZJ x.1) fun y2=>
 ze (slices_Index_string (y1,y2)) fun y3=>
 bif decide (y3<5)then
  some ((⟨0,[],0,[],false,(⟨0,0⟩:VAnb),false,[]⟩:zH),false)
 else
  bif decide (wu8 (4+wu8 y3)<=10)then
   ze (Ep zB ((⟨wu8 (4+wu8 y3),[],0,[],false,(⟨0,0⟩:VAnb),false,[]⟩:zH),x.2.1,x.2.2)) fun y4=>
   some ((⟨y4.1.kind,y4.1.name,y4.1.op,y4.1.value,y4.1.fold,y4.1.anb,y4.1.of_,y4.1.list⟩:zH),y4.2)
  else
   ze (qZ (x.2.2,wu8 (4+wu8 y3))) fun y5=>
   bif !y5.2 then
    some ((⟨wu8 (4+wu8 y3),[],0,[],false,(⟨0,0⟩:VAnb),false,[]⟩:zH),false)
   else
    ze (zB (x.2.1,y5.1,wu8 (4+wu8 y3)==14,decide (wu8 (4+wu8 y3)<=12))) fun y6=>
    some ((⟨wu8 (4+wu8 y3),[],0,[],false,(⟨0,0⟩:VAnb),false,y6.1⟩:zH),y6.2)
def ZR(zB:List za×zg×Bool×Bool->Option (List zu×Bool))(x:zg×zq):Option ((List zH×Bool)×zq):=
 Zl (S:=zq×List zH) (X:=Unit) (fun s1=>
   ze (zZ (1,s1.1)) fun y2=>
   Zt (X:=Bool×zq×List zH×zH) (
     ze (zZ (0,s1.1)) fun y3=>
     bif y3.kind==4 then
      some (.out (y3.flag,(⟨s1.1.v,w64 (s1.1.at_+1)⟩:zq),s1.2,(⟨1,y3.text,0,[],false,(⟨0,0⟩:VAnb),false,[]⟩:zH)))
     else
      bif bif y3.kind==9 then y3.text==[46]else false then
       some (.out (y2.kind==1,(⟨s1.1.v,w64 (s1.1.at_+2)⟩:zq),s1.2,(⟨2,y2.text,0,[],false,(⟨0,0⟩:VAnb),false,[]⟩:zH)))
      else
       bif y3.kind==19 then
        ze (Qt (0,s1.1)) fun y4=>
        ze (uA y4) fun y5=>
        some (.out (y5.2,(⟨s1.1.v,w64 (s1.1.at_+1)⟩:zq),s1.2,(⟨y5.1.kind,y5.1.name,y5.1.op,y5.1.value,y5.1.fold,y5.1.anb,y5.1.of_,y5.1.list⟩:zH)))
       else
        bif y3.kind==16 then
         Zt (X:=Bool×zq×zH) (
           bif y2.kind==1 then
            ze (rA y2.text) fun y6=>
            some (.out (y6.2,s1.1,(⟨y6.1.kind,y6.1.name,y6.1.op,y6.1.value,y6.1.fold,y6.1.anb,y6.1.of_,y6.1.list⟩:zH)))
           else
            bif y2.kind==2 then
             ze (Qt (1,s1.1)) fun y7=>
             ze (qY zB (y2.text,y7,x.1)) fun y8=>
             some (.out (y8.2,s1.1,(⟨y8.1.kind,y8.1.name,y8.1.op,y8.1.value,y8.1.fold,y8.1.anb,y8.1.of_,y8.1.list⟩:zH)))
            else
             some (.out (false,s1.1,(⟨0,[],0,[],false,(⟨0,0⟩:VAnb),false,[]⟩:zH)))) fun j9=>
         some (.out (j9.1,(⟨j9.2.1.v,w64 (j9.2.1.at_+2)⟩:zq),s1.2,(⟨j9.2.2.kind,j9.2.2.name,j9.2.2.op,j9.2.2.value,j9.2.2.fold,j9.2.2.anb,j9.2.2.of_,j9.2.2.list⟩:zH)))
        else
         some (.ret (LO.ret ((s1.2,true),s1.1)))) fun j10=>
   bif !j10.1 then
    some (.ret (([],false),j10.2.1))
   else
    need (Zp j10.2.2.1.length 1 104)<|
    some (.again (j10.2.1,j10.2.2.1++[(⟨j10.2.2.2.kind,j10.2.2.2.name,j10.2.2.2.op,j10.2.2.2.value,j10.2.2.2.fold,j10.2.2.2.anb,j10.2.2.2.of_,j10.2.2.2.list⟩:zH)]))) (x.2,[]) fun o11=>
 none
def qL(zB:List za×zg×Bool×Bool->Option (List zu×Bool))(x:List za×zg×Bool):Option (zu×Bool):=
 ze (Zj (⟨x.1,0⟩:zq)) fun y1=>
 Zt (X:=Int×zq×Int) (
   bif x.2.2 then
    ze (qM y1.2) fun y2=>
    bif y2.1==0 then
     some (.out (0,y2.2,1))
    else
     some (.out (0,y2.2,y2.1))
   else
    some (.out (0,y1.2,0))) fun j3=>
 Zt (X:=Int×zq×Int) (
   some (.out (j3.1,j3.2.1,j3.2.2))) fun j4=>
 Zl (S:=Int×zq×Int×List zU×List UInt8) (X:=Int×zq×Int×List zU×List UInt8) (fun s5=>
   Zt (X:=Int×zq×Int×List zU×List UInt8×Str) (
     ze (zZ (0,s5.2.1)) fun y6=>
     bif y6.kind==1 then
      ze (ZJ y6.text) fun y7=>
      some (.out (s5.1,(⟨s5.2.1.v,w64 (s5.2.1.at_+1)⟩:zq),s5.2.2.1,s5.2.2.2.1,s5.2.2.2.2,y7))
     else
      ze (ZZ ([42],s5.2.1)) fun y8=>
      bif y8.1 then
       some (.out (s5.1,y8.2,s5.2.2.1,s5.2.2.2.1,s5.2.2.2.2,[42]))
      else
       some (.out (s5.1,y8.2,s5.2.2.1,s5.2.2.2.1,s5.2.2.2.2,[]))) fun j9=>
   ze (ZR zB (x.2.1,j9.2.1)) fun y10=>
   ze (zI (!(!y10.1.2)) (QA zx ((⟨j9.2.2.2.2.2,y10.1.1⟩:zU),x.2.1)) (default:Bool)) fun y11=>
   bif bif !y10.1.2 then true else !y11 then
    some (.ret ((⟨j9.2.2.1,j9.2.2.2.1,j9.2.2.2.2.1⟩:zu),false))
   else
    need (Zp j9.2.2.2.1.length 1 40)<|
    ze (Zj y10.2) fun y12=>
    ze (qN y12.2) fun y13=>
    bif y13 then
     some (.out (j9.1,y12.2,j9.2.2.1,j9.2.2.2.1++[(⟨j9.2.2.2.2.2,y10.1.1⟩:zU)],j9.2.2.2.2.1))
    else
     ze (qM y12.2) fun y14=>
     Zt (X:=Int×Int×Int×List zU×List UInt8) (
       bif bif y14.1==0 then !y12.1 else false then
        some (.ret (LO.ret ((⟨j9.2.2.1,j9.2.2.2.1++[(⟨j9.2.2.2.2.2,y10.1.1⟩:zU)],j9.2.2.2.2.1⟩:zu),false)))
       else
        bif y14.1==0 then
         some (.out (1,j9.1,j9.2.2.1,j9.2.2.2.1++[(⟨j9.2.2.2.2.2,y10.1.1⟩:zU)],j9.2.2.2.2.1))
        else
         some (.out (y14.1,j9.1,j9.2.2.1,j9.2.2.2.1++[(⟨j9.2.2.2.2.2,y10.1.1⟩:zU)],j9.2.2.2.2.1))) fun j15=>
     ze (Df j15.1) fun y16=>
     need (Zp j15.2.2.2.2.length 1 1)<|
     some (.again (j15.2.1,y14.2,j15.2.2.1,j15.2.2.2.1,j15.2.2.2.2++[y16]))) (j4.1,j4.2.1,j4.2.2,[],[]) fun o17=>
 some ((⟨o17.2.2.1,o17.2.2.2.1,o17.2.2.2.2⟩:zu),decide ((o17.2.2.2.1.length:Int)<=64))
def Qs(zB:List za×zg×Bool×Bool->Option (List zu×Bool))(x:List za×zg×Bool×Bool):Option (List zu×Bool):=
 Zl (S:=(Int×Int)×List zu) (X:=List zu) (fun s1=>
   bif decide (s1.1.2<w64 ((x.1.length:Int)+1))then
    Zt (X:=(Int×Int)×List zu) (
      ze (zI (decide (s1.1.2<(x.1.length:Int))) (geti x.1 s1.1.2) (default:za)) fun y2=>
      bif bif decide (s1.1.2<(x.1.length:Int))then y2.token.kind != 18 else false then
       some (.out ((s1.1.1,s1.1.2),s1.2))
      else
       Zt (X:=List zu) (
         need (decide (0<=s1.1.1)&&(decide (s1.1.1<=s1.1.2)&&decide (s1.1.2<=(x.1.length:Int))))<|
         ze (qL zB (List.drop s1.1.1.toNat (List.take s1.1.2.toNat x.1),x.2.1,x.2.2.1)) fun y3=>
         bif y3.2 then
          need (Zp s1.2.length 1 56)<|
          some (.out (s1.2++[(⟨y3.1.lead,y3.1.parts,y3.1.combs⟩:zu)]))
         else
          bif !x.2.2.2 then
           some (.ret (LX.ret (LO.ret ([],false))))
          else
           some (.out s1.2)) fun j4=>
       some (.out ((w64 (s1.1.2+1),s1.1.2),j4))) fun j5=>
    some (.again ((j5.1.1,w64 (j5.1.2+1)),j5.2))
   else
    some (.out s1.2)) ((0,0),[]) fun o6=>
 some (o6,true)
def zB:List za×zg×Bool×Bool->Option (List zu×Bool):=recE (Qs)
def EA(x:List za):Option (List zu×Int):=
 ze (aj x) fun y1=>
 bif y1 != 0 then
  some ([],y1)
 else
  ze (zB (x,(⟨0,false⟩:zg),false,false)) fun y2=>
  bif !y2.2 then
   some ([],12)
  else
   ze (qP y2.1) fun y3=>
   bif decide (y3>64)then
    some ([],4)
   else
    some (y2.1,0)
def DC(x:List za):Option (List za):=need (Zp 0 x.length 80) (some x)
def WA(Mj:List za->Option (List za))(x:List za):Option (List za):=
 ze (DC x) fun y1=>
 Zl (S:=Int×List za) (X:=List za) (fun s2=>
   bif decide (s2.1<(y1.length:Int))then
    need (decide (0<=s2.1)&&decide (s2.1<(s2.2.length:Int)))<|
    ze s2.2[s2.1.toNat]? fun y3=>
    ze (Mj y3.list) fun y4=>
    need (decide (0<=s2.1)&&decide (s2.1<(s2.2.length:Int)))<|
    ze s2.2[s2.1.toNat]? fun y5=>
    some (.again (w64 (s2.1+1),List.set s2.2 s2.1.toNat (⟨y5.token,y4⟩:za)))
   else
    some (.out s2.2)) (0,y1) fun o6=>
 some o6
def Mj:List za->Option (List za):=recE (WA)
def Ls(x:List za×Int):Option (List (List za)×Int):=
 ze (aj x.1) fun y1=>
 bif y1 != 0 then
  some ([],y1)
 else
  bif bif decide (x.2<1)then true else decide (x.2>24)then
   some ([],2)
  else
   Zl (S:=(Int×Int)×List (List za)) (X:=Int×List (List za)) (fun s2=>
     bif decide (s2.1.2<(x.1.length:Int))then
      Zt (X:=(Int×Int)×List (List za)) (
        ze (geti x.1 s2.1.2) fun y3=>
        bif y3.token.kind==x.2 then
         need (decide (0<=s2.1.1)&&(decide (s2.1.1<=s2.1.2)&&(decide (s2.1.2<=s2.1.2)&&decide (s2.1.2<=(x.1.length:Int))))&&decide (s2.1.2=s2.1.2))<|
         ze (Mj (List.drop s2.1.1.toNat (List.take s2.1.2.toNat x.1))) fun y4=>
         need (Zp s2.2.length 1 24)<|
         some (.out ((w64 (s2.1.2+1),s2.1.2),s2.2++[y4]))
        else
         some (.out ((s2.1.1,s2.1.2),s2.2))) fun j5=>
      some (.again ((j5.1.1,w64 (j5.1.2+1)),j5.2))
     else
      some (.out (s2.1.1,s2.2))) ((0,0),[]) fun o6=>
   need (decide (0<=o6.1)&&decide (o6.1<=(x.1.length:Int)))<|
   ze (Mj (List.drop o6.1.toNat x.1)) fun y7=>
   need (Zp o6.2.length 1 24)<|
   some (o6.2++[y7],0)
def Es(x:List za):Option (List za):=
 Zl (S:=List za) (X:=List za) (fun s1=>
   ze (zI (decide ((s1.length:Int)>0)) (geti s1 0) (default:za)) fun y2=>
   ze (zI (decide ((s1.length:Int)>0)) (qX ((⟨y2.token,y2.list⟩:za),13)) (default:Bool)) fun y3=>
   bif bif decide ((s1.length:Int)>0)then y3 else false then
    need (decide (1<=(s1.length:Int)))<|
    some (.again (List.drop 1 s1))
   else
    some (.out s1)) x fun o4=>
 some o4
def lm(x:List za):Option (List za):=
 Zl (S:=List za) (X:=List za) (fun s1=>
   ze (zI (decide ((s1.length:Int)>0)) (geti s1 (w64 ((s1.length:Int) - 1))) (default:za)) fun y2=>
   ze (zI (decide ((s1.length:Int)>0)) (qX ((⟨y2.token,y2.list⟩:za),13)) (default:Bool)) fun y3=>
   bif bif decide ((s1.length:Int)>0)then y3 else false then
    need (decide (0<=w64 ((s1.length:Int) - 1))&&decide (w64 ((s1.length:Int) - 1)<=(s1.length:Int)))<|
    some (.again (List.take (w64 ((s1.length:Int) - 1)).toNat s1))
   else
    some (.out s1)) x fun o4=>
 some o4
def Kw(x:Int×List za):Option Bool:=
 ze (geti x.2 x.1) fun y1=>
 some (y1.token.kind==13)
def Xr(x:List za):Option (List za×Int):=
 ze (aj x) fun y1=>
 bif y1 != 0 then
  some ([],y1)
 else
  Zl (S:=Int) (X:=Int) (fun s2=>
    ze (zI (decide (s2<(x.length:Int))) (Kw (s2,x)) (default:Bool)) fun y3=>
    bif bif decide (s2<(x.length:Int))then y3 else false then
     some (.again (w64 (s2+1)))
    else
     some (.out s2)) 0 fun o4=>
  Zl (S:=Int) (X:=Int) (fun s5=>
    ze (zI (decide (o4<s5)) (Kw (w64 (s5 - 1),x)) (default:Bool)) fun y6=>
    bif bif decide (o4<s5)then y6 else false then
     some (.again (w64 (s5 - 1)))
    else
     some (.out s5)) (x.length:Int) fun o7=>
  need (decide (0<=o4)&&(decide (o4<=o7)&&(decide (o7<=o7)&&decide (o7<=(x.length:Int))))&&decide (o7=o7))<|
  ze (Mj (List.drop o4.toNat (List.take o7.toNat x))) fun y8=>
  some (y8,0)
def Pv(x:List za):Option (Zm×Bool):=
 ze (Es x) fun y1=>
 ze (lm y1) fun y2=>
 ze (zI (!((y2.length:Int)==0)) (geti y2 0) (default:za)) fun y3=>
 ze (zI (!((y2.length:Int)==0)) (qX ((⟨y3.token,y3.list⟩:za),1)) (default:Bool)) fun y4=>
 bif bif (y2.length:Int)==0 then true else !y4 then
  some ((⟨[],[],false⟩:Zm),false)
 else
  ze (geti y2 0) fun y5=>
  Zt (X:=List za×(Str×Bool)×(Str×Bool)) (
    ze (strings_HasPrefix (y5.token.text,[45,45])) fun y6=>
    bif !y6 then
     ze (ZJ y5.token.text) fun y7=>
     some (.out (y2,([],false),(y7,false)))
    else
     some (.out (y2,([],false),(y5.token.text,false)))) fun j8=>
  need (decide (1<=(j8.1.length:Int)))<|
  ze (Es (List.drop 1 j8.1)) fun y9=>
  ze (zI (!((y9.length:Int)==0)) (geti y9 0) (default:za)) fun y10=>
  ze (zI (!((y9.length:Int)==0)) (qX ((⟨y10.token,y10.list⟩:za),16)) (default:Bool)) fun y11=>
  bif bif (y9.length:Int)==0 then true else !y11 then
   some ((⟨[],[],false⟩:Zm),false)
  else
   need (decide (1<=(y9.length:Int)))<|
   ze (Es (List.drop 1 y9)) fun y12=>
   Zt (X:=List za×(Str×Bool)×(Str×Bool)) (
     ze (zI (decide (w64 ((y12.length:Int) - 1)>0)) (geti y12 (w64 ((y12.length:Int) - 1))) (default:za)) fun y13=>
     ze (zI (decide (w64 ((y12.length:Int) - 1)>0)) (qX ((⟨y13.token,y13.list⟩:za),1)) (default:Bool)) fun y14=>
     ze (zI (bif decide (w64 ((y12.length:Int) - 1)>0)then y14 else false) (geti y12 (w64 ((y12.length:Int) - 1))) (default:za)) fun y15=>
     ze (zI (bif decide (w64 ((y12.length:Int) - 1)>0)then y14 else false) (ZW (y15.token.text,[105,109,112,111,114,116,97,110,116])) (default:Bool)) fun y16=>
     bif bif bif decide (w64 ((y12.length:Int) - 1)>0)then y14 else false then y16 else false then
      need (decide (0<=w64 ((y12.length:Int) - 1))&&decide (w64 ((y12.length:Int) - 1)<=(y12.length:Int)))<|
      ze (lm (List.take (w64 ((y12.length:Int) - 1)).toNat y12)) fun y17=>
      ze (zI (decide ((y17.length:Int)>0)) (geti y17 (w64 ((y17.length:Int) - 1))) (default:za)) fun y18=>
      ze (zI (decide ((y17.length:Int)>0)) (mo (⟨y18.token,y18.list⟩:za)) (default:Bool)) fun y19=>
      bif bif decide ((y17.length:Int)>0)then y19 else false then
       need (decide (0<=w64 ((y17.length:Int) - 1))&&decide (w64 ((y17.length:Int) - 1)<=(y17.length:Int)))<|
       ze (lm (List.take (w64 ((y17.length:Int) - 1)).toNat y17)) fun y20=>
       some (.out (y20,(j8.2.1.1,j8.2.1.2),(j8.2.2.1,true)))
      else
       some (.out (y12,(j8.2.1.1,j8.2.1.2),(j8.2.2.1,j8.2.2.2)))
     else
      some (.out (y12,(j8.2.1.1,j8.2.1.2),(j8.2.2.1,j8.2.2.2)))) fun j21=>
   ze (Xr j21.1) fun y22=>
   ze (zI (!(y22.2 != 0)) (yo (⟨j21.2.2.1,y22.1,j21.2.2.2⟩:Zm)) (default:Int)) fun y23=>
   bif bif y22.2 != 0 then true else y23 != 0 then
    some ((⟨[],[],false⟩:Zm),false)
   else
    some ((⟨j21.2.2.1,y22.1,j21.2.2.2⟩:Zm),true)
def Wy(x:List za):Option (List Zm×Int):=
 ze (Ls (x,17)) fun y1=>
 bif y1.2 != 0 then
  some ([],y1.2)
 else
  Zl (S:=Int×List Zm) (X:=List Zm) (fun s2=>
    bif decide (s2.1<(y1.1.length:Int))then
     Zt (X:=Int×List Zm) (
       ze (geti y1.1 s2.1) fun y3=>
       ze (Pv y3) fun y4=>
       bif bif y4.2 then decide ((s2.2.length:Int)<32)else false then
        need (Zp s2.2.length 1 48)<|
        some (.out (s2.1,s2.2++[y4.1]))
       else
        some (.out (s2.1,s2.2))) fun j5=>
     some (.again (w64 (j5.1+1),j5.2))
    else
     some (.out s2.2)) (0,[]) fun o6=>
  some (o6,0)
def Pw(x:List za×List za):Option (zJ×Bool):=
 ze (EA x.1) fun y1=>
 bif y1.2 != 0 then
  some ((⟨0,[],[],(⟨0,[],0,(⟨[],[],false⟩:Zm),[]⟩:zt),[],[]⟩:zJ),false)
 else
  ze (Wy x.2) fun y2=>
  some ((⟨1,y1.1,y2.1,(⟨0,[],0,(⟨[],[],false⟩:Zm),[]⟩:zt),[],[]⟩:zJ),y2.2==0)
def QL(x:List Str):Option Int:=
 Zl (S:=Int) (X:=Unit) (fun s1=>
   bif decide (s1<(x.length:Int))then
    need (decide (0<=s1)&&decide (s1<(x.length:Int)))<|
    ze x[s1.toNat]? fun y2=>
    ze (Uw y2) fun y3=>
    bif y3 then
     some (.ret s1)
    else
     some (.again (w64 (s1+1)))
   else
    some (.out ())) 0 fun o4=>
 some (-1)
def Qf(x:List Str):Option Bool:=
 ze (QL x) fun y1=>
 some (decide (y1>=0))
def SB(x:List Str):Option Bool:=
 ze (zI (bif decide ((x.length:Int)>0)then decide ((x.length:Int)<=16)else false) (Qf x) (default:Bool)) fun y1=>
 some (bif bif decide ((x.length:Int)>0)then decide ((x.length:Int)<=16)else false then !y1 else false)
def BA(x:List za):Option (List Str×Bool):=
 ze (Xr x) fun y1=>
 bif bif y1.2 != 0 then true else Int.tmod (y1.1.length:Int) 2==0 then
  some ([],false)
 else
  Zl (S:=Int×List Str) (X:=List Str) (fun s2=>
    bif decide (s2.1<(y1.1.length:Int))then
     Zt (X:=Int×List Str) (
       ze (geti y1.1 s2.1) fun y3=>
       bif Int.tmod s2.1 2==1 then
        bif bif y3.token.kind != 9 then true else !(y3.token.text==[46])then
         some (.ret (LO.ret ([],false)))
        else
         some (.out (s2.1,s2.2))
       else
        bif y3.token.kind != 1 then
         some (.ret (LO.ret ([],false)))
        else
         need (Zp s2.2.length 1 16)<|
         some (.out (s2.1,s2.2++[y3.token.text]))) fun j4=>
     some (.again (w64 (j4.1+1),j4.2))
    else
     some (.out s2.2)) (0,[]) fun o5=>
  ze (SB o5) fun y6=>
  some (o5,y6)
def Dp(x:List za×Bool):Option (zJ×Bool):=
 ze (Ls (x.1,18)) fun y1=>
 bif bif y1.2 != 0 then true else decide ((y1.1.length:Int)>64)then
  some ((⟨0,[],[],(⟨0,[],0,(⟨[],[],false⟩:Zm),[]⟩:zt),[],[]⟩:zJ),false)
 else
  Zt (X:=(Int×Int×Str×Int×Str×Bool)×(Int×Int×Str×Int×Str×Bool)) (
    bif x.2 then
     ze (Xr x.1) fun y2=>
     bif (y2.1.length:Int)==0 then
      some (.ret ((⟨4,[],[],(⟨0,[],0,(⟨[],[],false⟩:Zm),[]⟩:zt),[],[]⟩:zJ),true))
     else
      some (.out ((0,0,[],0,[],false),(4,0,[],0,[],false)))
    else
     some (.out ((0,0,[],0,[],false),(5,0,[],0,[],false)))) fun j3=>
  Zl (S:=Int×(Int×Int×Str×Int×Str×Bool)×(Int×Int×Str×Int×Str×Bool)×List (List Str)) (X:=(Int×Int×Str×Int×Str×Bool)×(Int×Int×Str×Int×Str×Bool)×List (List Str)) (fun s4=>
    bif decide (s4.1<(y1.1.length:Int))then
     ze (geti y1.1 s4.1) fun y5=>
     ze (BA y5) fun y6=>
     bif !y6.2 then
      some (.ret ((⟨0,[],[],(⟨0,[],0,(⟨[],[],false⟩:Zm),[]⟩:zt),[],[]⟩:zJ),false))
     else
      need (Zp s4.2.2.2.length 1 24)<|
      some (.again (w64 (s4.1+1),(s4.2.1.1,s4.2.1.2.1,s4.2.1.2.2.1,s4.2.1.2.2.2.1,s4.2.1.2.2.2.2.1,s4.2.1.2.2.2.2.2),(s4.2.2.1.1,s4.2.2.1.2.1,s4.2.2.1.2.2.1,s4.2.2.1.2.2.2.1,s4.2.2.1.2.2.2.2.1,s4.2.2.1.2.2.2.2.2),s4.2.2.2++[y6.1]))
    else
     some (.out ((s4.2.1.1,s4.2.1.2.1,s4.2.1.2.2.1,s4.2.1.2.2.2.1,s4.2.1.2.2.2.2.1,s4.2.1.2.2.2.2.2),(s4.2.2.1.1,s4.2.2.1.2.1,s4.2.2.1.2.2.1,s4.2.2.1.2.2.2.1,s4.2.2.1.2.2.2.2.1,s4.2.2.1.2.2.2.2.2),s4.2.2.2))) (0,(j3.1.1,j3.1.2.1,j3.1.2.2.1,j3.1.2.2.2.1,j3.1.2.2.2.2.1,j3.1.2.2.2.2.2),(j3.2.1,j3.2.2.1,j3.2.2.2.1,j3.2.2.2.2.1,j3.2.2.2.2.2.1,j3.2.2.2.2.2.2),[]) fun o7=>
  some ((⟨o7.2.1.1,[],[],(⟨o7.2.1.2.1,o7.2.1.2.2.1,o7.2.1.2.2.2.1,(⟨o7.2.1.2.2.2.2.1,[],o7.2.1.2.2.2.2.2⟩:Zm),[]⟩:zt),o7.2.2,[]⟩:zJ),bif !x.2 then true else(o7.2.2.length:Int)==1)
def Zn(x:zh):Option Int:=
 bif (x.v.length:Int)==0 then
  some 0
 else
  ze (geti x.v 0) fun y1=>
  some y1.token.kind
def Zr(x:zh):Option (za×zh):=
 ze (geti x.v 0) fun y1=>
 need (decide (1<=(x.v.length:Int)))<|
 some ((⟨y1.token,y1.list⟩:za),(⟨List.drop 1 x.v⟩:zh))
def zM(x:zh):Option (Bool×zh):=
 Zl (S:=zh) (X:=zh) (fun s1=>
   ze (Zn s1) fun y2=>
   bif y2==13 then
    ze (Zr s1) fun y3=>
    some (.again y3.2)
   else
    some (.out s1)) x fun o4=>
 some (decide ((o4.v.length:Int)<(x.v.length:Int)),o4)
def qc(x:List Str×zh):Option (Str×zh):=
 Zl (S:=Int×zh) (X:=zh) (fun s1=>
   bif decide (s1.1<(x.1.length:Int))then
    ze (geti x.1 s1.1) fun y2=>
    ze (Zn s1.2) fun y3=>
    ze (zI (y3==1) (geti s1.2.v 0) (default:za)) fun y4=>
    ze (zI (y3==1) (ZW (y4.token.text,y2)) (default:Bool)) fun y5=>
    bif bif y3==1 then y5 else false then
     ze (Zr s1.2) fun y6=>
     some (.ret (y2,y6.2))
    else
     some (.again (w64 (s1.1+1),s1.2))
   else
    some (.out s1.2)) (0,x.2) fun o7=>
 some ([],o7)
def qJ(x:zh):Option ((zt×Bool)×zh):=
 ze (Zn x) fun y1=>
 bif y1 != 21 then
  some (((⟨0,[],0,(⟨[],[],false⟩:Zm),[]⟩:zt),false),x)
 else
  ze (Zr x) fun y2=>
  ze (zM (⟨y2.1.list⟩:zh)) fun y3=>
  Zt (X:=(Int×Str×Int×Str×Bool)×zh×(Int×Str×Int×Str×Bool)) (
    ze (qc ([[109,105,110,45,119,105,100,116,104],[109,97,120,45,119,105,100,116,104]],y3.2)) fun y4=>
    bif y4.1==[]then
     some (.ret (((⟨5,[],0,(⟨[],[],false⟩:Zm),[]⟩:zt),false),y2.2))
    else
     bif y4.1==[109,97,120,45,119,105,100,116,104]then
      some (.out ((0,[],0,[],false),y4.2,(6,[],0,[],false)))
     else
      some (.out ((0,[],0,[],false),y4.2,(5,[],0,[],false)))) fun j5=>
  ze (zM j5.2.1) fun y6=>
  ze (Zn y6.2) fun y7=>
  bif y7 != 16 then
   some (((⟨j5.2.2.1,j5.2.2.2.1,j5.2.2.2.2.1,(⟨j5.2.2.2.2.2.1,[],j5.2.2.2.2.2.2⟩:Zm),[]⟩:zt),false),y2.2)
  else
   ze (Zr y6.2) fun y8=>
   ze (zM y8.2) fun y9=>
   ze (Zn y9.2) fun y10=>
   ze (zI (y10 != 12) (Zn y9.2) (default:Int)) fun y11=>
   bif bif y10 != 12 then y11 != 10 else false then
    some (((⟨j5.2.2.1,j5.2.2.2.1,j5.2.2.2.2.1,(⟨j5.2.2.2.2.2.1,[],j5.2.2.2.2.2.2⟩:Zm),[]⟩:zt),false),y2.2)
   else
    ze (Zr y9.2) fun y12=>
    ze (zM y12.2) fun y13=>
    ze (zI (y12.1.token.kind==12) (ZW (y12.1.token.unit,[112,120])) (default:Bool)) fun y14=>
    ze (zI (bif bif bif y12.1.token.kind==12 then y14 else false then true else bif y12.1.token.kind==10 then y12.1.token.num==0 else false then decide (y12.1.token.num>=0)else false) (Jp y12.1.token.num) (default:Int)) fun y15=>
    some (((⟨j5.2.2.1,j5.2.2.2.1,y12.1.token.num,(⟨j5.2.2.2.2.2.1,[],j5.2.2.2.2.2.2⟩:Zm),[]⟩:zt),bif bif bif bif bif y12.1.token.kind==12 then y14 else false then true else bif y12.1.token.kind==10 then y12.1.token.num==0 else false then decide (y12.1.token.num>=0)else false then y15==0 else false then(y13.2.v.length:Int)==0 else false),y2.2)
def QU(x:zh):Option ((zt×Bool)×zh):=
 ze (zM x) fun y1=>
 ze (qc ([[110,111,116],[111,110,108,121]],y1.2)) fun y2=>
 ze (zM y2.2) fun y3=>
 Zt (X:=zh×(Int×Str×Int×Str×Bool)×(Int×Str×Int×Str×Bool)×List zt) (
   ze (Zn y3.2) fun y4=>
   bif y4==1 then
    ze (Zr y3.2) fun y5=>
    ze (ZJ y5.1.token.text) fun y6=>
    ze (Nw y6) fun y7=>
    bif !y7 then
     some (.ret (((⟨1,[],0,(⟨[],[],false⟩:Zm),[]⟩:zt),false),y5.2))
    else
     need (Zp 0 1 104)<|
     some (.out (y5.2,(0,[],0,[],false),(1,[],0,[],false),[(⟨4,y6,0,(⟨[],[],false⟩:Zm),[]⟩:zt)]))
   else
    ze (qJ y3.2) fun y8=>
    bif bif !y8.1.2 then true else !(y2.1==[])then
     some (.ret (((⟨1,[],0,(⟨[],[],false⟩:Zm),[]⟩:zt),false),y8.2))
    else
     need (Zp 0 1 104)<|
     some (.out (y8.2,(0,[],0,[],false),(1,[],0,[],false),[(⟨y8.1.1.kind,y8.1.1.name,y8.1.1.num,y8.1.1.decl,y8.1.1.list⟩:zt)]))) fun j9=>
 ze (zM j9.1) fun y10=>
 Zl (S:=zh×(Int×Str×Int×Str×Bool)×(Int×Str×Int×Str×Bool)×List zt) (X:=zh×(Int×Str×Int×Str×Bool)×(Int×Str×Int×Str×Bool)×List zt) (fun s11=>
   bif decide ((s11.1.v.length:Int)>0)then
    ze (qc ([[97,110,100]],s11.1)) fun y12=>
    bif y12.1==[]then
     some (.ret (((⟨s11.2.2.1.1,s11.2.2.1.2.1,s11.2.2.1.2.2.1,(⟨s11.2.2.1.2.2.2.1,[],s11.2.2.1.2.2.2.2⟩:Zm),s11.2.2.2⟩:zt),false),y12.2))
    else
     ze (zM y12.2) fun y13=>
     ze (qJ y13.2) fun y14=>
     bif !y14.1.2 then
      some (.ret (((⟨s11.2.2.1.1,s11.2.2.1.2.1,s11.2.2.1.2.2.1,(⟨s11.2.2.1.2.2.2.1,[],s11.2.2.1.2.2.2.2⟩:Zm),s11.2.2.2⟩:zt),false),y14.2))
     else
      need (Zp s11.2.2.2.length 1 104)<|
      ze (zM y14.2) fun y15=>
      some (.again (y15.2,(s11.2.1.1,s11.2.1.2.1,s11.2.1.2.2.1,s11.2.1.2.2.2.1,s11.2.1.2.2.2.2),(s11.2.2.1.1,s11.2.2.1.2.1,s11.2.2.1.2.2.1,s11.2.2.1.2.2.2.1,s11.2.2.1.2.2.2.2),s11.2.2.2++[(⟨y14.1.1.kind,y14.1.1.name,y14.1.1.num,y14.1.1.decl,y14.1.1.list⟩:zt)]))
   else
    some (.out (s11.1,(s11.2.1.1,s11.2.1.2.1,s11.2.1.2.2.1,s11.2.1.2.2.2.1,s11.2.1.2.2.2.2),(s11.2.2.1.1,s11.2.2.1.2.1,s11.2.2.1.2.2.1,s11.2.2.1.2.2.2.1,s11.2.2.1.2.2.2.2),s11.2.2.2))) (y10.2,(j9.2.1.1,j9.2.1.2.1,j9.2.1.2.2.1,j9.2.1.2.2.2.1,j9.2.1.2.2.2.2),(j9.2.2.1.1,j9.2.2.1.2.1,j9.2.2.1.2.2.1,j9.2.2.1.2.2.2.1,j9.2.2.1.2.2.2.2),j9.2.2.2) fun o16=>
 Zt (X:=(Int×Str×Int×Str×Bool)×(Int×Str×Int×Str×Bool×List zt)) (
   bif y2.1==[110,111,116]then
    some (.out ((o16.2.1.1,o16.2.1.2.1,o16.2.1.2.2.1,o16.2.1.2.2.2.1,o16.2.1.2.2.2.2),(3,[],0,[],false,[(⟨o16.2.2.1.1,o16.2.2.1.2.1,o16.2.2.1.2.2.1,(⟨o16.2.2.1.2.2.2.1,[],o16.2.2.1.2.2.2.2⟩:Zm),o16.2.2.2⟩:zt)])))
   else
    some (.out ((o16.2.1.1,o16.2.1.2.1,o16.2.1.2.2.1,o16.2.1.2.2.2.1,o16.2.1.2.2.2.2),(o16.2.2.1.1,o16.2.2.1.2.1,o16.2.2.1.2.2.1,o16.2.2.1.2.2.2.1,o16.2.2.1.2.2.2.2,o16.2.2.2)))) fun j17=>
 some (((⟨j17.2.1,j17.2.2.1,j17.2.2.2.1,(⟨j17.2.2.2.2.1,[],j17.2.2.2.2.2.1⟩:Zm),j17.2.2.2.2.2.2⟩:zt),true),o16.1)
def Ap(x:List za):Option (zt×Int):=
 ze (Ls (x,18)) fun y1=>
 bif y1.2 != 0 then
  some ((⟨0,[],0,(⟨[],[],false⟩:Zm),[]⟩:zt),y1.2)
 else
  Zt (X:=Int×Str×Int×Str×Bool) (
    bif (y1.1.length:Int)==1 then
     ze (zM (⟨x⟩:zh)) fun y2=>
     bif (y2.2.v.length:Int)==0 then
      some (.ret ((⟨1,[],0,(⟨[],[],false⟩:Zm),[]⟩:zt),0))
     else
      some (.out (0,[],0,[],false))
    else
     some (.out (0,[],0,[],false))) fun j3=>
  bif decide ((y1.1.length:Int)>64)then
   some ((⟨0,[],0,(⟨[],[],false⟩:Zm),[]⟩:zt),4)
  else
   Zl (S:=Int×(Int×Str×Int×Str×Bool)×List zt) (X:=(Int×Str×Int×Str×Bool)×List zt) (fun s4=>
     bif decide (s4.1<(y1.1.length:Int))then
      ze (geti y1.1 s4.1) fun y5=>
      ze (QU (⟨y5⟩:zh)) fun y6=>
      Zt (X:=(Int×Str×Int×Str×Bool)×List zt×zt) (
        bif !y6.1.2 then
         some (.out ((s4.2.1.1,s4.2.1.2.1,s4.2.1.2.2.1,s4.2.1.2.2.2.1,s4.2.1.2.2.2.2),s4.2.2,(⟨3,[],0,(⟨[],[],false⟩:Zm),[(⟨1,[],0,(⟨[],[],false⟩:Zm),[(⟨4,[97,108,108],0,(⟨[],[],false⟩:Zm),[]⟩:zt)]⟩:zt)]⟩:zt)))
        else
         some (.out ((s4.2.1.1,s4.2.1.2.1,s4.2.1.2.2.1,s4.2.1.2.2.2.1,s4.2.1.2.2.2.2),s4.2.2,(⟨y6.1.1.kind,y6.1.1.name,y6.1.1.num,y6.1.1.decl,y6.1.1.list⟩:zt)))) fun j7=>
      need (Zp j7.2.1.length 1 104)<|
      some (.again (w64 (s4.1+1),(j7.1.1,j7.1.2.1,j7.1.2.2.1,j7.1.2.2.2.1,j7.1.2.2.2.2),j7.2.1++[(⟨j7.2.2.kind,j7.2.2.name,j7.2.2.num,j7.2.2.decl,j7.2.2.list⟩:zt)]))
     else
      some (.out ((s4.2.1.1,s4.2.1.2.1,s4.2.1.2.2.1,s4.2.1.2.2.2.1,s4.2.1.2.2.2.2),s4.2.2))) (0,(2,[],0,[],false),[]) fun o8=>
   some ((⟨o8.1.1,o8.1.2.1,o8.1.2.2.1,(⟨o8.1.2.2.2.1,[],o8.1.2.2.2.2⟩:Zm),o8.2⟩:zt),0)
def Hz(x:List za):Option (Zm×Bool×Int):=
 ze (aj x) fun y1=>
 bif y1 != 0 then
  some ((⟨[],[],false⟩:Zm),false,y1)
 else
  ze (Pv x) fun y2=>
  some (y2.1,y2.2,0)
def qb(z8:zh->Option ((zt×Bool)×zh))(x:zh):Option ((zt×Bool)×zh):=
 ze (Zn x) fun y1=>
 bif y1==2 then
  ze (Zr x) fun y2=>
  some (((⟨8,[],0,(⟨[],[],false⟩:Zm),[]⟩:zt),true),y2.2)
 else
  bif y1==21 then
   ze (Zr x) fun y3=>
   ze (Hz y3.1.list) fun y4=>
   bif bif y4.2.2==0 then y4.2.1 else false then
    some (((⟨7,[],0,y4.1,[]⟩:zt),true),y3.2)
   else
    ze (z8 (⟨y3.1.list⟩:zh)) fun y5=>
    bif y5.1.2 then
     some (((⟨y5.1.1.kind,y5.1.1.name,y5.1.1.num,y5.1.1.decl,y5.1.1.list⟩:zt),true),y3.2)
    else
     some (((⟨8,[],0,(⟨[],[],false⟩:Zm),[]⟩:zt),true),y3.2)
  else
   some (((⟨8,[],0,(⟨[],[],false⟩:Zm),[]⟩:zt),false),x)
def qx(z8:zh->Option ((zt×Bool)×zh))(x:zh):Option ((zt×Bool)×zh):=
 ze (zM x) fun y1=>
 ze (qc ([[110,111,116]],y1.2)) fun y2=>
 bif !(y2.1==[])then
  ze (zM y2.2) fun y3=>
  ze (qb z8 y3.2) fun y4=>
  ze (zM y4.2) fun y5=>
  some (((⟨3,[],0,(⟨[],[],false⟩:Zm),[(⟨y4.1.1.kind,y4.1.1.name,y4.1.1.num,y4.1.1.decl,y4.1.1.list⟩:zt)]⟩:zt),bif bif y4.1.2 then y3.1 else false then(y5.2.v.length:Int)==0 else false),y5.2)
 else
  ze (qb z8 y2.2) fun y6=>
  bif !y6.1.2 then
   some (((⟨y6.1.1.kind,y6.1.1.name,y6.1.1.num,y6.1.1.decl,y6.1.1.list⟩:zt),false),y6.2)
  else
   ze (zM y6.2) fun y7=>
   bif (y7.2.v.length:Int)==0 then
    some (((⟨y6.1.1.kind,y6.1.1.name,y6.1.1.num,y6.1.1.decl,y6.1.1.list⟩:zt),true),y7.2)
   else
    Zl (S:=Bool×zh×(Int×Str×Int×Str×Bool)×(Int×Str×Int×Str×Bool)×List zt) (X:=zh×(Int×Str×Int×Str×Bool)×(Int×Str×Int×Str×Bool)×List zt) (fun s8=>
      bif decide ((s8.2.1.v.length:Int)>0)then
       ze (qc ([[97,110,100],[111,114]],s8.2.1)) fun y9=>
       bif bif bif (bif y9.1==[97,110,100]then 1 else bif y9.1==[111,114]then 2 else(0:Int))==0 then true else !s8.1 then true else bif s8.2.2.2.1.1 != 0 then s8.2.2.2.1.1 != (bif y9.1==[97,110,100]then 1 else bif y9.1==[111,114]then 2 else(0:Int))else false then
        some (.ret (((⟨s8.2.2.2.1.1,s8.2.2.2.1.2.1,s8.2.2.2.1.2.2.1,(⟨s8.2.2.2.1.2.2.2.1,[],s8.2.2.2.1.2.2.2.2⟩:Zm),s8.2.2.2.2⟩:zt),false),y9.2))
       else
        ze (zM y9.2) fun y10=>
        ze (qb z8 y10.2) fun y11=>
        bif bif !y10.1 then true else !y11.1.2 then
         some (.ret (((⟨bif y9.1==[97,110,100]then 1 else bif y9.1==[111,114]then 2 else(0:Int),s8.2.2.2.1.2.1,s8.2.2.2.1.2.2.1,(⟨s8.2.2.2.1.2.2.2.1,[],s8.2.2.2.1.2.2.2.2⟩:Zm),s8.2.2.2.2⟩:zt),false),y11.2))
        else
         need (Zp s8.2.2.2.2.length 1 104)<|
         ze (zM y11.2) fun y12=>
         some (.again (y12.1,y12.2,(s8.2.2.1.1,s8.2.2.1.2.1,s8.2.2.1.2.2.1,s8.2.2.1.2.2.2.1,s8.2.2.1.2.2.2.2),(bif y9.1==[97,110,100]then 1 else bif y9.1==[111,114]then 2 else(0:Int),s8.2.2.2.1.2.1,s8.2.2.2.1.2.2.1,s8.2.2.2.1.2.2.2.1,s8.2.2.2.1.2.2.2.2),s8.2.2.2.2++[(⟨y11.1.1.kind,y11.1.1.name,y11.1.1.num,y11.1.1.decl,y11.1.1.list⟩:zt)]))
      else
       some (.out (s8.2.1,(s8.2.2.1.1,s8.2.2.1.2.1,s8.2.2.1.2.2.1,s8.2.2.1.2.2.2.1,s8.2.2.1.2.2.2.2),(s8.2.2.2.1.1,s8.2.2.2.1.2.1,s8.2.2.2.1.2.2.1,s8.2.2.2.1.2.2.2.1,s8.2.2.2.1.2.2.2.2),s8.2.2.2.2))) (y7.1,y7.2,(0,[],0,[],false),(0,[],0,[],false),[(⟨y6.1.1.kind,y6.1.1.name,y6.1.1.num,y6.1.1.decl,y6.1.1.list⟩:zt)]) fun o13=>
    some (((⟨o13.2.2.1.1,o13.2.2.1.2.1,o13.2.2.1.2.2.1,(⟨o13.2.2.1.2.2.2.1,[],o13.2.2.1.2.2.2.2⟩:Zm),o13.2.2.2⟩:zt),true),o13.1)
def z8:zh->Option ((zt×Bool)×zh):=recE (qx)
def Pp(x:List za):Option (zt×Int):=
 ze (aj x) fun y1=>
 bif y1 != 0 then
  some ((⟨0,[],0,(⟨[],[],false⟩:Zm),[]⟩:zt),y1)
 else
  ze (z8 (⟨x⟩:zh)) fun y2=>
  ze (zI (!(!y2.1.2)) (QC (⟨y2.1.1.kind,y2.1.1.name,y2.1.1.num,y2.1.1.decl,y2.1.1.list⟩:zt)) (default:Int)) fun y3=>
  bif bif !y2.1.2 then true else y3 != 0 then
   some ((⟨0,[],0,(⟨[],[],false⟩:Zm),[]⟩:zt),12)
  else
   some ((⟨y2.1.1.kind,y2.1.1.name,y2.1.1.num,y2.1.1.decl,y2.1.1.list⟩:zt),0)
def Qu(x:(Bool×Str×List za)×zo):Option ((zJ×Bool)×zo):=
 Zt (X:=Bool×zo×(Int×Int×Str×Int×Str×Bool)×zJ) (
   bif bif !x.1.1 then false else false then
    none
   else
    bif bif x.1.1 then x.1.2.1==[108,97,121,101,114]else false then
     ze (Dp (x.1.2.2,false)) fun y1=>
     some (.out (y1.2,x.2,(0,0,[],0,[],false),(⟨y1.1.kind,y1.1.selectors,y1.1.decls,(⟨y1.1.cond.kind,y1.1.cond.name,y1.1.cond.num,y1.1.cond.decl,y1.1.cond.list⟩:zt),y1.1.names,y1.1.rules⟩:zJ)))
    else
     bif bif bif x.1.1 then x.1.2.1==[109,101,100,105,97]else false then false else false then
      ze (Ap x.1.2.2) fun y2=>
      some (.out (y2.2==0,x.2,(0,0,[],0,[],false),(⟨2,[],[],(⟨y2.1.kind,y2.1.name,y2.1.num,y2.1.decl,y2.1.list⟩:zt),[],[]⟩:zJ)))
     else
      bif bif bif x.1.1 then x.1.2.1==[115,117,112,112,111,114,116,115]else false then false else false then
       ze (Pp x.1.2.2) fun y3=>
       some (.out (y3.2==0,x.2,(0,0,[],0,[],false),(⟨3,[],[],(⟨y3.1.kind,y3.1.name,y3.1.num,y3.1.decl,y3.1.list⟩:zt),[],[]⟩:zJ)))
      else
       some (.out (false,x.2,(0,0,[],0,[],false),(⟨0,[],[],(⟨0,[],0,(⟨[],[],false⟩:Zm),[]⟩:zt),[],[]⟩:zJ)))) fun j4=>
 bif !j4.1 then
  some (((⟨0,[],[],(⟨0,[],0,(⟨[],[],false⟩:Zm),[]⟩:zt),[],[]⟩:zJ),false),j4.2.1)
 else
  bif bif bif j4.2.2.2.kind==2 then true else j4.2.2.2.kind==3 then true else j4.2.2.2.kind==4 then
   none
  else
   some (((⟨j4.2.2.2.kind,j4.2.2.2.selectors,j4.2.2.2.decls,(⟨j4.2.2.2.cond.kind,j4.2.2.2.cond.name,j4.2.2.2.cond.num,j4.2.2.2.cond.decl,j4.2.2.2.cond.list⟩:zt),j4.2.2.2.names,j4.2.2.2.rules⟩:zJ),true),(⟨w64 (j4.2.1.room - 1),j4.2.1.constructs⟩:zo))
def ql(zQ:(List za×Bool)×zo->Option (List zJ×zo))(x:(Bool×Str×List za×za)×zo):Option ((zJ×Bool)×zo):=
 Zt (X:=Bool×zo×(Int×Int×Str×Int×Str×Bool)×zJ) (
   bif bif !x.1.1 then true else false then
    ze (Pw (x.1.2.2.1,x.1.2.2.2.list)) fun y1=>
    some (.out (y1.2,x.2,(0,0,[],0,[],false),(⟨y1.1.kind,y1.1.selectors,y1.1.decls,(⟨y1.1.cond.kind,y1.1.cond.name,y1.1.cond.num,y1.1.cond.decl,y1.1.cond.list⟩:zt),y1.1.names,y1.1.rules⟩:zJ)))
   else
    bif bif x.1.1 then x.1.2.1==[108,97,121,101,114]else false then
     ze (Dp (x.1.2.2.1,true)) fun y2=>
     some (.out (y2.2,x.2,(0,0,[],0,[],false),(⟨y2.1.kind,y2.1.selectors,y2.1.decls,(⟨y2.1.cond.kind,y2.1.cond.name,y2.1.cond.num,y2.1.cond.decl,y2.1.cond.list⟩:zt),y2.1.names,y2.1.rules⟩:zJ)))
    else
     bif bif bif x.1.1 then x.1.2.1==[109,101,100,105,97]else false then true else false then
      ze (Ap x.1.2.2.1) fun y3=>
      some (.out (y3.2==0,x.2,(0,0,[],0,[],false),(⟨2,[],[],(⟨y3.1.kind,y3.1.name,y3.1.num,y3.1.decl,y3.1.list⟩:zt),[],[]⟩:zJ)))
     else
      bif bif bif x.1.1 then x.1.2.1==[115,117,112,112,111,114,116,115]else false then true else false then
       ze (Pp x.1.2.2.1) fun y4=>
       some (.out (y4.2==0,x.2,(0,0,[],0,[],false),(⟨3,[],[],(⟨y4.1.kind,y4.1.name,y4.1.num,y4.1.decl,y4.1.list⟩:zt),[],[]⟩:zJ)))
      else
       some (.out (false,x.2,(0,0,[],0,[],false),(⟨0,[],[],(⟨0,[],0,(⟨[],[],false⟩:Zm),[]⟩:zt),[],[]⟩:zJ)))) fun j5=>
 bif !j5.1 then
  some (((⟨0,[],[],(⟨0,[],0,(⟨[],[],false⟩:Zm),[]⟩:zt),[],[]⟩:zJ),false),j5.2.1)
 else
  Zt (X:=zo×(Int×Int×Str×Int×Str×Bool)×zJ) (
    bif bif bif j5.2.2.2.kind==2 then true else j5.2.2.2.kind==3 then true else j5.2.2.2.kind==4 then
     ze (zQ ((x.1.2.2.2.list,false),(⟨w64 (j5.2.1.room - 1),j5.2.1.constructs⟩:zo))) fun y6=>
     some (.out (y6.2,(j5.2.2.1.1,j5.2.2.1.2.1,j5.2.2.1.2.2.1,j5.2.2.1.2.2.2.1,j5.2.2.1.2.2.2.2.1,j5.2.2.1.2.2.2.2.2),(⟨j5.2.2.2.kind,j5.2.2.2.selectors,j5.2.2.2.decls,(⟨j5.2.2.2.cond.kind,j5.2.2.2.cond.name,j5.2.2.2.cond.num,j5.2.2.2.cond.decl,j5.2.2.2.cond.list⟩:zt),j5.2.2.2.names,y6.1⟩:zJ)))
    else
     some (.out ((⟨w64 (j5.2.1.room - 1),j5.2.1.constructs⟩:zo),(j5.2.2.1.1,j5.2.2.1.2.1,j5.2.2.1.2.2.1,j5.2.2.1.2.2.2.1,j5.2.2.1.2.2.2.2.1,j5.2.2.1.2.2.2.2.2),(⟨j5.2.2.2.kind,j5.2.2.2.selectors,j5.2.2.2.decls,(⟨j5.2.2.2.cond.kind,j5.2.2.2.cond.name,j5.2.2.2.cond.num,j5.2.2.2.cond.decl,j5.2.2.2.cond.list⟩:zt),j5.2.2.2.names,j5.2.2.2.rules⟩:zJ)))) fun j7=>
  some (((⟨j7.2.2.kind,j7.2.2.selectors,j7.2.2.decls,(⟨j7.2.2.cond.kind,j7.2.2.cond.name,j7.2.2.cond.num,j7.2.2.cond.decl,j7.2.2.cond.list⟩:zt),j7.2.2.names,j7.2.2.rules⟩:zJ),true),j7.1)
def Z8(zQ:(List za×Bool)×zo->Option (List zJ×zo))(x:(List za×Bool)×zo):Option (List zJ×zo):=
 Zl (S:=List za×zo×List zJ) (X:=zo×List zJ) (fun s1=>
   bif decide ((s1.1.length:Int)>0)then
    ze (vv s1.1) fun y2=>
    bif bif y2==13 then true else bif x.1.2 then bif y2==14 then true else y2==15 else false then
     need (decide (1<=(s1.1.length:Int)))<|
     some (.again (List.drop 1 s1.1,s1.2.1,s1.2.2))
    else
     Zt (X:=List za×zo×List zJ) (
       bif x.1.2 then
        some (.out (s1.1,(⟨s1.2.1.room,w64 (s1.2.1.constructs+1)⟩:zo),s1.2.2))
       else
        some (.out (s1.1,s1.2.1,s1.2.2))) fun j3=>
     Zt (X:=(List za×Str)×zo×List zJ×List UInt8) (
       bif y2==3 then
        ze (geti j3.1 0) fun y4=>
        ze (ZJ y4.token.text) fun y5=>
        need (Zp 1 1 1)<|
        need (decide (1<=(j3.1.length:Int)))<|
        some (.out ((List.drop 1 j3.1,y5),j3.2.1,j3.2.2,[(23:UInt8),(17:UInt8)]))
       else
        some (.out ((j3.1,[]),j3.2.1,j3.2.2,[(23:UInt8)]))) fun j6=>
     ze (UA (j6.1.1,j6.2.2.2)) fun y7=>
     ze (vv y7.2) fun y8=>
     bif y8==23 then
      ze (geti y7.2 0) fun y9=>
      Zt (X:=List za×zo×List zJ) (
        bif decide ((y7.2.length:Int)>0)then
         need (decide (1<=(y7.2.length:Int)))<|
         some (.out (List.drop 1 y7.2,j6.2.1,j6.2.2.1))
        else
         some (.out (y7.2,j6.2.1,j6.2.2.1))) fun j10=>
      bif j10.2.1.room==0 then
       some (.again (j10.1,j10.2.1,j10.2.2))
      else
       ze (ql zQ ((y2==3,j6.1.2,y7.1,y9),j10.2.1)) fun y11=>
       bif y11.1.2 then
        need (Zp j10.2.2.length 1 208)<|
        some (.again (j10.1,y11.2,j10.2.2++[(⟨y11.1.1.kind,y11.1.1.selectors,y11.1.1.decls,(⟨y11.1.1.cond.kind,y11.1.1.cond.name,y11.1.1.cond.num,y11.1.1.cond.decl,y11.1.1.cond.list⟩:zt),y11.1.1.names,y11.1.1.rules⟩:zJ)]))
       else
        some (.again (j10.1,y11.2,j10.2.2))
     else
      Zt (X:=List za×zo×List zJ) (
        bif decide ((y7.2.length:Int)>0)then
         need (decide (1<=(y7.2.length:Int)))<|
         some (.out (List.drop 1 y7.2,j6.2.1,j6.2.2.1))
        else
         some (.out (y7.2,j6.2.1,j6.2.2.1))) fun j12=>
      bif j12.2.1.room==0 then
       some (.again (j12.1,j12.2.1,j12.2.2))
      else
       ze (Qu ((y2==3,j6.1.2,y7.1),j12.2.1)) fun y13=>
       bif y13.1.2 then
        need (Zp j12.2.2.length 1 208)<|
        some (.again (j12.1,y13.2,j12.2.2++[(⟨y13.1.1.kind,y13.1.1.selectors,y13.1.1.decls,(⟨y13.1.1.cond.kind,y13.1.1.cond.name,y13.1.1.cond.num,y13.1.1.cond.decl,y13.1.1.cond.list⟩:zt),y13.1.1.names,y13.1.1.rules⟩:zJ)]))
       else
        some (.again (j12.1,y13.2,j12.2.2))
   else
    some (.out (s1.2.1,s1.2.2))) (x.1.1,x.2,[]) fun o14=>
 some (o14.2,o14.1)
def zQ:(List za×Bool)×zo->Option (List zJ×zo):=recE (Z8)
def XG(x:Str):Option (List zJ×Int):=
 ze (Rp x) fun y1=>
 bif y1.2 != 0 then
  some ([],y1.2)
 else
  ze (parseF y1.1) fun y2=>
  bif y2.2 != 0 then
   some ([],y2.2)
  else
   ze (zQ ((y2.1,true),(⟨64,0⟩:zo))) fun y3=>
   none
def Fs(x:Str):Option (zdy×Int):=
 ze (XG x) fun y1=>
 bif y1.2 != 0 then
  some ((⟨[]⟩:zdy),y1.2)
 else
  some ((⟨y1.1⟩:zdy),0)
def KH(x:Str):Option ((List zJ×Int)×zo):=
 ze (Rp x) fun y1=>
 bif y1.2 != 0 then
  none
 else
  ze (parseF y1.1) fun y2=>
  bif y2.2 != 0 then
   none
  else
   ze (zQ ((y2.1,true),(⟨64,0⟩:zo))) fun y3=>
   some ((y3.1,0),y3.2)
def Rw(x:Str):Option (zdy×Int):=
 ze (KH x) fun y1=>
 bif y1.1.2 != 0 then
  some ((⟨[]⟩:zdy),y1.1.2)
 else
  some ((⟨y1.1.1⟩:zdy),0)
def Z9(x:Str):Option (zdy×Int):=
 ze (Rp x) fun y1=>
 bif !(y1.2==0)then
  ze (Fs x) fun z1=>
  some z1
 else
  ze (parseF y1.1) fun y2=>
  bif !(y2.2==0)then
   ze (Fs x) fun z1=>
   some z1
  else
   ze (Rw x) fun z1=>
   some z1
def rO(x:Str×List UInt8):Option Bool:=
 ze (Z9 x.1) fun y1=>
 ze (zI (!(bif y1.2 != 0 then true else(y1.1.rules.length:Int) != (x.2.length:Int))) (xO y1.1) (default:Int)) fun y2=>
 bif bif bif y1.2 != 0 then true else(y1.1.rules.length:Int) != (x.2.length:Int)then true else y2 != 0 then
  some false
 else
  Zl (S:=Int) (X:=Unit) (fun s3=>
    bif decide (s3<(x.2.length:Int))then
     ze (geti y1.1.rules s3) fun y4=>
     ze (geti x.2 s3) fun y5=>
     bif y4.kind != (y5.toNat:Int)then
      some (.ret false)
     else
      some (.again (w64 (s3+1)))
    else
     some (.out ())) 0 fun o6=>
  some true
def um(x:Unit):Option Bool:=
 ze (Z9 [97,123,98,58,99,125,32,120,32,121,59,32,100,123,101,58,102,125,32,64,109,101,100,105,97,32,112,114,105,110,116,123,103,123,125,125,32,64,108,97,121,101,114,32,112,46,113,44,32,114,59,32,64,102,111,110,116,45,102,97,99,101,123,125]) fun y1=>
 ze (zI (!(y1.2 != 0)) (rO ([97,123,98,58,99,125,32,120,32,121,59,32,100,123,101,58,102,125,32,64,109,101,100,105,97,32,112,114,105,110,116,123,103,123,125,125,32,64,108,97,121,101,114,32,112,46,113,44,32,114,59,32,64,102,111,110,116,45,102,97,99,101,123,125],[(1:UInt8),(2:UInt8),(5:UInt8)])) (default:Bool)) fun y2=>
 ze (zI (!(bif y1.2 != 0 then true else !y2)) (geti y1.1.rules 1) (default:zJ)) fun y3=>
 bif bif bif y1.2 != 0 then true else !y2 then true else(y3.rules.length:Int) != 1 then
  some false
 else
  ze (geti y1.1.rules 2) fun y4=>
  ze (zI ((y4.names.length:Int)==2) (geti y4.names 0) (default:List Str)) fun y5=>
  ze (zI (bif (y4.names.length:Int)==2 then(y5.length:Int)==2 else false) (geti y4.names 0) (default:List Str)) fun y6=>
  ze (zI (bif (y4.names.length:Int)==2 then(y5.length:Int)==2 else false) (geti y6 0) (default:Str)) fun y7=>
  ze (zI (bif bif (y4.names.length:Int)==2 then(y5.length:Int)==2 else false then y7==[112]else false) (geti y4.names 0) (default:List Str)) fun y8=>
  ze (zI (bif bif (y4.names.length:Int)==2 then(y5.length:Int)==2 else false then y7==[112]else false) (geti y8 1) (default:Str)) fun y9=>
  ze (zI (bif bif bif (y4.names.length:Int)==2 then(y5.length:Int)==2 else false then y7==[112]else false then y9==[113]else false) (geti y4.names 1) (default:List Str)) fun y10=>
  ze (zI (bif bif bif bif (y4.names.length:Int)==2 then(y5.length:Int)==2 else false then y7==[112]else false then y9==[113]else false then(y10.length:Int)==1 else false) (geti y4.names 1) (default:List Str)) fun y11=>
  ze (zI (bif bif bif bif (y4.names.length:Int)==2 then(y5.length:Int)==2 else false then y7==[112]else false then y9==[113]else false then(y10.length:Int)==1 else false) (geti y11 0) (default:Str)) fun y12=>
  some (bif bif bif bif bif (y4.names.length:Int)==2 then(y5.length:Int)==2 else false then y7==[112]else false then y9==[113]else false then(y10.length:Int)==1 else false then y12==[114]else false)
def BC(x:(zk×Int×Int)×List ZG):Option (List ZG):=
 need (Zp x.2.length 1 16)<|
 some (x.2++[(⟨x.1.2.1,x.1.2.2⟩:ZG)])
def GH(x:Str):Option (Int×List ZG):=
 ze (Yi x) fun y1=>
 bif y1.2 != 0 then
  some (y1.2,[])
 else
  ze (Zz (⟨y1.1,0⟩:zb)) fun y2=>
  Zl (S:=Int×List ZG×zb) (X:=List ZG×zb) (fun s3=>
    bif decide (s3.2.2.at_<(y1.1.length:Int))then
     bif decide (w64 (s3.1+1)>1500)then
      some (.ret (4,s3.2.1))
     else
      ze (qB s3.2.2) fun y4=>
      ze (BC ((y4.1,s3.2.2.at_,y4.2.at_),s3.2.1)) fun y5=>
      ze (Zz y4.2) fun y6=>
      some (.again (w64 (s3.1+1),y5,y6))
    else
     some (.out (s3.2.1,s3.2.2))) (0,[],y2) fun o7=>
  some (0,o7.1)
def SA(x:Str):Option (List ZG×Int):=
 ze (GH x) fun y1=>
 bif y1.1 != 0 then
  some ([],y1.1)
 else
  some (y1.2,0)
def FB(x:Int):Option Int:=
 bif x==19 then
  some 20
 else
  Zt (X:=Bool) (
    bif x==21 then
     some (.out (x==21))
    else
     some (.out (x==2))) fun j1=>
  bif j1 then
   some 22
  else
   bif x==23 then
    some 24
   else
    some 0
def XB(QE:List za->Option (List zk))(x:List za):Option (List zk):=
 Zl (S:=Int×List zk) (X:=List zk) (fun s1=>
   bif decide (s1.1<(x.length:Int))then
    Zt (X:=Int×List zk) (
      ze (geti x s1.1) fun y2=>
      need (Zp s1.2.length 1 56)<|
      ze (geti x s1.1) fun y3=>
      ze (FB y3.token.kind) fun y4=>
      bif y4 != 0 then
       ze (geti x s1.1) fun y5=>
       ze (QE y5.list) fun y6=>
       need (Zp (s1.2++[y2.token]).length y6.length 56)<|
       need (Zp (s1.2++[y2.token]++y6).length 1 56)<|
       some (.out (s1.1,s1.2++[y2.token]++y6++[(⟨y4,[],0,[],false⟩:zk)]))
      else
       some (.out (s1.1,s1.2++[y2.token]))) fun j7=>
    some (.again (w64 (j7.1+1),j7.2))
   else
    some (.out s1.2)) (0,[]) fun o8=>
 some o8
def QE:List za->Option (List zk):=recE (XB)
def Sw(x:Str):Option (Int×Bool):=
 ze (Yi x) fun y1=>
 ze (Rp x) fun y2=>
 ze (SA x) fun y3=>
 ze (parseF y2.1) fun y4=>
 bif bif bif bif bif bif y1.2 != 0 then true else y2.2 != 0 then true else y3.2 != 0 then true else y4.2 != 0 then true else(y4.1.length:Int)==0 then true else(y3.1.length:Int)==0 then
  some (0,false)
 else
  ze (geti y3.1 (w64 ((y3.1.length:Int) - 1))) fun y5=>
  ze (zI (y5.e1==(y1.1.length:Int)) (geti y4.1 (w64 ((y4.1.length:Int) - 1))) (default:za)) fun y6=>
  ze (zI (bif y5.e1==(y1.1.length:Int)then y6.token.kind==23 else false) (QE y4.1) (default:List zk)) fun y7=>
  some ((y2.1.length:Int),bif bif y5.e1==(y1.1.length:Int)then y6.token.kind==23 else false then(y7.length:Int)==(y2.1.length:Int)else false)
def eB(qw:List zJ->Option Int)(x:List zJ):Option Int:=
 Zl (S:=Int×Int) (X:=Int) (fun s1=>
   bif decide (s1.2<(x.length:Int))then
    ze (geti x s1.2) fun y2=>
    ze (qw y2.rules) fun y3=>
    some (.again (w64 (s1.1+y3),w64 (s1.2+1)))
   else
    some (.out s1.1)) ((x.length:Int),0) fun o4=>
 some o4
def qw:List zJ->Option Int:=recE (eB)
def yA(x:List zJ):Option Int:=
 Zl (S:=Int×Int) (X:=Int) (fun s1=>
   bif decide (s1.2<(x.length:Int))then
    need (decide (0<=s1.2)&&decide (s1.2<(x.length:Int)))<|
    ze x[s1.2.toNat]? fun y2=>
    ze (qw y2.rules) fun y3=>
    some (.again (w64 (s1.1+y3),w64 (s1.2+1)))
   else
    some (.out s1.1)) ((x.length:Int),0) fun o4=>
 some o4
def BB(x:zH):Option zaa:=
 some (⟨x.kind,x.name,x.op,x.value,x.fold,x.anb,x.of_⟩:zaa)
def IC(ZO:List zu×List zu->Option Bool)(x:List zH×List zH):Option Bool:=
 bif (x.1.length:Int) != (x.2.length:Int)then
  some false
 else
  Zl (S:=Int) (X:=Unit) (fun s1=>
    bif decide (s1<(x.1.length:Int))then
     ze (geti x.1 s1) fun y2=>
     ze (BB (⟨y2.kind,y2.name,y2.op,y2.value,y2.fold,y2.anb,y2.of_,y2.list⟩:zH)) fun y3=>
     ze (geti x.2 s1) fun y4=>
     ze (BB (⟨y4.kind,y4.name,y4.op,y4.value,y4.fold,y4.anb,y4.of_,y4.list⟩:zH)) fun y5=>
     ze (zI (!(!(y3.kind==y5.kind&&(y3.name==y5.name&&(y3.op==y5.op&&(y3.value==y5.value&&(y3.fold==y5.fold&&(y3.anb.a==y5.anb.a&&(y3.anb.b==y5.anb.b&&(y3.of_==y5.of_&&true)))))))))) (geti x.1 s1) (default:zH)) fun y6=>
     ze (zI (!(!(y3.kind==y5.kind&&(y3.name==y5.name&&(y3.op==y5.op&&(y3.value==y5.value&&(y3.fold==y5.fold&&(y3.anb.a==y5.anb.a&&(y3.anb.b==y5.anb.b&&(y3.of_==y5.of_&&true)))))))))) (geti x.2 s1) (default:zH)) fun y7=>
     ze (zI (!(!(y3.kind==y5.kind&&(y3.name==y5.name&&(y3.op==y5.op&&(y3.value==y5.value&&(y3.fold==y5.fold&&(y3.anb.a==y5.anb.a&&(y3.anb.b==y5.anb.b&&(y3.of_==y5.of_&&true)))))))))) (ZO (y6.list,y7.list)) (default:Bool)) fun y8=>
     bif bif !(y3.kind==y5.kind&&(y3.name==y5.name&&(y3.op==y5.op&&(y3.value==y5.value&&(y3.fold==y5.fold&&(y3.anb.a==y5.anb.a&&(y3.anb.b==y5.anb.b&&(y3.of_==y5.of_&&true))))))))then true else !y8 then
      some (.ret false)
     else
      some (.again (w64 (s1+1)))
    else
     some (.out ())) 0 fun o9=>
  some true
def iA(ZO:List zu×List zu->Option Bool)(x:zu×zu):Option Bool:=
 bif bif bif x.1.lead != x.2.lead then true else(x.1.parts.length:Int) != (x.2.parts.length:Int)then true else !(x.1.combs==x.2.combs)then
  some false
 else
  Zl (S:=Int) (X:=Unit) (fun s1=>
    bif decide (s1<(x.1.parts.length:Int))then
     ze (geti x.1.parts s1) fun y2=>
     ze (geti x.2.parts s1) fun y3=>
     ze (zI (!(!(y2.tag==y3.tag))) (geti x.1.parts s1) (default:zU)) fun y4=>
     ze (zI (!(!(y2.tag==y3.tag))) (geti x.2.parts s1) (default:zU)) fun y5=>
     ze (zI (!(!(y2.tag==y3.tag))) (IC ZO (y4.simples,y5.simples)) (default:Bool)) fun y6=>
     bif bif !(y2.tag==y3.tag)then true else !y6 then
      some (.ret false)
     else
      some (.again (w64 (s1+1)))
    else
     some (.out ())) 0 fun o7=>
  some true
def CB(ZO:List zu×List zu->Option Bool)(x:List zu×List zu):Option Bool:=
 bif (x.1.length:Int) != (x.2.length:Int)then
  some false
 else
  Zl (S:=Int) (X:=Unit) (fun s1=>
    bif decide (s1<(x.1.length:Int))then
     ze (geti x.1 s1) fun y2=>
     ze (geti x.2 s1) fun y3=>
     ze (iA ZO ((⟨y2.lead,y2.parts,y2.combs⟩:zu),(⟨y3.lead,y3.parts,y3.combs⟩:zu))) fun y4=>
     bif !y4 then
      some (.ret false)
     else
      some (.again (w64 (s1+1)))
    else
     some (.out ())) 0 fun o5=>
  some true
def ZO:List zu×List zu->Option Bool:=recE (CB)
def EB(Rl:List za×List za->Option Bool)(x:List za×List za):Option Bool:=
 bif (x.1.length:Int) != (x.2.length:Int)then
  some false
 else
  Zl (S:=Int) (X:=Unit) (fun s1=>
    bif decide (s1<(x.1.length:Int))then
     ze (geti x.1 s1) fun y2=>
     ze (geti x.2 s1) fun y3=>
     ze (zI (!(!(y2.token.kind==y3.token.kind&&(y2.token.text==y3.token.text&&(y2.token.num==y3.token.num&&(y2.token.unit==y3.token.unit&&(y2.token.flag==y3.token.flag&&true))))))) (geti x.1 s1) (default:za)) fun y4=>
     ze (zI (!(!(y2.token.kind==y3.token.kind&&(y2.token.text==y3.token.text&&(y2.token.num==y3.token.num&&(y2.token.unit==y3.token.unit&&(y2.token.flag==y3.token.flag&&true))))))) (geti x.2 s1) (default:za)) fun y5=>
     ze (zI (!(!(y2.token.kind==y3.token.kind&&(y2.token.text==y3.token.text&&(y2.token.num==y3.token.num&&(y2.token.unit==y3.token.unit&&(y2.token.flag==y3.token.flag&&true))))))) (Rl (y4.list,y5.list)) (default:Bool)) fun y6=>
     bif bif !(y2.token.kind==y3.token.kind&&(y2.token.text==y3.token.text&&(y2.token.num==y3.token.num&&(y2.token.unit==y3.token.unit&&(y2.token.flag==y3.token.flag&&true)))))then true else !y6 then
      some (.ret false)
     else
      some (.again (w64 (s1+1)))
    else
     some (.out ())) 0 fun o7=>
  some true
def Rl:List za×List za->Option Bool:=recE (EB)
def Us(x:Zm×Zm):Option Bool:=
 ze (zI (bif x.1.name==x.2.name then x.1.important==x.2.important else false) (Rl (x.1.value,x.2.value)) (default:Bool)) fun y1=>
 some (bif bif x.1.name==x.2.name then x.1.important==x.2.important else false then y1 else false)
def Bw(x:List Zm×List Zm):Option Bool:=
 bif (x.1.length:Int) != (x.2.length:Int)then
  some false
 else
  Zl (S:=Int) (X:=Unit) (fun s1=>
    bif decide (s1<(x.1.length:Int))then
     ze (geti x.1 s1) fun y2=>
     ze (geti x.2 s1) fun y3=>
     ze (Us (y2,y3)) fun y4=>
     bif !y4 then
      some (.ret false)
     else
      some (.again (w64 (s1+1)))
    else
     some (.out ())) 0 fun o5=>
  some true
def AB(Yj:zt×zt->Option Bool)(x:zt×zt):Option Bool:=
 ze (zI (!(bif bif x.1.kind != x.2.kind then true else !(x.1.name==x.2.name)then true else x.1.num != x.2.num)) (Us (x.1.decl,x.2.decl)) (default:Bool)) fun y1=>
 bif bif bif bif bif x.1.kind != x.2.kind then true else !(x.1.name==x.2.name)then true else x.1.num != x.2.num then true else !y1 then true else(x.1.list.length:Int) != (x.2.list.length:Int)then
  some false
 else
  Zl (S:=Int) (X:=Unit) (fun s2=>
    bif decide (s2<(x.1.list.length:Int))then
     ze (geti x.1.list s2) fun y3=>
     ze (geti x.2.list s2) fun y4=>
     ze (Yj ((⟨y3.kind,y3.name,y3.num,y3.decl,y3.list⟩:zt),(⟨y4.kind,y4.name,y4.num,y4.decl,y4.list⟩:zt))) fun y5=>
     bif !y5 then
      some (.ret false)
     else
      some (.again (w64 (s2+1)))
    else
     some (.out ())) 0 fun o6=>
  some true
def Yj:zt×zt->Option Bool:=recE (AB)
def kw(x:List (List Str)×List (List Str)):Option Bool:=
 bif (x.1.length:Int) != (x.2.length:Int)then
  some false
 else
  Zl (S:=Int) (X:=Unit) (fun s1=>
    bif decide (s1<(x.1.length:Int))then
     ze (geti x.1 s1) fun y2=>
     ze (geti x.2 s1) fun y3=>
     bif (y2.length:Int) != (y3.length:Int)then
      some (.ret false)
     else
      Zl (S:=Int) (X:=Unit) (fun s4=>
        ze (geti x.1 s1) fun y5=>
        bif decide (s4<(y5.length:Int))then
         ze (geti x.1 s1) fun y6=>
         ze (geti y6 s4) fun y7=>
         ze (geti x.2 s1) fun y8=>
         ze (geti y8 s4) fun y9=>
         bif !(y7==y9)then
          some (.ret (LO.ret false))
         else
          some (.again (w64 (s4+1)))
        else
         some (.out ())) 0 fun o10=>
      some (.again (w64 (s1+1)))
    else
     some (.out ())) 0 fun o11=>
  some true
def Aw(qg:zJ×zJ->Option Bool)(x:List zJ×List zJ):Option Bool:=
 bif (x.1.length:Int) != (x.2.length:Int)then
  some false
 else
  Zl (S:=Int) (X:=Unit) (fun s1=>
    bif decide (s1<(x.1.length:Int))then
     ze (geti x.1 s1) fun y2=>
     ze (geti x.2 s1) fun y3=>
     ze (qg ((⟨y2.kind,y2.selectors,y2.decls,(⟨y2.cond.kind,y2.cond.name,y2.cond.num,y2.cond.decl,y2.cond.list⟩:zt),y2.names,y2.rules⟩:zJ),(⟨y3.kind,y3.selectors,y3.decls,(⟨y3.cond.kind,y3.cond.name,y3.cond.num,y3.cond.decl,y3.cond.list⟩:zt),y3.names,y3.rules⟩:zJ))) fun y4=>
     bif !y4 then
      some (.ret false)
     else
      some (.again (w64 (s1+1)))
    else
     some (.out ())) 0 fun o5=>
  some true
def VB(qg:zJ×zJ->Option Bool)(x:zJ×zJ):Option Bool:=
 ze (zI (x.1.kind==x.2.kind) (ZO (x.1.selectors,x.2.selectors)) (default:Bool)) fun y1=>
 ze (zI (bif x.1.kind==x.2.kind then y1 else false) (Bw (x.1.decls,x.2.decls)) (default:Bool)) fun y2=>
 ze (zI (bif bif x.1.kind==x.2.kind then y1 else false then y2 else false) (Yj ((⟨x.1.cond.kind,x.1.cond.name,x.1.cond.num,x.1.cond.decl,x.1.cond.list⟩:zt),(⟨x.2.cond.kind,x.2.cond.name,x.2.cond.num,x.2.cond.decl,x.2.cond.list⟩:zt))) (default:Bool)) fun y3=>
 ze (zI (bif bif bif x.1.kind==x.2.kind then y1 else false then y2 else false then y3 else false) (kw (x.1.names,x.2.names)) (default:Bool)) fun y4=>
 ze (zI (bif bif bif bif x.1.kind==x.2.kind then y1 else false then y2 else false then y3 else false then y4 else false) (Aw qg (x.1.rules,x.2.rules)) (default:Bool)) fun y5=>
 some (bif bif bif bif bif x.1.kind==x.2.kind then y1 else false then y2 else false then y3 else false then y4 else false then y5 else false)
def qg:zJ×zJ->Option Bool:=recE (VB)
def xA(x:List zJ×List zJ):Option Bool:=
 bif (x.1.length:Int) != (x.2.length:Int)then
  some false
 else
  Zl (S:=Int) (X:=Unit) (fun s1=>
    bif decide (s1<(x.1.length:Int))then
     ze (geti x.1 s1) fun y2=>
     need (decide (0<=s1)&&decide (s1<(x.2.length:Int)))<|
     ze x.2[s1.toNat]? fun y3=>
     ze (qg ((⟨y2.kind,y2.selectors,y2.decls,(⟨y2.cond.kind,y2.cond.name,y2.cond.num,y2.cond.decl,y2.cond.list⟩:zt),y2.names,y2.rules⟩:zJ),(⟨y3.kind,y3.selectors,y3.decls,(⟨y3.cond.kind,y3.cond.name,y3.cond.num,y3.cond.decl,y3.cond.list⟩:zt),y3.names,y3.rules⟩:zJ))) fun y4=>
     bif !y4 then
      some (.ret false)
     else
      some (.again (w64 (s1+1)))
    else
     some (.out ())) 0 fun o5=>
  some true
def wB(x:Str×Str×Str):Option Bool:=
 bif bif bif decide ((x.1.length:Int)>600)then true else decide ((x.2.1.length:Int)>600)then true else decide ((x.2.2.length:Int)>600)then
  ze (@um fuK ()) fun y1=>
  some y1
 else
  ze (Sw x.1) fun y2=>
  ze (Sw x.2.1) fun y3=>
  ze (Z9 x.1) fun y4=>
  ze (Z9 x.2.1) fun y5=>
  ze (Z9 x.2.2) fun y6=>
  bif bif bif bif bif bif !y2.2 then true else !y3.2 then true else y4.2 != 0 then true else y5.2 != 0 then true else y6.2 != 0 then true else decide (w64 (y2.1+y3.1)>700)then
   ze (@um fuK ()) fun y7=>
   some y7
  else
   need (Nj x.1.length x.2.1.length)<|
   need (Nj (x.1++x.2.1).length x.2.2.length)<|
   ze (Z9 (x.1++x.2.1++x.2.2)) fun y8=>
   bif y8.2 != 0 then
    ze (zI (y8.2==4) (@um fuK ()) (default:Bool)) fun y9=>
    some (bif y8.2==4 then y9 else false)
   else
    need (Zp 0 y4.1.rules.length 208)<|
    need (Zp y4.1.rules.length y5.1.rules.length 208)<|
    need (Zp (y4.1.rules++y5.1.rules).length y6.1.rules.length 208)<|
    ze (yA (y4.1.rules++y5.1.rules++y6.1.rules)) fun y10=>
    bif decide (y10>64)then
     ze (zI (decide ((y8.1.rules.length:Int)<=((y4.1.rules++y5.1.rules++y6.1.rules).length:Int))) (qw y8.1.rules) (default:Int)) fun y11=>
     ze (zI (bif decide ((y8.1.rules.length:Int)<=((y4.1.rules++y5.1.rules++y6.1.rules).length:Int))then decide (y11<=64)else false) (@um fuK ()) (default:Bool)) fun y12=>
     some (bif bif decide ((y8.1.rules.length:Int)<=((y4.1.rules++y5.1.rules++y6.1.rules).length:Int))then decide (y11<=64)else false then y12 else false)
    else
     ze (xA (y8.1.rules,y4.1.rules++y5.1.rules++y6.1.rules)) fun y13=>
     ze (zI y13 (@um fuK ()) (default:Bool)) fun y14=>
     some (bif y13 then y14 else false)
end Go.Lv.VT
end
