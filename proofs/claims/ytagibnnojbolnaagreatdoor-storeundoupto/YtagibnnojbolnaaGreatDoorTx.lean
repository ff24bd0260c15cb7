/- Texts. -/
import Derived.Test.YtagibnnojbolnaaGreatDoorTy
import Derived.Test.YtagibnnojbolnaaGreatDoorLf
noncomputable section
set_option linter.unusedSimpArgs false
set_option linter.unusedVariables false
namespace Go.Lv.VT
set_option maxRecDepth 100000
variable [Fu]
def strings_IndexByte(x:Str×Int):Option Int:=
 za (xB (x.1,x.2)) fun y1=>
 some y1
def Sz(x:Str):Option Bool:=
 za (zF (!(bif x==[]then true else decide ((x.length:Int)>64))) (strings_IndexByte (x,0)) (default:Int)) fun y1=>
 some (bif bif x==[]then true else decide ((x.length:Int)>64)then true else decide (y1>=0))
def Qw(x:List Str):Option Int:=
 zU (S:=Int) (X:=Unit) (fun s1=>
   bif decide (s1<(x.length:Int))then
    za (geti x s1) fun y2=>
    za (Sz y2) fun y3=>
    bif y3 then
     some (.ret s1)
    else
     some (.again (w64 (s1+1)))
   else
    some (.out ())) 0 fun o4=>
 some (-1)
def qK(x:List Str):Option Bool:=
 za (Qw x) fun y1=>
 some (decide (y1>=0))
def JE(x:List Str):Option Bool:=
 za (zF (bif decide ((x.length:Int)>0)then decide ((x.length:Int)<=16)else false) (qK x) (default:Bool)) fun y1=>
 some (bif bif decide ((x.length:Int)>0)then decide ((x.length:Int)<=16)else false then !y1 else false)
def xE(x:List Str):Option Bool:=
 za (JE x) fun y1=>
 some (!y1)
def oL(x:List (List Str)):Option Int:=
 zU (S:=Int) (X:=Unit) (fun s1=>
   bif decide (s1<(x.length:Int))then
    za (geti x s1) fun y2=>
    za (xE y2) fun y3=>
    bif y3 then
     some (.ret s1)
    else
     some (.again (w64 (s1+1)))
   else
    some (.out ())) 0 fun o4=>
 some (-1)
def Qe(x:List (List Str)):Option Bool:=
 za (oL x) fun y1=>
 some (decide (y1>=0))
def BH(Qv:List zm->Option Int)(x:List zm):Option Int:=
 zU (S:=Int×Int) (X:=Int) (fun s1=>
   bif decide (s1.2<(x.length:Int))then
    za (geti x s1.2) fun y2=>
    zU (S:=Int×Int) (X:=Int) (fun s3=>
      bif decide (s3.2<(y2.parts.length:Int))then
       za (geti y2.parts s3.2) fun y4=>
       zU (S:=Int×Int) (X:=Int) (fun s5=>
         bif decide (s5.2<(y4.simples.length:Int))then
          Zi (X:=Int×Int) (
            za (geti y4.simples s5.2) fun y6=>
            bif bif y6.kind==3 then true else bif decide (y6.kind>=9)then !(bif bif bif y6.kind==9 then true else y6.kind==10 then !y6.of_ else false then y6.anb.a==0&&(y6.anb.b==1&&true)else false)else false then
             za (Qv y6.list) fun y7=>
             some (.out (if w64 (y7+1)>s5.1 then w64 (y7+1)else s5.1,s5.2))
            else
             some (.out (s5.1,s5.2))) fun j8=>
          some (.again (j8.1,w64 (j8.2+1)))
         else
          some (.out s5.1)) (s3.1,0) fun o9=>
       some (.again (o9,w64 (s3.2+1)))
      else
       some (.out s3.1)) (s1.1,0) fun o10=>
    some (.again (o10,w64 (s1.2+1)))
   else
    some (.out s1.1)) (0,0) fun o11=>
 some o11
def Qv:List zm->Option Int:=recE (BH)
def xu(x:Str×Int):Option Bool:=
 za (zF (!(decide ((x.1.length:Int)>x.2))) (strings_IndexByte (x.1,0)) (default:Int)) fun y1=>
 some (bif decide ((x.1.length:Int)>x.2)then true else decide (y1>=0))
def Sv(x:Str):Option Bool:=
 za (zF (!(x==[])) (xu (x,64)) (default:Bool)) fun y1=>
 some (bif !(x==[])then !y1 else false)
def ZP(x:Str):Option Str:=
 need (decide (x.length<=maxLen))<|
 zU (S:=Int×List UInt8) (X:=List UInt8) (fun s1=>
   bif decide (s1.1<(x.length:Int))then
    Zi (X:=Int×List UInt8) (
      need (decide (0<=s1.1)&&decide (s1.1<(s1.2.length:Int)))<|
      za s1.2[s1.1.toNat]? fun y2=>
      bif bif decide (65<=(y2.toNat:Int))then decide ((y2.toNat:Int)<=90)else false then
       need (decide (0<=s1.1)&&decide (s1.1<(s1.2.length:Int)))<|
       za s1.2[s1.1.toNat]? fun y3=>
       need (decide (0<=s1.1)&&decide (s1.1<(s1.2.length:Int)))<|
       za s1.2[s1.1.toNat]? fun y4=>
       za (QN (ibOr IntKind.u8 (y3.toNat:Int) 32)) fun y5=>
       some (.out (s1.1,List.set s1.2 s1.1.toNat y5))
      else
       some (.out (s1.1,s1.2))) fun j6=>
    some (.again (w64 (j6.1+1),j6.2))
   else
    some (.out s1.2)) (0,x) fun o7=>
 some o7
def Jv(x:Str):Option Bool:=
 za (Sv x) fun y1=>
 za (zF y1 (ZP x) (default:Str)) fun y2=>
 some (bif y1 then y2==x else false)
def yF(x:zJ):Option (Bool×Bool):=
 Zi (X:=Bool) (
   bif x.kind==9 then
    some (.out (x.kind==9))
   else
    some (.out (x.kind==10))) fun j1=>
 bif j1 then
  some (x.of_,false)
 else
  Zi (X:=Bool) (
    bif x.kind==11 then
     some (.out (x.kind==11))
    else
     some (.out (x.kind==12))) fun j2=>
  bif j2 then
   some (true,true)
  else
   Zi (X:=Bool) (
     bif x.kind==13 then
      some (.out (x.kind==13))
     else
      some (.out (x.kind==14))) fun j3=>
   bif j3 then
    some (true,false)
   else
    some (false,true)
def QM(x:zh×Int):Option (zh×Bool):=
 bif bif x.1.deep==3 then true else bif x.1.has then x.2==14 else false then
  some ((⟨0,false⟩:zh),false)
 else
  some ((⟨w64 (x.1.deep+1),bif x.1.has then true else x.2==14⟩:zh),true)
def EE(x:Int):Option Bool:=
 some (bif decide ((-1000000000)<=x)then decide (x<=1000000000)else false)
def Vu(x:VAnb):Option Int:=
 za (EE x.a) fun y1=>
 za (zF (!(!y1)) (EE x.b) (default:Bool)) fun y2=>
 bif bif !y1 then true else !y2 then
  some 8
 else
  some 0
def XL(zB:zm×zh×Bool->Option Bool)(x:zm×zh×zJ):Option Bool:=
 za (zB ((⟨x.1.lead,x.1.parts,x.1.combs⟩:zm),x.2.1,x.2.2.kind==14)) fun y1=>
 some (!y1)
def wL(zB:zm×zh×Bool->Option Bool)(x:List zm×zh×zJ):Option Int:=
 zU (S:=Int) (X:=Unit) (fun s1=>
   bif decide (s1<(x.1.length:Int))then
    za (geti x.1 s1) fun y2=>
    za (XL zB ((⟨y2.lead,y2.parts,y2.combs⟩:zm),x.2.1,(⟨x.2.2.kind,x.2.2.name,x.2.2.op,x.2.2.value,x.2.2.fold,x.2.2.anb,x.2.2.of_,x.2.2.list⟩:zJ))) fun y3=>
    bif y3 then
     some (.ret s1)
    else
     some (.again (w64 (s1+1)))
   else
    some (.out ())) 0 fun o4=>
 some (-1)
def qC(zB:zm×zh×Bool->Option Bool)(x:List zm×zh×zJ):Option Bool:=
 za (wL zB (x.1,x.2.1,(⟨x.2.2.kind,x.2.2.name,x.2.2.op,x.2.2.value,x.2.2.fold,x.2.2.anb,x.2.2.of_,x.2.2.list⟩:zJ))) fun y1=>
 some (decide (y1>=0))
def Xz(zB:zm×zh×Bool->Option Bool)(x:zJ×zh):Option Bool:=
 za (yF (⟨x.1.kind,x.1.name,x.1.op,x.1.value,x.1.fold,x.1.anb,x.1.of_,x.1.list⟩:zJ)) fun y1=>
 Zi (X:=Unit) (
   bif y1.1 then
    za (QM (x.2,x.1.kind)) fun y2=>
    za (zF (!(bif !y2.2 then true else bif !y1.2 then(x.1.list.length:Int)==0 else false)) (qC zB (x.1.list,y2.1,(⟨x.1.kind,x.1.name,x.1.op,x.1.value,x.1.fold,x.1.anb,x.1.of_,x.1.list⟩:zJ))) (default:Bool)) fun y3=>
    bif bif bif !y2.2 then true else bif !y1.2 then(x.1.list.length:Int)==0 else false then true else y3 then
     some (.ret false)
    else
     some (.out ())
   else
    bif decide ((x.1.list.length:Int)>0)then
     some (.ret false)
    else
     some (.out ())) fun j4=>
 bif bif bif !(x.1.kind==3)then bif bif x.1.op != 0 then true else !(x.1.value==[])then true else x.1.fold else false then true else bif !(bif x.1.kind==9 then true else x.1.kind==10)then bif x.1.of_ then true else !(x.1.anb.a==0&&(x.1.anb.b==0&&true))else false then
  some false
 else
  Zi (X:=Bool) (
    bif x.1.kind==1 then
     some (.out (x.1.kind==1))
    else
     some (.out (x.1.kind==2))) fun j5=>
  bif j5 then
   za (Sv x.1.name) fun y6=>
   some y6
  else
   bif x.1.kind==3 then
    za (Jv x.1.name) fun y7=>
    za (zF (bif y7 then decide (x.1.op<=6)else false) (xu (x.1.value,400)) (default:Bool)) fun y8=>
    some (bif bif bif y7 then decide (x.1.op<=6)else false then !y8 else false then bif x.1.op != 0 then true else bif x.1.value==[]then !x.1.fold else false else false)
   else
    za (zF (!(!(bif x.1.kind==9 then true else x.1.kind==10))&&(bif bif x.1.name==[]then decide (x.1.kind>=4)else false then decide (x.1.kind<=14)else false)) (Vu x.1.anb) (default:Int)) fun y9=>
    some (bif bif bif x.1.name==[]then decide (x.1.kind>=4)else false then decide (x.1.kind<=14)else false then bif !(bif x.1.kind==9 then true else x.1.kind==10)then true else y9==0 else false)
def Tv(zB:zm×zh×Bool->Option Bool)(x:zQ×zh):Option Bool:=
 za (zF (bif !(x.1.tag==[])then !(x.1.tag==[42])else false) (Jv x.1.tag) (default:Bool)) fun y1=>
 bif bif bif bif !(x.1.tag==[])then !(x.1.tag==[42])else false then !y1 else false then true else decide ((x.1.simples.length:Int)>64)then
  some false
 else
  zU (S:=Int) (X:=Unit) (fun s2=>
    bif decide (s2<(x.1.simples.length:Int))then
     za (geti x.1.simples s2) fun y3=>
     za (Xz zB ((⟨y3.kind,y3.name,y3.op,y3.value,y3.fold,y3.anb,y3.of_,y3.list⟩:zJ),x.2)) fun y4=>
     bif !y4 then
      some (.ret false)
     else
      some (.again (w64 (s2+1)))
    else
     some (.out ())) 0 fun o5=>
  some (bif !(x.1.tag==[])then true else decide ((x.1.simples.length:Int)>0))
def RL(zB:zm×zh×Bool->Option Bool)(x:zQ×zh):Option Bool:=
 za (Tv zB ((⟨x.1.tag,x.1.simples⟩:zQ),x.2)) fun y1=>
 some (!y1)
def IM(zB:zm×zh×Bool->Option Bool)(x:List zQ×zh):Option Int:=
 zU (S:=Int) (X:=Unit) (fun s1=>
   bif decide (s1<(x.1.length:Int))then
    za (geti x.1 s1) fun y2=>
    za (RL zB ((⟨y2.tag,y2.simples⟩:zQ),x.2)) fun y3=>
    bif y3 then
     some (.ret s1)
    else
     some (.again (w64 (s1+1)))
   else
    some (.out ())) 0 fun o4=>
 some (-1)
def qJ(zB:zm×zh×Bool->Option Bool)(x:List zQ×zh):Option Bool:=
 za (IM zB (x.1,x.2)) fun y1=>
 some (decide (y1>=0))
def lG(zB:zm×zh×Bool->Option Bool)(x:zm×zh×Bool):Option Bool:=
 bif bif bif bif !(x.2.2==(x.1.lead != 0))then true else decide (x.1.lead>4)then true else w64 ((x.1.combs.length:Int)+1) != (x.1.parts.length:Int)then true else decide ((x.1.parts.length:Int)>64)then
  some false
 else
  zU (S:=Int) (X:=Unit) (fun s1=>
    bif decide (s1<(x.1.combs.length:Int))then
     za (geti x.1.combs s1) fun y2=>
     bif bif decide ((y2.toNat:Int)<1)then true else decide ((y2.toNat:Int)>4)then
      some (.ret false)
     else
      some (.again (w64 (s1+1)))
    else
     some (.out ())) 0 fun o3=>
  za (qJ zB (x.1.parts,x.2.1)) fun y4=>
  some (!y4)
def zB:zm×zh×Bool->Option Bool:=recE (lG)
def TL(x:zm):Option Bool:=
 za (zB ((⟨x.lead,x.parts,x.combs⟩:zm),(⟨0,false⟩:zh),false)) fun y1=>
 some (!y1)
def LM(x:List zm):Option Int:=
 zU (S:=Int) (X:=Unit) (fun s1=>
   bif decide (s1<(x.length:Int))then
    za (geti x s1) fun y2=>
    za (TL (⟨y2.lead,y2.parts,y2.combs⟩:zm)) fun y3=>
    bif y3 then
     some (.ret s1)
    else
     some (.again (w64 (s1+1)))
   else
    some (.out ())) 0 fun o4=>
 some (-1)
def qU(x:List zm):Option Bool:=
 za (LM x) fun y1=>
 some (decide (y1>=0))
def mG(Qu:List zm->Option Int)(x:List zm):Option Int:=
 zU (S:=Int×Int) (X:=Int) (fun s1=>
   bif decide (s1.2<(x.length:Int))then
    za (geti x s1.2) fun y2=>
    zU (S:=Int×Int) (X:=Int) (fun s3=>
      bif decide (s3.2<(y2.parts.length:Int))then
       za (geti y2.parts s3.2) fun y4=>
       zU (S:=Int×Int) (X:=Int) (fun s5=>
         bif decide (s5.2<(y4.simples.length:Int))then
          za (geti y4.simples s5.2) fun y6=>
          za (Qu y6.list) fun y7=>
          some (.again (w64 (s5.1+y7),w64 (s5.2+1)))
         else
          some (.out s5.1)) (s3.1,0) fun o8=>
       some (.again (o8,w64 (s3.2+1)))
      else
       some (.out s3.1)) (s1.1,0) fun o9=>
    some (.again (o9,w64 (s1.2+1)))
   else
    some (.out s1.1)) ((x.length:Int),0) fun o10=>
 some o10
def Qu:List zm->Option Int:=recE (mG)
def BG(x:List zm):Option Int:=
 za (zF (!((x.length:Int)==0)) (qU x) (default:Bool)) fun y1=>
 bif bif (x.length:Int)==0 then true else y1 then
  some 8
 else
  za (Qu x) fun y2=>
  bif decide (y2>64)then
   some 4
  else
   some 0
def gu(x:zu):Option Bool:=
 some (bif bif bif bif bif bif x.kind==0 then x.name==[]else false then x.num==0 else false then(x.list.length:Int)==0 else false then x.decl.name==[]else false then(x.decl.value.length:Int)==0 else false then !x.decl.important else false)
def Fv(x:Int):Option Int:=
 bif x==2 then
  some 22
 else
  Zi (X:=Bool) (
    bif x==19 then
     some (.out (x==19))
    else
     bif x==21 then
      some (.out (x==21))
     else
      some (.out (x==23))) fun j1=>
  bif j1 then
   some (wu8 (x+1))
  else
   some 0
def WE(jl:List zb×Int->Option ZH)(x:List zb×Int):Option ZH:=
 zU (S:=Int×ZH) (X:=ZH) (fun s1=>
   bif decide (s1.1<(x.1.length:Int))then
    Zi (X:=Int×ZH) (
      za (geti x.1 s1.1) fun y2=>
      za (Fv y2.token.kind) fun y3=>
      Zi (X:=ZH) (
        bif bif bif x.2 != 0 then y2.token.kind==x.2 else false then true else bif y3==0 then decide ((y2.list.length:Int)>0)else false then
         some (.out (⟨s1.2.depth,w64 (s1.2.tokens+1),true⟩:ZH))
        else
         some (.out (⟨s1.2.depth,w64 (s1.2.tokens+1),s1.2.bad⟩:ZH))) fun j4=>
      bif y3==0 then
       some (.out (s1.1,j4))
      else
       za (jl (y2.list,y3)) fun y5=>
       some (.out (s1.1,(⟨if w64 (y5.depth+1)>j4.depth then w64 (y5.depth+1)else j4.depth,w64 (w64 (j4.tokens+y5.tokens)+1),bif j4.bad then true else y5.bad⟩:ZH)))) fun j6=>
    some (.again (w64 (j6.1+1),j6.2))
   else
    some (.out s1.2)) (0,(⟨0,0,false⟩:ZH)) fun o7=>
 some o7
def jl:List zb×Int->Option ZH:=recE (WE)
def Dm(x:List zb):Option Int:=
 za (jl (x,0)) fun y1=>
 bif decide (y1.depth>16)then
  some 20
 else
  bif decide (y1.tokens>1500)then
   some 4
  else
   bif y1.bad then
    some 8
   else
    some 0
def ko(x:List zb):Option (Int×Int):=
 za (Dm x) fun y1=>
 bif y1 != 0 then
  some (0,y1)
 else
  za (jl (x,0)) fun y2=>
  some (y2.depth,0)
def rF(Gn:List zb×List zg->Option (List zg))(x:List zb×List zg):Option (List zg):=
 zU (S:=Int×List zg) (X:=List zg) (fun s1=>
   bif decide (s1.1<(x.1.length:Int))then
    Zi (X:=Int×List zg) (
      za (geti x.1 s1.1) fun y2=>
      need (ZB s1.2.length 1 56)<|
      za (Fv y2.token.kind) fun y3=>
      bif y3 != 0 then
       za (Gn (y2.list,s1.2++[y2.token])) fun y4=>
       need (ZB y4.length 1 56)<|
       some (.out (s1.1,y4++[(⟨y3,[],0,[],false⟩:zg)]))
      else
       some (.out (s1.1,s1.2++[y2.token]))) fun j5=>
    some (.again (w64 (j5.1+1),j5.2))
   else
    some (.out s1.2)) (0,x.2) fun o6=>
 some o6
def Gn:List zb×List zg->Option (List zg):=recE (rF)
def XE(x:List zb):Option (List zg):=
 zU (S:=Int×List zg) (X:=List zg) (fun s1=>
   bif decide (s1.1<(x.length:Int))then
    Zi (X:=Int×List zg) (
      za (geti x s1.1) fun y2=>
      need (ZB s1.2.length 1 56)<|
      za (Fv y2.token.kind) fun y3=>
      bif y3 != 0 then
       za (Gn (y2.list,s1.2++[y2.token])) fun y4=>
       need (ZB y4.length 1 56)<|
       some (.out (s1.1,y4++[(⟨y3,[],0,[],false⟩:zg)]))
      else
       some (.out (s1.1,s1.2++[y2.token]))) fun j5=>
    some (.again (w64 (j5.1+1),j5.2))
   else
    some (.out s1.2)) (0,[]) fun o6=>
 some o6
def Rx(x:List zb):Option (List zg×Int):=
 za (Dm x) fun y1=>
 bif y1 != 0 then
  some ([],y1)
 else
  za (XE x) fun y2=>
  some (y2,0)
def stringslite_HasPrefix(x:Str×Str):Option Bool:=
 need (decide (0<=(x.2.length:Int))&&decide ((x.2.length:Int)<=(x.1.length:Int))|| !(decide ((x.1.length:Int)>=(x.2.length:Int))))<|
 some (bif decide ((x.1.length:Int)>=(x.2.length:Int))then List.take x.2.length x.1==x.2 else false)
def strings_HasPrefix(x:Str×Str):Option Bool:=
 za (stringslite_HasPrefix (x.1,x.2)) fun y1=>
 some y1
def wD(x:Str):Option Bool:=
 za (zF (!(bif x==[]then true else decide ((x.length:Int)>64))) (strings_IndexByte (x,0)) (default:Int)) fun y1=>
 bif bif bif x==[]then true else decide ((x.length:Int)>64)then true else decide (y1>=0)then
  some false
 else
  za (strings_HasPrefix (x,[45,45])) fun y2=>
  bif y2 then
   some (!(x==[45,45]))
  else
   za (ZP x) fun y3=>
   some (x==y3)
def stringslite_TrimPrefix(x:Str×Str):Option Str:=
 za (stringslite_HasPrefix (x.1,x.2)) fun y1=>
 bif y1 then
  need (decide (0<=(x.2.length:Int))&&decide ((x.2.length:Int)<=(x.1.length:Int)))<|
  some (List.drop x.2.length x.1)
 else
  some x.1
def strings_TrimPrefix(x:Str×Str):Option Str:=
 za (stringslite_TrimPrefix (x.1,x.2)) fun y1=>
 some y1
def eu(x:Int):Option Bool:=
 some (bif decide (48<=x)then decide (x<=57)else false)
def RF(x:Str):Option Bool:=
 za (strings_TrimPrefix (x,[45])) fun y1=>
 za (zF (!(y1==[])) (geti y1 0) 0) fun y2=>
 za (zF (!(y1==[])) (eu (y2.toNat:Int)) (default:Bool)) fun y3=>
 some (bif !(y1==[])then y3 else false)
def iQ(x:Int):Option Bool:=
 some (bif bif decide (97<=ibOr IntKind.u8 x 32)then decide (ibOr IntKind.u8 x 32<=122)else false then decide (x<128)else false)
def vD(x:Int):Option Bool:=
 za (iQ x) fun y1=>
 za (zF (!y1) (eu x) (default:Bool)) fun y2=>
 some (bif bif bif bif y1 then true else y2 then true else x==95 then true else x==45 then true else decide (x>=128))
def strings_Contains(x:Str×Str):Option Bool:=
 za (Vm (x.1,x.2)) fun y1=>
 some (decide (y1>=0))
def bD(x:zg):Option Bool:=
 need (Ui x.text.length x.unit.length)<|
 za (strings_IndexByte (x.text++x.unit,0)) fun y1=>
 Zi (X:=Bool×Bool×Bool×Bool×Bool) (
   Zi (X:=Bool×Bool×Bool×Bool×Bool×Bool) (
     bif x.kind==1 then
      some (.out (false,false,false,false,decide (y1<0),x.kind==1))
     else
      bif x.kind==2 then
       some (.out (false,false,false,false,decide (y1<0),x.kind==2))
      else
       some (.out (false,false,false,false,decide (y1<0),x.kind==3))) fun j2=>
   bif j2.2.2.2.2.2 then
    some (.out (true,j2.2.1,j2.2.2.1,j2.2.2.2.1,bif j2.2.2.2.2.1 then !(x.text==[])else false))
   else
    bif x.kind==4 then
     za (zF (!x.flag&&(bif j2.2.2.2.2.1 then !(x.text==[])else false)) (RF x.text) (default:Bool)) fun y3=>
     za (zF (y3&&(!x.flag&&(bif j2.2.2.2.2.1 then !(x.text==[])else false))) (strings_HasPrefix (x.text,[45,45])) (default:Bool)) fun y4=>
     some (.out (true,j2.2.1,j2.2.2.1,true,bif bif j2.2.2.2.2.1 then !(x.text==[])else false then bif bif x.flag then true else bif y3 then !y4 else false then true else x.text==[45]else false))
    else
     Zi (X:=Bool×Bool×Bool×Bool×Bool×Bool) (
       bif x.kind==5 then
        some (.out (j2.1,j2.2.1,j2.2.2.1,j2.2.2.2.1,j2.2.2.2.2.1,x.kind==5))
       else
        some (.out (j2.1,j2.2.1,j2.2.2.1,j2.2.2.2.1,j2.2.2.2.2.1,x.kind==7))) fun j5=>
     bif j5.2.2.2.2.2 then
      some (.out (true,j5.2.1,j5.2.2.1,j5.2.2.2.1,j5.2.2.2.2.1))
     else
      bif x.kind==9 then
       za (zF (bif j5.2.2.2.2.1 then(x.text.length:Int)==1 else false) (geti x.text 0) 0) fun y6=>
       za (zF (bif j5.2.2.2.2.1 then(x.text.length:Int)==1 else false) (vD (y6.toNat:Int)) (default:Bool)) fun y7=>
       za (zF (bif bif bif j5.2.2.2.2.1 then(x.text.length:Int)==1 else false then !y7 else false then true else x.text==[45]) (strings_Contains ([32,9,10,12,13,34,39,58,59,44,91,93,40,41,123,125],x.text)) (default:Bool)) fun y8=>
       some (.out (true,j5.2.1,j5.2.2.1,j5.2.2.2.1,bif bif bif bif j5.2.2.2.2.1 then(x.text.length:Int)==1 else false then !y7 else false then true else x.text==[45]then !y8 else false))
      else
       Zi (X:=Bool×Bool×Bool×Bool×Bool) (
         bif x.kind==10 then
          some (.out (j5.2.1,j5.2.2.1,j5.2.2.2.1,j5.2.2.2.2.1,x.kind==10))
         else
          bif x.kind==11 then
           some (.out (j5.2.1,j5.2.2.1,j5.2.2.2.1,j5.2.2.2.2.1,x.kind==11))
          else
           some (.out (j5.2.1,j5.2.2.1,j5.2.2.2.1,j5.2.2.2.2.1,x.kind==12))) fun j9=>
       bif j9.2.2.2.2 then
        some (.out (j5.1,x.kind==12,true,x.kind != 11,bif bif bif bif j9.2.2.2.1 then decide (x.num>=(-1000000000000))else false then decide (x.num<=1000000000000)else false then bif !x.flag then true else Int.tmod x.num 1000==0 else false then bif !(x.kind==12)then true else !(x.unit==[])else false))
       else
        some (.out (j5.1,j9.1,j9.2.1,j9.2.2.1,bif decide (x.kind>=13)then decide (x.kind<=24)else false))) fun j10=>
 some (bif bif bif bif j10.2.2.2.2 then bif j10.1 then true else x.text==[]else false then bif j10.2.1 then true else x.unit==[]else false then bif j10.2.2.1 then true else x.num==0 else false then bif j10.2.2.2.1 then true else !x.flag else false)
def Dp(x:(Int×Int)×List zg):Option Bool:=
 za (zF (decide (x.1.1<(x.2.length:Int))) (geti x.2 x.1.1) (default:zg)) fun y1=>
 some (bif decide (x.1.1<(x.2.length:Int))then y1.kind==x.1.2 else false)
def QI(x:Str×Str):Option Bool:=
 za (ZP x.1) fun y1=>
 za (ZP x.2) fun y2=>
 some (y1==y2)
def uD(x:List zg):Option Int:=
 za (geti x 0) fun y1=>
 bif bif y1.kind==9 then y1.text==[92]else false then
  za (Dp ((1,13),x)) fun y2=>
  bif !y2 then
   some 0
  else
   some 2
 else
  za (zF (y1.kind==2) (QI (y1.text,[117,114,108])) (default:Bool)) fun y3=>
  bif bif y1.kind==2 then y3 else false then
   Zi (X:=Int) (
     za (Dp ((1,13),x)) fun y4=>
     bif y4 then
      some (.out 2)
     else
      some (.out 1)) fun j5=>
   za (Dp ((j5,5),x)) fun y6=>
   bif !y6 then
    some 0
   else
    some (w64 (j5+1))
  else
   some 1
def Py(x:List zg):Option Int:=
 bif decide ((x.length:Int)>1500)then
  some 4
 else
  zU (S:=Int) (X:=Unit) (fun s1=>
    bif decide (s1<(x.length:Int))then
     za (geti x s1) fun y2=>
     za (bD y2) fun y3=>
     need (decide (0<=s1)&&decide (s1<=(x.length:Int))|| !(!(!y3)))<|
     za (zF (!(!y3)) (uD (List.drop s1.toNat x)) (default:Int)) fun y4=>
     bif bif !y3 then true else y4==0 then
      some (.ret 8)
     else
      some (.again (w64 (s1+1)))
    else
     some (.out ())) 0 fun o5=>
  some 0
def QH(x:zb×Int):Option Bool:=
 some (x.1.token.kind==x.2)
def dz(Zr:List zb->Option Bool)(x:zb):Option Bool:=
 za (QH ((⟨x.token,x.list⟩:zb),20)) fun y1=>
 za (zF (!y1) (QH ((⟨x.token,x.list⟩:zb),22)) (default:Bool)) fun y2=>
 za (zF (!(bif y1 then true else y2)) (QH ((⟨x.token,x.list⟩:zb),24)) (default:Bool)) fun y3=>
 za (zF (!(bif bif y1 then true else y2 then true else y3)) (Zr x.list) (default:Bool)) fun y4=>
 some (bif bif bif y1 then true else y2 then true else y3 then true else y4)
def jL(Zr:List zb->Option Bool)(x:List zb):Option Int:=
 zU (S:=Int) (X:=Unit) (fun s1=>
   bif decide (s1<(x.length:Int))then
    za (geti x s1) fun y2=>
    za (dz Zr (⟨y2.token,y2.list⟩:zb)) fun y3=>
    bif y3 then
     some (.ret s1)
    else
     some (.again (w64 (s1+1)))
   else
    some (.out ())) 0 fun o4=>
 some (-1)
def JM(Zr:List zb->Option Bool)(x:List zb):Option Bool:=
 za (jL Zr x) fun y1=>
 some (decide (y1>=0))
def PG(Zr:List zb->Option Bool)(x:List zb):Option Bool:=
 za (JM Zr x) fun y1=>
 some y1
def Zr:List zb->Option Bool:=recE (PG)
def jq(x:zb):Option Bool:=
 za (QH ((⟨x.token,x.list⟩:zb),9)) fun y1=>
 some (bif y1 then x.token.text==[33]else false)
def SF(x:zb):Option Bool:=
 za (QH ((⟨x.token,x.list⟩:zb),17)) fun y1=>
 za (zF (!y1) (jq (⟨x.token,x.list⟩:zb)) (default:Bool)) fun y2=>
 some (bif y1 then true else y2)
def KM(x:List zb):Option Int:=
 zU (S:=Int) (X:=Unit) (fun s1=>
   bif decide (s1<(x.length:Int))then
    za (geti x s1) fun y2=>
    za (SF (⟨y2.token,y2.list⟩:zb)) fun y3=>
    bif y3 then
     some (.ret s1)
    else
     some (.again (w64 (s1+1)))
   else
    some (.out ())) 0 fun o4=>
 some (-1)
def qV(x:List zb):Option Bool:=
 za (KM x) fun y1=>
 some (decide (y1>=0))
def Kn(x:Zu):Option Int:=
 za (Rx x.value) fun y1=>
 za (wD x.name) fun y2=>
 za (zF (!(bif !y2 then true else y1.2 != 0)) (Py y1.1) (default:Int)) fun y3=>
 za (zF (!(bif bif !y2 then true else y1.2 != 0 then true else y3 != 0)) (Zr x.value) (default:Bool)) fun y4=>
 bif bif bif bif !y2 then true else y1.2 != 0 then true else y3 != 0 then true else y4 then
  some 8
 else
  za (qV x.value) fun y5=>
  bif y5 then
   some 8
  else
   za (zF ((x.value.length:Int)==0) (strings_HasPrefix (x.name,[45,45])) (default:Bool)) fun y6=>
   za (zF (decide ((x.value.length:Int)>0)&& !(bif (x.value.length:Int)==0 then !y6 else false)) (geti x.value 0) (default:zb)) fun y7=>
   za (zF (decide ((x.value.length:Int)>0)&& !(bif (x.value.length:Int)==0 then !y6 else false)) (QH ((⟨y7.token,y7.list⟩:zb),13)) (default:Bool)) fun y8=>
   za (zF (!y8&&(decide ((x.value.length:Int)>0)&& !(bif (x.value.length:Int)==0 then !y6 else false))) (geti x.value (w64 ((x.value.length:Int) - 1))) (default:zb)) fun y9=>
   za (zF (!y8&&(decide ((x.value.length:Int)>0)&& !(bif (x.value.length:Int)==0 then !y6 else false))) (QH ((⟨y9.token,y9.list⟩:zb),13)) (default:Bool)) fun y10=>
   bif bif bif (x.value.length:Int)==0 then !y6 else false then true else bif decide ((x.value.length:Int)>0)then bif y8 then true else y10 else false then
    some 8
   else
    some 0
def wF(En:zu->Option Int)(x:zu):Option Int:=
 Zi (X:=Int) (
   bif bif x.kind==5 then true else x.kind==6 then
    some (.out 1)
   else
    some (.out 0)) fun j1=>
 zU (S:=Int×Int) (X:=Int) (fun s2=>
   bif decide (s2.2<(x.list.length:Int))then
    za (geti x.list s2.2) fun y3=>
    za (En (⟨y3.kind,y3.name,y3.num,y3.decl,y3.list⟩:zu)) fun y4=>
    some (.again (if y4>s2.1 then y4 else s2.1,w64 (s2.2+1)))
   else
    some (.out s2.1)) (j1,0) fun o5=>
 some o5
def En:zu->Option Int:=recE (wF)
def ll(x:zu):Option Bool:=
 some (bif bif bif bif x.name==[]then x.num==0 else false then x.decl.name==[]else false then(x.decl.value.length:Int)==0 else false then !x.decl.important else false)
def slices_Index_string(x:List Str×Str):Option Int:=
 zU (S:=Int) (X:=Unit) (fun s1=>
   bif decide (s1<(x.1.length:Int))then
    za (geti x.1 s1) fun y2=>
    bif x.2==y2 then
     some (.ret s1)
    else
     some (.again (w64 (s1+1)))
   else
    some (.out ())) 0 fun o3=>
 some (-1)
def slices_Contains_string(x:List Str×Str):Option Bool:=
 za (slices_Index_string (x.1,x.2)) fun y1=>
 some (decide (y1>=0))
def Dv(x:Str):Option Bool:=
 za (slices_Contains_string ([[],[97,110,100],[111,114],[110,111,116],[111,110,108,121]],x)) fun y1=>
 za (zF (bif !y1 then decide ((x.length:Int)<=64)else false) (ZP x) (default:Str)) fun y2=>
 za (zF (bif bif !y1 then decide ((x.length:Int)<=64)else false then y2==x else false) (strings_IndexByte (x,0)) (default:Int)) fun y3=>
 some (bif bif bif !y1 then decide ((x.length:Int)<=64)else false then y2==x else false then decide (y3<0)else false)
def gK(x:List Int):Option Int:=
 zU (S:=Int) (X:=Unit) (fun s1=>
   bif decide (s1<(x.length:Int))then
    za (geti x s1) fun y2=>
    bif bif decide (y2<(-1000000000000))then true else decide (y2>1000000000000)then
     some (.ret 8)
    else
     some (.again (w64 (s1+1)))
   else
    some (.out ())) 0 fun o3=>
 some 0
def Gv(x:Int):Option Int:=
 za (gK [x]) fun y1=>
 some y1
def Ty(x:zu):Option Bool:=
 za (zF (!(x.kind != 1)) (ll (⟨x.kind,x.name,x.num,x.decl,x.list⟩:zu)) (default:Bool)) fun y1=>
 bif bif bif x.kind != 1 then true else !y1 then true else(x.list.length:Int)==0 then
  some false
 else
  zU (S:=Int) (X:=Unit) (fun s2=>
    bif decide (s2<(x.list.length:Int))then
     Zi (X:=Int) (
       za (geti x.list s2) fun y3=>
       za (zF (!(decide ((y3.list.length:Int)>0))) (ll (⟨y3.kind,[],0,y3.decl,y3.list⟩:zu)) (default:Bool)) fun y4=>
       bif bif decide ((y3.list.length:Int)>0)then true else !y4 then
        some (.ret (LO.ret false))
       else
        bif y3.kind==4 then
         za (zF (!(bif decide (s2>0)then true else y3.num != 0)) (Dv y3.name) (default:Bool)) fun y5=>
         bif bif bif decide (s2>0)then true else y3.num != 0 then true else !y5 then
          some (.ret (LO.ret false))
         else
          some (.out s2)
        else
         Zi (X:=Bool) (
           bif y3.kind==5 then
            some (.out (y3.kind==5))
           else
            some (.out (y3.kind==6))) fun j6=>
         bif j6 then
          za (zF (!(bif !(y3.name==[])then true else decide (y3.num<0))) (Gv y3.num) (default:Int)) fun y7=>
          bif bif bif !(y3.name==[])then true else decide (y3.num<0)then true else y7 != 0 then
           some (.ret (LO.ret false))
          else
           some (.out s2)
         else
          some (.ret (LO.ret false))) fun j8=>
     some (.again (w64 (j8+1)))
    else
     some (.out ())) 0 fun o9=>
  some true
def xD(x:zu):Option Bool:=
 za (zF (decide ((x.list.length:Int)>0)) (geti x.list 0) (default:zu)) fun y1=>
 some (bif decide ((x.list.length:Int)>0)then y1.kind==4 else false)
def OD(x:zu):Option Bool:=
 bif x.kind==3 then
  za (ll (⟨x.kind,x.name,x.num,x.decl,x.list⟩:zu)) fun y1=>
  za (zF (bif y1 then(x.list.length:Int)==1 else false) (geti x.list 0) (default:zu)) fun y2=>
  za (zF (bif y1 then(x.list.length:Int)==1 else false) (Ty (⟨y2.kind,y2.name,y2.num,y2.decl,y2.list⟩:zu)) (default:Bool)) fun y3=>
  za (zF (bif bif y1 then(x.list.length:Int)==1 else false then y3 else false) (geti x.list 0) (default:zu)) fun y4=>
  za (zF (bif bif y1 then(x.list.length:Int)==1 else false then y3 else false) (xD (⟨y4.kind,y4.name,y4.num,y4.decl,y4.list⟩:zu)) (default:Bool)) fun y5=>
  some (bif bif bif y1 then(x.list.length:Int)==1 else false then y3 else false then y5 else false)
 else
  za (Ty (⟨x.kind,x.name,x.num,x.decl,x.list⟩:zu)) fun y6=>
  some y6
def RH(x:zu):Option Bool:=
 za (OD (⟨x.kind,x.name,x.num,x.decl,x.list⟩:zu)) fun y1=>
 some (!y1)
def tL(x:List zu):Option Int:=
 zU (S:=Int) (X:=Unit) (fun s1=>
   bif decide (s1<(x.length:Int))then
    za (geti x s1) fun y2=>
    za (RH (⟨y2.kind,y2.name,y2.num,y2.decl,y2.list⟩:zu)) fun y3=>
    bif y3 then
     some (.ret s1)
    else
     some (.again (w64 (s1+1)))
   else
    some (.out ())) 0 fun o4=>
 some (-1)
def QE(x:List zu):Option Bool:=
 za (tL x) fun y1=>
 some (decide (y1>=0))
def fG(x:zu):Option Int:=
 za (zF (bif bif x.kind==2 then decide ((x.list.length:Int)>0)else false then decide ((x.list.length:Int)<=64)else false) (QE x.list) (default:Bool)) fun y1=>
 za (ll (⟨x.kind,x.name,x.num,x.decl,x.list⟩:zu)) fun y2=>
 bif bif !y2 then true else bif !(bif x.kind==1 then(x.list.length:Int)==0 else false)then !(bif bif bif x.kind==2 then decide ((x.list.length:Int)>0)else false then decide ((x.list.length:Int)<=64)else false then !y1 else false)else false then
  some 8
 else
  some 0
def tu(ol:zu->Option Int)(x:zu):Option Int:=
 bif x.kind==7 then
  za (ko x.decl.value) fun y1=>
  some (w64 (y1.1+1))
 else
  bif x.kind==8 then
   some 1
  else
   zU (S:=Int×Int) (X:=Int) (fun s2=>
     bif decide (s2.2<(x.list.length:Int))then
      za (geti x.list s2.2) fun y3=>
      za (ol (⟨y3.kind,y3.name,y3.num,y3.decl,y3.list⟩:zu)) fun y4=>
      Zi (X:=Int×Int) (
        bif bif y3.kind != 7 then y3.kind != 8 else false then
         some (.out (s2.1,w64 (y4+1)))
        else
         some (.out (s2.1,y4))) fun j5=>
      some (.again (if j5.2>j5.1 then j5.2 else j5.1,w64 (s2.2+1)))
     else
      some (.out s2.1)) (0,0) fun o6=>
   some o6
def ol:zu->Option Int:=recE (tu)
def ND(x:zu):Option Bool:=
 some (bif x.kind==7 then true else x.kind==8)
def Ev(Pk:zu×Int->Option ((Int×Bool)×Int))(x:zu×Int):Option ((Int×Bool)×Int):=
 bif decide (w64 (x.2+1)>1500)then
  some ((0,false),w64 (x.2+1))
 else
  bif x.1.kind==7 then
   za (ko x.1.decl.value) fun y1=>
   za (zF (bif bif bif (x.1.list.length:Int)==0 then x.1.name==[]else false then x.1.num==0 else false then y1.2==0 else false) (Kn x.1.decl) (default:Int)) fun y2=>
   some ((w64 (y1.1+1),bif bif bif bif (x.1.list.length:Int)==0 then x.1.name==[]else false then x.1.num==0 else false then y1.2==0 else false then y2==0 else false),w64 (x.2+1))
  else
   bif x.1.kind==8 then
    za (zF ((x.1.list.length:Int)==0) (ll (⟨x.1.kind,x.1.name,x.1.num,x.1.decl,x.1.list⟩:zu)) (default:Bool)) fun y3=>
    some ((1,bif (x.1.list.length:Int)==0 then y3 else false),w64 (x.2+1))
   else
    Zi (X:=Bool) (
      bif x.1.kind==3 then
       some (.out (x.1.kind==3))
      else
       bif x.1.kind==1 then
        some (.out (x.1.kind==1))
       else
        some (.out (x.1.kind==2))) fun j4=>
    bif j4 then
     za (ll (⟨x.1.kind,x.1.name,x.1.num,x.1.decl,x.1.list⟩:zu)) fun y5=>
     bif bif bif !y5 then true else bif x.1.kind==3 then(x.1.list.length:Int) != 1 else false then true else bif x.1.kind != 3 then decide ((x.1.list.length:Int)<2)else false then
      some ((0,false),w64 (x.2+1))
     else
      zU (S:=(Int×Int)×Int) (X:=Int×Int) (fun s6=>
        bif decide (s6.1.2<(x.1.list.length:Int))then
         za (geti x.1.list s6.1.2) fun y7=>
         za (Pk ((⟨y7.kind,y7.name,y7.num,y7.decl,y7.list⟩:zu),s6.2)) fun y8=>
         bif !y8.1.2 then
          some (.ret ((0,false),y8.2))
         else
          Zi (X:=Int×Int) (
            za (ND (⟨y7.kind,y7.name,y7.num,y7.decl,y7.list⟩:zu)) fun y9=>
            bif !y9 then
             some (.out (s6.1.1,w64 (y8.1.1+1)))
            else
             some (.out (s6.1.1,y8.1.1))) fun j10=>
          some (.again ((if j10.2>j10.1 then j10.2 else j10.1,w64 (s6.1.2+1)),y8.2))
        else
         some (.out (s6.1.1,s6.2))) ((0,0),w64 (x.2+1)) fun o11=>
      some ((o11.1,true),o11.2)
    else
     some ((0,false),w64 (x.2+1))
def Pk:zu×Int->Option ((Int×Bool)×Int):=recE (Ev)
def uz(x:zu):Option Int:=
 za (Pk ((⟨x.kind,x.name,x.num,x.decl,x.list⟩:zu),0)) fun y1=>
 bif bif !y1.1.2 then true else decide (y1.1.1>16)then
  some 8
 else
  some 0
def uu(ul:List zN->Option zH)(x:List zN):Option zH:=
 zU (S:=Int×zH) (X:=zH) (fun s1=>
   bif decide (s1.1<(x.length:Int))then
    za (geti x s1.1) fun y2=>
    za (ul y2.rules) fun y3=>
    za (Qe y2.names) fun y4=>
    Zi (X:=(Int×Bool)×zH×zH) (
      bif y2.kind==1 then
       za (Qv y2.selectors) fun y5=>
       za (zF (!(bif y3.bad then true else y4)) (BG y2.selectors) (default:Int)) fun y6=>
       za (zF (!(bif bif bif y3.bad then true else y4 then true else y6 != 0 then true else decide ((y2.decls.length:Int)>32))) (gu (⟨y2.cond.kind,y2.cond.name,y2.cond.num,y2.cond.decl,y2.cond.list⟩:zu)) (default:Bool)) fun y7=>
       zU (S:=(Bool×Int)×zH) (X:=Bool×zH) (fun s8=>
         bif decide (s8.1.2<(y2.decls.length:Int))then
          za (geti y2.decls s8.1.2) fun y9=>
          za (ko y9.value) fun y10=>
          za (zF (!(bif s8.1.1 then true else y10.2 != 0)) (Kn y9) (default:Int)) fun y11=>
          some (.again ((bif bif s8.1.1 then true else y10.2 != 0 then true else y11 != 0,w64 (s8.1.2+1)),(⟨s8.2.rules,if y10.1>s8.2.depth then y10.1 else s8.2.depth,s8.2.bad⟩:zH)))
         else
          some (.out (s8.1.1,s8.2))) ((bif bif bif bif bif y3.bad then true else y4 then true else y6 != 0 then true else decide ((y2.decls.length:Int)>32)then true else !y7 then true else decide (w64 ((y2.names.length:Int)+(y2.rules.length:Int))>0),0),y3) fun o12=>
       some (.out ((y5,o12.1),(⟨w64 (s1.2.rules+w64 (y3.rules+1)),s1.2.depth,s1.2.bad⟩:zH),o12.2))
      else
       bif y2.kind==2 then
        za (En (⟨y2.cond.kind,y2.cond.name,y2.cond.num,y2.cond.decl,y2.cond.list⟩:zu)) fun y13=>
        za (zF (!(bif bif bif y3.bad then true else y4 then true else decide (w64 ((y2.selectors.length:Int)+(y2.decls.length:Int))>0)then true else decide ((y2.names.length:Int)>0))) (fG (⟨y2.cond.kind,y2.cond.name,y2.cond.num,y2.cond.decl,y2.cond.list⟩:zu)) (default:Int)) fun y14=>
        some (.out ((y13,bif bif bif bif y3.bad then true else y4 then true else decide (w64 ((y2.selectors.length:Int)+(y2.decls.length:Int))>0)then true else decide ((y2.names.length:Int)>0)then true else y14 != 0),(⟨w64 (s1.2.rules+w64 (y3.rules+1)),s1.2.depth,s1.2.bad⟩:zH),y3))
       else
        bif y2.kind==3 then
         za (ol (⟨y2.cond.kind,y2.cond.name,y2.cond.num,y2.cond.decl,y2.cond.list⟩:zu)) fun y15=>
         za (zF (!(bif bif bif y3.bad then true else y4 then true else decide (w64 ((y2.selectors.length:Int)+(y2.decls.length:Int))>0)then true else decide ((y2.names.length:Int)>0))) (uz (⟨y2.cond.kind,y2.cond.name,y2.cond.num,y2.cond.decl,y2.cond.list⟩:zu)) (default:Int)) fun y16=>
         some (.out ((y15,bif bif bif bif y3.bad then true else y4 then true else decide (w64 ((y2.selectors.length:Int)+(y2.decls.length:Int))>0)then true else decide ((y2.names.length:Int)>0)then true else y16 != 0),(⟨w64 (s1.2.rules+w64 (y3.rules+1)),s1.2.depth,s1.2.bad⟩:zH),y3))
        else
         bif y2.kind==4 then
          za (zF (!(bif bif bif y3.bad then true else y4 then true else decide (w64 ((y2.selectors.length:Int)+(y2.decls.length:Int))>0)then true else decide ((y2.names.length:Int)>1))) (gu (⟨y2.cond.kind,y2.cond.name,y2.cond.num,y2.cond.decl,y2.cond.list⟩:zu)) (default:Bool)) fun y17=>
          some (.out ((0,bif bif bif bif y3.bad then true else y4 then true else decide (w64 ((y2.selectors.length:Int)+(y2.decls.length:Int))>0)then true else decide ((y2.names.length:Int)>1)then true else !y17),(⟨w64 (s1.2.rules+w64 (y3.rules+1)),s1.2.depth,s1.2.bad⟩:zH),y3))
         else
          bif y2.kind==5 then
           za (zF (!(bif bif bif bif bif y3.bad then true else y4 then true else decide (w64 ((y2.selectors.length:Int)+(y2.decls.length:Int))>0)then true else decide ((y2.names.length:Int)<1)then true else decide ((y2.names.length:Int)>64)then true else decide ((y2.rules.length:Int)>0))) (gu (⟨y2.cond.kind,y2.cond.name,y2.cond.num,y2.cond.decl,y2.cond.list⟩:zu)) (default:Bool)) fun y18=>
           some (.out ((0,bif bif bif bif bif bif y3.bad then true else y4 then true else decide (w64 ((y2.selectors.length:Int)+(y2.decls.length:Int))>0)then true else decide ((y2.names.length:Int)<1)then true else decide ((y2.names.length:Int)>64)then true else decide ((y2.rules.length:Int)>0)then true else !y18),(⟨w64 (s1.2.rules+w64 (y3.rules+1)),s1.2.depth,s1.2.bad⟩:zH),(⟨y3.rules,(-1),y3.bad⟩:zH)))
          else
           some (.out ((0,true),(⟨w64 (s1.2.rules+w64 (y3.rules+1)),s1.2.depth,s1.2.bad⟩:zH),y3))) fun j19=>
    some (.again (w64 (s1.1+1),(⟨j19.2.1.rules,if j19.1.1>(if w64 (j19.2.2.depth+1)>j19.2.1.depth then w64 (j19.2.2.depth+1)else j19.2.1.depth)then j19.1.1 else if w64 (j19.2.2.depth+1)>j19.2.1.depth then w64 (j19.2.2.depth+1)else j19.2.1.depth,bif j19.2.1.bad then true else j19.1.2⟩:zH)))
   else
    some (.out s1.2)) (0,(⟨0,0,false⟩:zH)) fun o20=>
 some o20
def ul:List zN->Option zH:=recE (uu)
def KE(x:List zN):Option Int:=
 za (ul x) fun y1=>
 bif bif bif y1.bad then true else decide (y1.rules>64)then true else decide (y1.depth>16)then
  some 8
 else
  some 0
def gy(x:zbj):Option Int:=
 za (KE x.rules) fun y1=>
 some y1
def Yy(x:ZJ):Option Int:=
 bif bif bif decide ((x.sheets.length:Int)>8)then true else decide (x.next<0)then true else decide (x.next>1000)then
  some 8
 else
  zU (S:=Int×Int) (X:=Unit) (fun s1=>
    bif decide (s1.2<(x.sheets.length:Int))then
     za (geti x.sheets s1.2) fun y2=>
     za (zF (!(bif bif bif bif decide (y2.number<s1.1)then true else decide (y2.number>=x.next)then true else decide (y2.origin<1)then true else decide (y2.origin>3)then true else decide ((y2.site.length:Int)>64))) (gy y2.sheet) (default:Int)) fun y3=>
     bif bif bif bif bif bif decide (y2.number<s1.1)then true else decide (y2.number>=x.next)then true else decide (y2.origin<1)then true else decide (y2.origin>3)then true else decide ((y2.site.length:Int)>64)then true else y3 != 0 then
      some (.ret 8)
     else
      some (.again (w64 (y2.number+1),w64 (s1.2+1)))
    else
     some (.out ())) (0,0) fun o4=>
  some 0
def qp(x:ze):Option ze:=
 zU (S:=ze) (X:=ze) (fun s1=>
   need (decide (0<=s1.at_)&&decide (s1.at_<=(s1.s.length:Int)))<|
   za (strings_HasPrefix (List.drop s1.at_.toNat s1.s,[47,42])) fun y2=>
   bif y2 then
    need (decide (0<=w64 (s1.at_+2))&&decide (w64 (s1.at_+2)<=(s1.s.length:Int)))<|
    za (Vm (List.drop (w64 (s1.at_+2)).toNat s1.s,[42,47])) fun y3=>
    bif decide (y3<0)then
     some (.ret (⟨s1.s,(s1.s.length:Int)⟩:ze))
    else
     some (.again (⟨s1.s,w64 (s1.at_+w64 (y3+4))⟩:ze))
   else
    some (.out s1)) x fun o4=>
 some o4
def zo(x:Int×ze):Option Int:=
 bif decide (w64 (x.2.at_+x.1)<(x.2.s.length:Int))then
  za (geti x.2.s (w64 (x.2.at_+x.1))) fun y1=>
  some (w64 (y1.toNat:Int))
 else
  some (-1)
def Ar(x:Int):Option Bool:=
 some (bif bif x==32 then true else x==9 then true else x==10)
def qb(x:ze):Option ze:=
 zU (S:=ze) (X:=ze) (fun s1=>
   za (zo (0,s1)) fun y2=>
   za (Ar y2) fun y3=>
   bif y3 then
    some (.again (⟨s1.s,w64 (s1.at_+1)⟩:ze))
   else
    some (.out s1)) x fun o4=>
 some o4
def FM(x:Int):Option (List UInt8):=
 bif decide (wu32 x<=2047)then
  za (QN (ibOr IntKind.u8 192 (wu8 (Wh IntKind.i32 x 6)))) fun y1=>
  za (QN (ibOr IntKind.u8 128 (Wi IntKind.u8 (wu8 x) 63))) fun y2=>
  need (ZB 0 2 1)<|
  some [y1,y2]
 else
  Zi (X:=Bool) (
    bif decide (wu32 x<55296)then
     some (.out (decide (wu32 x<55296)))
    else
     some (.out (bif decide (57343<wu32 x)then decide (wu32 x<=65535)else false))) fun j3=>
  bif j3 then
   za (QN (ibOr IntKind.u8 224 (wu8 (Wh IntKind.i32 x 12)))) fun y4=>
   za (QN (ibOr IntKind.u8 128 (Wi IntKind.u8 (wu8 (Wh IntKind.i32 x 6)) 63))) fun y5=>
   za (QN (ibOr IntKind.u8 128 (Wi IntKind.u8 (wu8 x) 63))) fun y6=>
   need (ZB 0 3 1)<|
   some [y4,y5,y6]
  else
   bif bif decide (wu32 x>65535)then decide (wu32 x<=1114111)else false then
    za (QN (ibOr IntKind.u8 240 (wu8 (Wh IntKind.i32 x 18)))) fun y7=>
    za (QN (ibOr IntKind.u8 128 (Wi IntKind.u8 (wu8 (Wh IntKind.i32 x 12)) 63))) fun y8=>
    za (QN (ibOr IntKind.u8 128 (Wi IntKind.u8 (wu8 (Wh IntKind.i32 x 6)) 63))) fun y9=>
    za (QN (ibOr IntKind.u8 128 (Wi IntKind.u8 (wu8 x) 63))) fun y10=>
    need (ZB 0 4 1)<|
    some [y7,y8,y9,y10]
   else
    need (ZB 0 3 1)<|
    some [(239:UInt8),(191:UInt8),(189:UInt8)]
def QY(x:Int):Option (List UInt8):=
 bif decide (wu32 x<=127)then
  za (QN (wu8 x)) fun y1=>
  need (ZB 0 1 1)<|
  some [y1]
 else
  za (FM x) fun y2=>
  some y2
def yo(x:Int×Int×Int):Option Bool:=
 some (bif decide (x.2.1<=x.1)then decide (x.1<=x.2.2)else false)
def Il(x:Int):Option Bool:=
 za (yo (x,48,57)) fun y1=>
 some y1
def Ku(x:Int):Option Int:=
 za (Il x) fun y1=>
 bif y1 then
  some (w64 (x - 48))
 else
  za (zF (x != (-1)) (yo (ibOr IntKind.i64 x 32,97,102)) (default:Bool)) fun y2=>
  bif bif bif bif x != (-1)then y2 else false then decide (x>64)else false then decide (x<128)else false then
   some (w64 (w64 (ibOr IntKind.i64 x 32 - 97)+10))
  else
   some (-1)
def QT(x:ze):Option (ze×List UInt8):=
 za (zo (0,(⟨x.s,w64 (x.at_+1)⟩:ze))) fun y1=>
 bif y1==(-1)then
  za (QY 65533) fun y2=>
  some ((⟨x.s,w64 (x.at_+1)⟩:ze),y2)
 else
  za (Ku y1) fun y3=>
  bif decide (y3<0)then
   za (QN (wu8 y1)) fun y4=>
   need (ZB 0 1 1)<|
   some ((⟨x.s,w64 (w64 (x.at_+1)+1)⟩:ze),[y4])
  else
   zU (S:=(Int×Int)×ze) (X:=Int×ze) (fun s5=>
     bif decide (s5.1.2<6)then
      za (zo (0,s5.2)) fun y6=>
      za (Ku y6) fun y7=>
      bif decide (y7<0)then
       some (.out (s5.1.1,s5.2))
      else
       some (.again ((ibOr IntKind.i64 (VA IntKind.i64 s5.1.1 4) y7,w64 (s5.1.2+1)),(⟨s5.2.s,w64 (s5.2.at_+1)⟩:ze)))
     else
      some (.out (s5.1.1,s5.2))) ((0,0),(⟨x.s,w64 (x.at_+1)⟩:ze)) fun o8=>
   Zi (X:=Int×ze) (
     za (zo (0,o8.2)) fun y9=>
     za (Ar y9) fun y10=>
     bif y10 then
      some (.out (o8.1,(⟨o8.2.s,w64 (o8.2.at_+1)⟩:ze)))
     else
      some (.out (o8.1,o8.2))) fun j11=>
   Zi (X:=Int) (
     bif j11.1==0 then
      some (.out 65533)
     else
      some (.out j11.1)) fun j12=>
   za (QY (w32 j12)) fun y13=>
   some (j11.2,y13)
def EM(x:Int×List UInt8):Option (List UInt8):=
 bif decide (wu32 x.1<=2047)then
  za (QN (ibOr IntKind.u8 192 (wu8 (Wh IntKind.i32 x.1 6)))) fun y1=>
  za (QN (ibOr IntKind.u8 128 (Wi IntKind.u8 (wu8 x.1) 63))) fun y2=>
  need (ZB x.2.length 2 1)<|
  some (x.2++[y1,y2])
 else
  Zi (X:=Bool×List UInt8) (
    bif decide (wu32 x.1<55296)then
     some (.out (decide (wu32 x.1<55296),x.2))
    else
     some (.out (bif decide (57343<wu32 x.1)then decide (wu32 x.1<=65535)else false,x.2))) fun j3=>
  bif j3.1 then
   za (QN (ibOr IntKind.u8 224 (wu8 (Wh IntKind.i32 x.1 12)))) fun y4=>
   za (QN (ibOr IntKind.u8 128 (Wi IntKind.u8 (wu8 (Wh IntKind.i32 x.1 6)) 63))) fun y5=>
   za (QN (ibOr IntKind.u8 128 (Wi IntKind.u8 (wu8 x.1) 63))) fun y6=>
   need (ZB j3.2.length 3 1)<|
   some (j3.2++[y4,y5,y6])
  else
   bif bif decide (wu32 x.1>65535)then decide (wu32 x.1<=1114111)else false then
    za (QN (ibOr IntKind.u8 240 (wu8 (Wh IntKind.i32 x.1 18)))) fun y7=>
    za (QN (ibOr IntKind.u8 128 (Wi IntKind.u8 (wu8 (Wh IntKind.i32 x.1 12)) 63))) fun y8=>
    za (QN (ibOr IntKind.u8 128 (Wi IntKind.u8 (wu8 (Wh IntKind.i32 x.1 6)) 63))) fun y9=>
    za (QN (ibOr IntKind.u8 128 (Wi IntKind.u8 (wu8 x.1) 63))) fun y10=>
    need (ZB j3.2.length 4 1)<|
    some (j3.2++[y7,y8,y9,y10])
   else
    need (ZB j3.2.length 3 1)<|
    some (j3.2++[(239:UInt8),(191:UInt8),(189:UInt8)])
def QZ(x:Int×List UInt8):Option (List UInt8):=
 bif decide (wu32 x.1<=127)then
  za (QN (wu8 x.1)) fun y1=>
  need (ZB x.2.length 1 1)<|
  some (x.2++[y1])
 else
  za (EM (x.1,x.2)) fun y2=>
  some y2
def qg(x:ze×List UInt8):Option (ze×List UInt8):=
 za (zo (0,(⟨x.1.s,w64 (x.1.at_+1)⟩:ze))) fun y1=>
 bif y1==(-1)then
  za (QZ (65533,x.2)) fun y2=>
  some ((⟨x.1.s,w64 (x.1.at_+1)⟩:ze),y2)
 else
  za (Ku y1) fun y3=>
  bif decide (y3<0)then
   za (QN (wu8 y1)) fun y4=>
   need (ZB x.2.length 1 1)<|
   some ((⟨x.1.s,w64 (w64 (x.1.at_+1)+1)⟩:ze),x.2++[y4])
  else
   zU (S:=(Int×Int)×ze) (X:=Int×ze) (fun s5=>
     bif decide (s5.1.2<6)then
      za (zo (0,s5.2)) fun y6=>
      za (Ku y6) fun y7=>
      bif decide (y7<0)then
       some (.out (s5.1.1,s5.2))
      else
       some (.again ((ibOr IntKind.i64 (VA IntKind.i64 s5.1.1 4) y7,w64 (s5.1.2+1)),(⟨s5.2.s,w64 (s5.2.at_+1)⟩:ze)))
     else
      some (.out (s5.1.1,s5.2))) ((0,0),(⟨x.1.s,w64 (x.1.at_+1)⟩:ze)) fun o8=>
   Zi (X:=Int×ze×List UInt8) (
     za (zo (0,o8.2)) fun y9=>
     za (Ar y9) fun y10=>
     bif y10 then
      some (.out (o8.1,(⟨o8.2.s,w64 (o8.2.at_+1)⟩:ze),x.2))
     else
      some (.out (o8.1,o8.2,x.2))) fun j11=>
   Zi (X:=Int×List UInt8) (
     bif j11.1==0 then
      some (.out (65533,j11.2.2))
     else
      some (.out (j11.1,j11.2.2))) fun j12=>
   za (QZ (w32 j12.1,j12.2)) fun y13=>
   some (j11.2.1,y13)
def iH(x:ze):Option (zg×ze):=
 za (zo (0,x)) fun y1=>
 zU (S:=ze×zg×List UInt8) (X:=ze×zg×List UInt8) (fun s2=>
   za (zo (0,s2.1)) fun y3=>
   bif y3==(-1)then
    some (.out (s2.1,s2.2.1,s2.2.2))
   else
    bif y3==y1 then
     some (.out ((⟨s2.1.s,w64 (s2.1.at_+1)⟩:ze),s2.2.1,s2.2.2))
    else
     bif y3==10 then
      some (.ret ((⟨6,[],0,[],false⟩:zg),s2.1))
     else
      za (zF (y3==92) (zo (1,s2.1)) (default:Int)) fun y4=>
      za (zF (!(y4==(-1))&&y3==92) (zo (1,s2.1)) (default:Int)) fun y5=>
      bif bif y3==92 then bif y4==(-1)then true else y5==10 else false then
       some (.again ((⟨s2.1.s,if(s2.1.s.length:Int)<w64 (s2.1.at_+2)then(s2.1.s.length:Int)else w64 (s2.1.at_+2)⟩:ze),s2.2.1,s2.2.2))
      else
       bif y3==92 then
        za (qg (s2.1,s2.2.2)) fun y6=>
        some (.again (y6.1,s2.2.1,y6.2))
       else
        za (QN (wu8 y3)) fun y7=>
        need (ZB s2.2.2.length 1 1)<|
        some (.again ((⟨s2.1.s,w64 (s2.1.at_+1)⟩:ze),s2.2.1,s2.2.2++[y7]))) ((⟨x.s,w64 (x.at_+1)⟩:ze),(⟨0,[],0,[],false⟩:zg),[]) fun o8=>
 some ((⟨5,o8.2.2,0,[],false⟩:zg),o8.1)
def Wy(x:Int):Option Bool:=
 za (yo (ibOr IntKind.i64 x 32,97,122)) fun y1=>
 some (bif bif bif bif y1 then decide (x<128)else false then decide (x>64)else false then true else x==95 then true else decide (x>=128))
def uE(x:Int):Option Bool:=
 za (Wy x) fun y1=>
 za (zF (!y1) (Il x) (default:Bool)) fun y2=>
 some (bif bif y1 then true else y2 then true else x==45)
def ZA(x:Int×ze):Option Bool:=
 za (zo (x.1,x.2)) fun y1=>
 za (zF (y1==92) (zo (w64 (x.1+1),x.2)) (default:Int)) fun y2=>
 some (bif y1==92 then y2 != 10 else false)
def ZC(x:Int×ze):Option Bool:=
 za (zo (x.1,x.2)) fun y1=>
 bif y1 != 45 then
  za (zo (x.1,x.2)) fun y2=>
  za (Wy y2) fun y3=>
  za (zF (!y3) (ZA (x.1,x.2)) (default:Bool)) fun y4=>
  some (bif y3 then true else y4)
 else
  za (zo (w64 (x.1+1),x.2)) fun y5=>
  za (Wy y5) fun y6=>
  za (zF (!y6) (zo (w64 (x.1+1),x.2)) (default:Int)) fun y7=>
  za (zF (!(bif y6 then true else y7==45)) (ZA (w64 (x.1+1),x.2)) (default:Bool)) fun y8=>
  some (bif bif y6 then true else y7==45 then true else y8)
def ZR(x:ze):Option (Str×ze):=
 zU (S:=ze×List UInt8) (X:=Unit) (fun s1=>
   za (zo (0,s1.1)) fun y2=>
   za (uE y2) fun y3=>
   bif y3 then
    za (QN (wu8 y2)) fun y4=>
    need (ZB s1.2.length 1 1)<|
    some (.again ((⟨s1.1.s,w64 (s1.1.at_+1)⟩:ze),s1.2++[y4]))
   else
    za (zF (y2 != (-1)) (ZA (0,s1.1)) (default:Bool)) fun y5=>
    bif bif y2 != (-1)then y5 else false then
     za (qg (s1.1,s1.2)) fun y6=>
     some (.again (y6.1,y6.2))
    else
     some (.ret (s1.2,s1.1))) (x,[]) fun o7=>
 none
def Qa(x:ze):Option Bool:=
 Zi (X:=Int) (
   za (zo (0,x)) fun y1=>
   bif bif y1==43 then true else y1==45 then
    some (.out 1)
   else
    some (.out 0)) fun j2=>
 Zi (X:=Int) (
   za (zo (j2,x)) fun y3=>
   bif y3==46 then
    some (.out (w64 (j2+1)))
   else
    some (.out j2)) fun j4=>
 za (zo (j4,x)) fun y5=>
 za (Il y5) fun y6=>
 some y6
def ZK(x:ze):Option ze:=
 zU (S:=ze) (X:=ze) (fun s1=>
   za (zo (0,s1)) fun y2=>
   za (Il y2) fun y3=>
   bif y3 then
    some (.again (⟨s1.s,w64 (s1.at_+1)⟩:ze))
   else
    some (.out s1)) x fun o4=>
 some o4
def jH(x:ze):Option (Bool×ze):=
 Zi (X:=ze) (
   za (zo (0,x)) fun y1=>
   bif bif y1==43 then true else y1==45 then
    some (.out (⟨x.s,w64 (x.at_+1)⟩:ze))
   else
    some (.out x)) fun j2=>
 za (ZK j2) fun y3=>
 Zi (X:=Bool×ze) (
   za (zo (0,y3)) fun y4=>
   za (zF (y4==46) (zo (1,y3)) (default:Int)) fun y5=>
   za (zF (y4==46) (Il y5) (default:Bool)) fun y6=>
   bif bif y4==46 then y6 else false then
    za (ZK (⟨y3.s,w64 (y3.at_+1)⟩:ze)) fun y7=>
    some (.out (false,y7))
   else
    some (.out (true,y3))) fun j8=>
 Zi (X:=Bool×ze) (
   za (zo (0,j8.2)) fun y9=>
   za (zF (!(y9==101)) (zo (0,j8.2)) (default:Int)) fun y10=>
   bif bif y9==101 then true else y10==69 then
    Zi (X:=(Bool×Int)×ze) (
      za (zo (1,j8.2)) fun y11=>
      bif bif y11==43 then true else y11==45 then
       some (.out ((j8.1,2),j8.2))
      else
       some (.out ((j8.1,1),j8.2))) fun j12=>
    za (zo (j12.1.2,j12.2)) fun y13=>
    za (Il y13) fun y14=>
    bif y14 then
     za (ZK (⟨j12.2.s,w64 (j12.2.at_+j12.1.2)⟩:ze)) fun y15=>
     some (.out (false,y15))
    else
     some (.out (j12.1.1,j12.2))
   else
    some (.out (j8.1,j8.2))) fun j16=>
 some (j16.1,j16.2)
def uG(x:Str):Option Int:=
 za (geti x 0) fun y1=>
 za (Un (x,[43,45])) fun y2=>
 Zi (X:=Str×Int) (
   za (Wo (y2,[101,69])) fun y3=>
   bif decide (y3>=0)then
    need (decide (0<=w64 (y3+1))&&decide (w64 (y3+1)<=(y2.length:Int)))<|
    za (Un (List.drop (w64 (y3+1)).toNat y2,[43,45])) fun y4=>
    need (decide (y4.length<=maxLen))<|
    zU (S:=Int×Int) (X:=Int) (fun s5=>
      bif decide (s5.2<(y4.length:Int))then
       need (decide (0<=s5.2)&&decide (s5.2<(y4.length:Int)))<|
       za y4[s5.2.toNat]? fun y6=>
       some (.again (if 1048576<w64 (w64 (10*s5.1)+w64 (wu8 ((y6.toNat:Int) - 48)))then 1048576 else w64 (w64 (10*s5.1)+w64 (wu8 ((y6.toNat:Int) - 48))),w64 (s5.2+1)))
      else
       some (.out s5.1)) (0,0) fun o7=>
    Zi (X:=Str×Int×Int) (
      za (geti y2 (w64 (y3+1))) fun y8=>
      bif (y8.toNat:Int)==45 then
       some (.out (y2,3,w64 (0 - o7)))
      else
       some (.out (y2,3,o7))) fun j9=>
    need (decide (0<=y3)&&decide (y3<=(j9.1.length:Int)))<|
    some (.out (List.take y3.toNat j9.1,w64 (j9.2.1+j9.2.2)))
   else
    some (.out (y2,3))) fun j10=>
 za (cutF (j10.1,[46])) fun y11=>
 need (Ui y11.1.length y11.2.1.length)<|
 Zi (X:=Str×Int) (
   bif decide (w64 (j10.2 - (y11.2.1.length:Int))<0)then
    need (decide (0<=(if w64 (((y11.1++y11.2.1).length:Int)+w64 (j10.2 - (y11.2.1.length:Int)))>0 then w64 (((y11.1++y11.2.1).length:Int)+w64 (j10.2 - (y11.2.1.length:Int)))else 0))&&decide ((if w64 (((y11.1++y11.2.1).length:Int)+w64 (j10.2 - (y11.2.1.length:Int)))>0 then w64 (((y11.1++y11.2.1).length:Int)+w64 (j10.2 - (y11.2.1.length:Int)))else 0)<=((y11.1++y11.2.1).length:Int)))<|
    some (.out (List.take (if w64 (((y11.1++y11.2.1).length:Int)+w64 (j10.2 - (y11.2.1.length:Int)))>0 then w64 (((y11.1++y11.2.1).length:Int)+w64 (j10.2 - (y11.2.1.length:Int)))else 0).toNat (y11.1++y11.2.1),w64 (j10.2 - (y11.2.1.length:Int))))
   else
    some (.out (y11.1++y11.2.1,w64 (j10.2 - (y11.2.1.length:Int))))) fun j12=>
 need (decide (j12.1.length<=maxLen))<|
 zU (S:=Int×Int) (X:=Int) (fun s13=>
   bif decide (s13.2<(j12.1.length:Int))then
    need (decide (0<=s13.2)&&decide (s13.2<(j12.1.length:Int)))<|
    za j12.1[s13.2.toNat]? fun y14=>
    some (.again (if 1000000000000<w64 (w64 (10*s13.1)+w64 (wu8 ((y14.toNat:Int) - 48)))then 1000000000000 else w64 (w64 (10*s13.1)+w64 (wu8 ((y14.toNat:Int) - 48))),w64 (s13.2+1)))
   else
    some (.out s13.1)) (0,0) fun o15=>
 zU (S:=Int×Int) (X:=Int) (fun s16=>
   bif bif bif decide (s16.1>0)then decide (s16.2>0)else false then decide (s16.2<1000000000000)else false then
    some (.again (w64 (s16.1 - 1),if 1000000000000<w64 (10*s16.2)then 1000000000000 else w64 (10*s16.2)))
   else
    some (.out s16.2)) (j12.2,o15) fun o17=>
 Zi (X:=Int) (
   bif (y1.toNat:Int)==45 then
    some (.out (w64 (0 - o17)))
   else
    some (.out o17)) fun j18=>
 some j18
def QB(x:ze):Option (zg×ze):=
 za (jH x) fun y1=>
 need (decide (0<=x.at_)&&(decide (x.at_<=y1.2.at_)&&decide (y1.2.at_<=(y1.2.s.length:Int))))<|
 za (uG (List.drop x.at_.toNat (List.take y1.2.at_.toNat y1.2.s))) fun y2=>
 Zi (X:=ze×zg×zg) (
   za (ZC (0,y1.2)) fun y3=>
   bif y3 then
    za (ZR y1.2) fun y4=>
    some (.out (y4.2,(⟨0,[],0,[],false⟩:zg),(⟨12,[],y2,y4.1,y1.1⟩:zg)))
   else
    za (zo (0,y1.2)) fun y5=>
    bif y5==37 then
     some (.out ((⟨y1.2.s,w64 (y1.2.at_+1)⟩:ze),(⟨0,[],0,[],false⟩:zg),(⟨11,[],y2,[],false⟩:zg)))
    else
     some (.out (y1.2,(⟨0,[],0,[],false⟩:zg),(⟨10,[],y2,[],y1.1⟩:zg)))) fun j6=>
 some (j6.2.2,j6.1)
def QX(x:ze):Option (zg×ze):=
 zU (S:=ze×zg) (X:=Unit) (fun s1=>
   za (zo (0,s1.1)) fun y2=>
   bif y2==(-1)then
    some (.ret ((⟨8,[],0,[],false⟩:zg),s1.1))
   else
    za (ZA (0,s1.1)) fun y3=>
    bif y3 then
     za (QT s1.1) fun y4=>
     some (.again (y4.1,s1.2))
    else
     za (geti s1.1.s (w64 (w64 (s1.1.at_+1) - 1))) fun y5=>
     bif (y5.toNat:Int)==41 then
      some (.ret ((⟨8,[],0,[],false⟩:zg),(⟨s1.1.s,w64 (s1.1.at_+1)⟩:ze)))
     else
      some (.again ((⟨s1.1.s,w64 (s1.1.at_+1)⟩:ze),s1.2))) (x,(⟨0,[],0,[],false⟩:zg)) fun o6=>
 none
def vG(x:ze):Option (zg×ze):=
 za (qb x) fun y1=>
 zU (S:=ze×zg×List UInt8) (X:=Unit) (fun s2=>
   za (zo (0,s2.1)) fun y3=>
   Zi (X:=Int×ze×zg×List UInt8) (
     za (Ar y3) fun y4=>
     bif y4 then
      za (qb s2.1) fun y5=>
      za (zo (0,y5)) fun y6=>
      bif bif y6 != 41 then y6 != (-1)else false then
       za (QX y5) fun y7=>
       some (.ret (LO.ret (y7.1,y7.2)))
      else
       some (.out (y6,y5,s2.2.1,s2.2.2))
     else
      some (.out (y3,s2.1,s2.2.1,s2.2.2))) fun j8=>
   bif j8.1==(-1)then
    some (.ret ((⟨7,j8.2.2.2,0,[],false⟩:zg),j8.2.1))
   else
    bif j8.1==41 then
     some (.ret ((⟨7,j8.2.2.2,0,[],false⟩:zg),(⟨j8.2.1.s,w64 (j8.2.1.at_+1)⟩:ze)))
    else
     za (zF (!(bif bif bif bif j8.1==34 then true else j8.1==39 then true else j8.1==40 then true else decide (j8.1<=8)then true else j8.1==11)) (yo (j8.1,14,31)) (default:Bool)) fun y9=>
     bif bif bif bif bif bif bif j8.1==34 then true else j8.1==39 then true else j8.1==40 then true else decide (j8.1<=8)then true else j8.1==11 then true else y9 then true else j8.1==127 then
      za (QX j8.2.1) fun y10=>
      some (.ret (y10.1,y10.2))
     else
      bif j8.1 != 92 then
       za (QN (wu8 j8.1)) fun y11=>
       need (ZB j8.2.2.2.length 1 1)<|
       some (.again ((⟨j8.2.1.s,w64 (j8.2.1.at_+1)⟩:ze),j8.2.2.1,j8.2.2.2++[y11]))
      else
       za (ZA (0,j8.2.1)) fun y12=>
       bif y12 then
        za (qg (j8.2.1,j8.2.2.2)) fun y13=>
        some (.again (y13.1,j8.2.2.1,y13.2))
       else
        za (QX j8.2.1) fun y14=>
        some (.ret (y14.1,y14.2))) (y1,(⟨0,[],0,[],false⟩:zg),[]) fun o15=>
 none
def Qo(x:ze):Option (zg×ze):=
 za (ZR x) fun y1=>
 za (zo (0,y1.2)) fun y2=>
 bif y2 != 40 then
  some ((⟨1,y1.1,0,[],false⟩:zg),y1.2)
 else
  Zi (X:=ze×zg) (
    za (QI (y1.1,[117,114,108])) fun y3=>
    bif y3 then
     za (qb (⟨y1.2.s,w64 (y1.2.at_+1)⟩:ze)) fun y4=>
     za (zo (0,y4)) fun y5=>
     bif bif y5 != 34 then y5 != 39 else false then
      za (vG (⟨y1.2.s,w64 (y1.2.at_+1)⟩:ze)) fun y6=>
      some (.ret (y6.1,y6.2))
     else
      some (.out ((⟨y1.2.s,w64 (y1.2.at_+1)⟩:ze),(⟨0,[],0,[],false⟩:zg)))
    else
     some (.out ((⟨y1.2.s,w64 (y1.2.at_+1)⟩:ze),(⟨0,[],0,[],false⟩:zg)))) fun j7=>
  some ((⟨2,y1.1,0,[],false⟩:zg),j7.1)
def BA(x:ze):Option (zg×ze):=
 za (zo (0,x)) fun y1=>
 need (decide (0<=x.at_)&&decide (x.at_<=(x.s.length:Int)))<|
 za (Ar y1) fun y2=>
 bif y2 then
  za (qb x) fun y3=>
  some ((⟨13,[],0,[],false⟩:zg),y3)
 else
  bif bif y1==34 then true else y1==39 then
   za (iH x) fun y4=>
   some (y4.1,y4.2)
  else
   za (zF (y1==35) (zo (1,x)) (default:Int)) fun y5=>
   za (zF (y1==35) (uE y5) (default:Bool)) fun y6=>
   za (zF (!y6&&y1==35) (ZA (1,x)) (default:Bool)) fun y7=>
   bif bif y1==35 then bif y6 then true else y7 else false then
    za (ZC (1,x)) fun y8=>
    za (ZR (⟨x.s,w64 (x.at_+1)⟩:ze)) fun y9=>
    some ((⟨4,y9.1,0,[],y8⟩:zg),y9.2)
   else
    za (Qa x) fun y10=>
    bif y10 then
     za (QB x) fun y11=>
     some (y11.1,y11.2)
    else
     za (strings_HasPrefix (List.drop x.at_.toNat x.s,[45,45,62])) fun y12=>
     bif y12 then
      some ((⟨15,[],0,[],false⟩:zg),(⟨x.s,w64 (x.at_+3)⟩:ze))
     else
      za (strings_HasPrefix (List.drop x.at_.toNat x.s,[60,33,45,45])) fun y13=>
      bif y13 then
       some ((⟨14,[],0,[],false⟩:zg),(⟨x.s,w64 (x.at_+4)⟩:ze))
      else
       za (zF (y1==64) (ZC (1,x)) (default:Bool)) fun y14=>
       bif bif y1==64 then y14 else false then
        za (ZR (⟨x.s,w64 (x.at_+1)⟩:ze)) fun y15=>
        some ((⟨3,y15.1,0,[],false⟩:zg),y15.2)
       else
        za (ZC (0,x)) fun y16=>
        bif y16 then
         za (Qo x) fun y17=>
         some (y17.1,y17.2)
        else
         za (strings_IndexByte ([58,59,44,91,93,40,41,123,125],wu8 y1)) fun y18=>
         bif decide (y18>=0)then
          some ((⟨wu8 (16+wu8 y18),[],0,[],false⟩:zg),(⟨x.s,w64 (x.at_+1)⟩:ze))
         else
          need (decide (1<=((List.drop x.at_.toNat x.s).length:Int)))<|
          some ((⟨9,List.take 1 (List.drop x.at_.toNat x.s),0,[],false⟩:zg),(⟨x.s,w64 (x.at_+1)⟩:ze))
def xG(x:(zg×Int×Int)×List zg):Option (List zg):=
 need (ZB x.2.length 1 56)<|
 some (x.2++[x.1.1])
def rE(x:Str):Option (Int×List zg):=
 za (yn x) fun y1=>
 bif y1.2 != 0 then
  some (y1.2,[])
 else
  za (qp (⟨y1.1,0⟩:ze)) fun y2=>
  zU (S:=Int×List zg×ze) (X:=List zg×ze) (fun s3=>
    bif decide (s3.2.2.at_<(y1.1.length:Int))then
     bif decide (w64 (s3.1+1)>1500)then
      some (.ret (4,s3.2.1))
     else
      za (BA s3.2.2) fun y4=>
      za (xG ((y4.1,s3.2.2.at_,y4.2.at_),s3.2.1)) fun y5=>
      za (qp y4.2) fun y6=>
      some (.again (w64 (s3.1+1),y5,y6))
    else
     some (.out (s3.2.1,s3.2.2))) (0,[],y2) fun o7=>
  some (0,o7.1)
def su(x:Str):Option (List zg×Int):=
 za (rE x) fun y1=>
 bif y1.1 != 0 then
  some ([],y1.1)
 else
  some (y1.2,0)
def Ky(x:List zb):Option Int:=
 bif (x.length:Int)==0 then
  some 0
 else
  za (geti x 0) fun y1=>
  some y1.token.kind
def aL(x:Int×List UInt8):Option Int:=
 zU (S:=Int) (X:=Unit) (fun s1=>
   bif decide (s1<(x.2.length:Int))then
    need (decide (0<=s1)&&decide (s1<(x.2.length:Int)))<|
    za x.2[s1.toNat]? fun y2=>
    bif x.1==(y2.toNat:Int)then
     some (.ret s1)
    else
     some (.again (w64 (s1+1)))
   else
    some (.out ())) 0 fun o3=>
 some (-1)
def eH(x:Int×List UInt8):Option Bool:=
 za (aL (x.1,x.2)) fun y1=>
 some (decide (y1>=0))
def vK(x:zb×List UInt8):Option Bool:=
 za (eH (x.1.token.kind,x.2)) fun y1=>
 some y1
def QF(x:List zb×List UInt8):Option Int:=
 zU (S:=Int) (X:=Unit) (fun s1=>
   bif decide (s1<(x.1.length:Int))then
    za (geti x.1 s1) fun y2=>
    za (vK ((⟨y2.token,y2.list⟩:zb),x.2)) fun y3=>
    bif y3 then
     some (.ret s1)
    else
     some (.again (w64 (s1+1)))
   else
    some (.out ())) 0 fun o4=>
 some (-1)
def IE(x:List zb×List UInt8):Option (List zb×List zb):=
 za (QF (x.1,x.2)) fun y1=>
 bif decide (y1<0)then
  some (x.1,[])
 else
  need (decide (0<=y1)&&decide (y1<=(x.1.length:Int)))<|
  need (decide (0<=y1)&&decide (y1<=(x.1.length:Int)))<|
  some (List.take y1.toNat x.1,List.drop y1.toNat x.1)
def Zk(x:Int×zw):Option zg:=
 bif decide (w64 (x.2.at_+x.1)<(x.2.v.length:Int))then
  za (geti x.2.v (w64 (x.2.at_+x.1))) fun y1=>
  some y1.token
 else
  some (⟨0,[],0,[],false⟩:zg)
def Zy(x:zw):Option (Bool×zw):=
 zU (S:=zw) (X:=zw) (fun s1=>
   za (Zk (0,s1)) fun y2=>
   bif y2.kind==13 then
    some (.again (⟨s1.v,w64 (s1.at_+1)⟩:zw))
   else
    some (.out s1)) x fun o3=>
 some (decide (o3.at_>x.at_),o3)
def qa(x:Str×zw):Option (Bool×zw):=
 za (Zk (0,x.2)) fun y1=>
 bif bif y1.kind != 9 then true else !(y1.text==x.1)then
  some (false,x.2)
 else
  some (true,(⟨x.2.v,w64 (x.2.at_+1)⟩:zw))
def Qm(x:zw):Option (Int×zw):=
 zU (S:=Int×zw) (X:=zw) (fun s1=>
   bif decide (s1.1<3)then
    need (decide (0<=s1.1)&&(decide (s1.1<=w64 (s1.1+1))&&decide (w64 (s1.1+1)<=3)))<|
    za (qa (List.drop s1.1.toNat (List.take (w64 (s1.1+1)).toNat ([62,43,126]:Str)),s1.2)) fun y2=>
    bif y2.1 then
     za (Zy y2.2) fun y3=>
     some (.ret (wu8 (2+wu8 s1.1),y3.2))
    else
     some (.again (w64 (s1.1+1),y2.2))
   else
    some (.out s1.2)) (0,x) fun o4=>
 some (0,o4)
def xz(x:Int×zw):Option (List zb):=
 za (geti x.2.v (w64 (x.2.at_+x.1))) fun y1=>
 some y1.list
def Qn(x:zw):Option Bool:=
 some (x.at_==(x.v.length:Int))
def BF(x:List zb):Option (zJ×Bool):=
 za (Zy (⟨x,0⟩:zw)) fun y1=>
 za (Zk (0,y1.2)) fun y2=>
 za (ZP y2.text) fun y3=>
 za (Zk (0,y1.2)) fun y4=>
 bif y4.kind != 1 then
  some ((⟨3,y3,0,[],false,(⟨0,0⟩:VAnb),false,[]⟩:zJ),false)
 else
  za (Zy (⟨y1.2.v,w64 (y1.2.at_+1)⟩:zw)) fun y5=>
  za (Qn y5.2) fun y6=>
  bif y6 then
   some ((⟨3,y3,0,[],false,(⟨0,0⟩:VAnb),false,[]⟩:zJ),true)
  else
   Zi (X:=(Int×Str×Int×Str×Bool×Int×Int×Bool)×zw×(Int×Str×Int×Str×Bool×Int×Int×Bool)) (
     za (qa ([61],y5.2)) fun y7=>
     bif y7.1 then
      some (.out ((0,[],0,[],false,0,0,false),y7.2,(3,y3,1,[],false,0,0,false)))
     else
      za (Zk (0,y7.2)) fun y8=>
      za (Vm ([126,124,94,36,42],y8.text)) fun y9=>
      bif bif y8.kind != 9 then true else decide (y9<0)then
       some (.ret ((⟨3,y3,0,[],false,(⟨0,0⟩:VAnb),false,[]⟩:zJ),false))
      else
       za (qa ([61],(⟨y7.2.v,w64 (y7.2.at_+1)⟩:zw))) fun y10=>
       bif !y10.1 then
        some (.ret ((⟨3,y3,0,[],false,(⟨0,0⟩:VAnb),false,[]⟩:zJ),false))
       else
        some (.out ((0,[],0,[],false,0,0,false),y10.2,(3,y3,wu8 (2+wu8 y9),[],false,0,0,false)))) fun j11=>
   za (Zy j11.2.1) fun y12=>
   za (Zk (0,y12.2)) fun y13=>
   bif bif y13.kind != 1 then y13.kind != 5 else false then
    some ((⟨j11.2.2.1,j11.2.2.2.1,j11.2.2.2.2.1,j11.2.2.2.2.2.1,j11.2.2.2.2.2.2.1,(⟨j11.2.2.2.2.2.2.2.1,j11.2.2.2.2.2.2.2.2.1⟩:VAnb),j11.2.2.2.2.2.2.2.2.2,[]⟩:zJ),false)
   else
    za (Zy (⟨y12.2.v,w64 (y12.2.at_+1)⟩:zw)) fun y14=>
    za (Zk (0,y14.2)) fun y15=>
    bif y15.kind==1 then
     za (Zy (⟨y14.2.v,w64 (y14.2.at_+1)⟩:zw)) fun y16=>
     za (QI (y15.text,[105])) fun y17=>
     za (Qn y16.2) fun y18=>
     za (zF (!y17&&y18) (QI (y15.text,[115])) (default:Bool)) fun y19=>
     some ((⟨j11.2.2.1,j11.2.2.2.1,j11.2.2.2.2.1,y13.text,y17,(⟨j11.2.2.2.2.2.2.2.1,j11.2.2.2.2.2.2.2.2.1⟩:VAnb),j11.2.2.2.2.2.2.2.2.2,[]⟩:zJ),bif y18 then bif y17 then true else y19 else false)
    else
     za (Qn y14.2) fun y20=>
     some ((⟨j11.2.2.1,j11.2.2.2.1,j11.2.2.2.2.1,y13.text,j11.2.2.2.2.2.2.1,(⟨j11.2.2.2.2.2.2.2.1,j11.2.2.2.2.2.2.2.2.1⟩:VAnb),j11.2.2.2.2.2.2.2.2.2,[]⟩:zJ),y20)
def Tz(x:Unit):Option (List Str):=
 some [[108,105,110,107],[118,105,115,105,116,101,100],[97,110,121,45,108,105,110,107],[114,111,111,116],[101,109,112,116,121],[110,116,104,45,99,104,105,108,100],[110,116,104,45,108,97,115,116,45,99,104,105,108,100],[105,115],[119,104,101,114,101],[110,111,116],[104,97,115]]
def yE(x:Str):Option (zJ×Bool):=
 za (ZP x) fun y1=>
 bif y1==[102,105,114,115,116,45,99,104,105,108,100]then
  some ((⟨9,[],0,[],false,(⟨0,1⟩:VAnb),false,[]⟩:zJ),true)
 else
  bif y1==[108,97,115,116,45,99,104,105,108,100]then
   some ((⟨10,[],0,[],false,(⟨0,1⟩:VAnb),false,[]⟩:zJ),true)
  else
   za (Tz ()) fun y2=>
   za (ZP x) fun y3=>
   za (slices_Index_string (y2,y3)) fun y4=>
   some ((⟨wu8 (4+wu8 (if 0>y4 then 0 else y4)),[],0,[],false,(⟨0,0⟩:VAnb),false,[]⟩:zJ),bif decide (y4>=0)then decide (y4<5)else false)
def xK(x:zb):Option Bool:=
 za (zF (x.token.kind==1) (QI (x.token.text,[111,102])) (default:Bool)) fun y1=>
 some (bif x.token.kind==1 then y1 else false)
def QG(x:List zb):Option Int:=
 zU (S:=Int) (X:=Unit) (fun s1=>
   bif decide (s1<(x.length:Int))then
    za (geti x s1) fun y2=>
    za (xK (⟨y2.token,y2.list⟩:zb)) fun y3=>
    bif y3 then
     some (.ret s1)
    else
     some (.again (w64 (s1+1)))
   else
    some (.out ())) 0 fun o4=>
 some (-1)
def Qg(x:Za):Option Za:=
 zU (S:=Za) (X:=Za) (fun s1=>
   za (zF (decide ((s1.l.length:Int)>0)) (geti s1.l 0) (default:zg)) fun y2=>
   bif bif decide ((s1.l.length:Int)>0)then y2.kind==13 else false then
    need (decide (1<=(s1.l.length:Int)))<|
    some (.again (⟨List.drop 1 s1.l⟩:Za))
   else
    some (.out s1)) x fun o3=>
 some o3
def Vv(x:Int×Za):Option ((zg×Bool)×Za):=
 za (zF (!((x.2.l.length:Int)==0)) (geti x.2.l 0) (default:zg)) fun y1=>
 bif bif (x.2.l.length:Int)==0 then true else y1.kind != x.1 then
  some (((⟨0,[],0,[],false⟩:zg),false),x.2)
 else
  za (geti x.2.l 0) fun y2=>
  need (decide (1<=(x.2.l.length:Int)))<|
  some ((y2,true),(⟨List.drop 1 x.2.l⟩:Za))
def gz(x:Za):Option ((Int×Bool)×Za):=
 za (Vv (10,x)) fun y1=>
 some ((w64 (Int.tdiv y1.1.1.num 1000),bif bif y1.1.2 then y1.1.1.flag else false then Int.tmod y1.1.1.num 1000==0 else false),y1.2)
def stringslite_CutPrefix(x:Str×Str):Option (Str×Bool):=
 za (stringslite_HasPrefix (x.1,x.2)) fun y1=>
 bif !y1 then
  some (x.1,false)
 else
  need (decide (0<=(x.2.length:Int))&&decide ((x.2.length:Int)<=(x.1.length:Int)))<|
  some (List.drop x.2.length x.1,true)
def strings_CutPrefix(x:Str×Str):Option (Str×Bool):=
 za (stringslite_CutPrefix (x.1,x.2)) fun y1=>
 some (y1.1,y1.2)
def rz(x:Za):Option (Int×Za):=
 za (zF (!((x.l.length:Int)==0)) (geti x.l 0) (default:zg)) fun y1=>
 bif bif (x.l.length:Int)==0 then true else y1.kind != 9 then
  some (0,x)
 else
  za (geti x.l 0) fun y2=>
  za (Vm ([45,32,43],y2.text)) fun y3=>
  za (geti x.l 0) fun y4=>
  za (zF (!(y4.text==[43])) (geti x.l 0) (default:zg)) fun y5=>
  bif bif y4.text==[43]then true else y5.text==[45]then
   need (decide (1<=(x.l.length:Int)))<|
   some (w64 (y3 - 1),(⟨List.drop 1 x.l⟩:Za))
  else
   some (0,x)
def AA(x:Str×Za):Option ((Int×Bool)×Za):=
 Zi (X:=Int×Za) (
   bif x.1==[45]then
    some (.out ((-1),x.2))
   else
    bif !(x.1==[])then
     za (strings_CutPrefix (x.1,[45])) fun y1=>
     za (zF (!(!y1.2)) (trimF (y1.1,[48,49,50,51,52,53,54,55,56,57])) (default:Str)) fun y2=>
     bif bif !y1.2 then true else !(y2==[])then
      some (.ret ((0,false),x.2))
     else
      za (jw (y1.1,10,64)) fun y3=>
      Zi (X:=Int) (
        bif bif y3.2 then true else decide (y3.1>1000000000)then
         some (.out 1000000000)
        else
         some (.out y3.1)) fun j4=>
      some (.ret ((w64 (0 - j4),true),x.2))
    else
     za (Qg x.2) fun y5=>
     bif (y5.l.length:Int)==0 then
      some (.ret ((0,true),y5))
     else
      za (rz y5) fun y6=>
      some (.out (y6.1,y6.2))) fun j7=>
 za (Qg j7.2) fun y8=>
 za (gz y8) fun y9=>
 bif j7.1==0 then
  some ((y9.1.1,y9.1.2),y9.2)
 else
  some ((w64 (j7.1*y9.1.1),bif y9.1.2 then decide (y9.1.1>=0)else false),y9.2)
def kG(x:Za):Option ((VAnb×Bool)×Za):=
 za (gz x) fun y1=>
 bif y1.1.2 then
  some (((⟨0,y1.1.1⟩:VAnb),true),y1.2)
 else
  za (Vv (12,y1.2)) fun y2=>
  bif y2.1.2 then
   za (ZP y2.1.1.unit) fun y3=>
   za (strings_CutPrefix (y3,[110])) fun y4=>
   bif bif bif !y4.2 then true else !y2.1.1.flag then true else Int.tmod y2.1.1.num 1000 != 0 then
    some (((⟨0,0⟩:VAnb),false),y2.2)
   else
    za (AA (y4.1,y2.2)) fun y5=>
    some (((⟨w64 (Int.tdiv y2.1.1.num 1000),y5.1.1⟩:VAnb),y5.1.2),y5.2)
  else
   za (rz y2.2) fun y6=>
   za (Vv (1,y6.2)) fun y7=>
   bif bif !y7.1.2 then true else decide (y6.1<0)then
    some (((⟨0,0⟩:VAnb),false),y7.2)
   else
    za (ZP y7.1.1.text) fun y8=>
    Zi (X:=(Str×Int)×Za×VAnb) (
      bif y6.1==0 then
       bif y8==[111,100,100]then
        some (.ret (((⟨2,1⟩:VAnb),true),y7.2))
       else
        bif y8==[101,118,101,110]then
         some (.ret (((⟨2,0⟩:VAnb),true),y7.2))
        else
         za (strings_CutPrefix (y8,[45])) fun y9=>
         bif y9.2 then
          some (.out ((y9.1,(-1)),y7.2,(⟨0,0⟩:VAnb)))
         else
          some (.out ((y8,1),y7.2,(⟨0,0⟩:VAnb)))
      else
       some (.out ((y8,1),y7.2,(⟨0,0⟩:VAnb)))) fun j10=>
    za (strings_CutPrefix (j10.1.1,[110])) fun y11=>
    bif !y11.2 then
     some (((⟨0,0⟩:VAnb),false),j10.2.1)
    else
     za (AA (y11.1,j10.2.1)) fun y12=>
     some (((⟨j10.1.2,y12.1.1⟩:VAnb),y12.1.2),y12.2)
def OI(x:List zg):Option (VAnb×Int):=
 za (Qg (⟨x⟩:Za)) fun y1=>
 za (kG y1) fun y2=>
 za (Qg y2.2) fun y3=>
 za (zF (!(bif !y2.1.2 then true else decide ((y3.l.length:Int)>0))) (Vu y2.1.1) (default:Int)) fun y4=>
 bif bif bif !y2.1.2 then true else decide ((y3.l.length:Int)>0)then true else y4 != 0 then
  some ((⟨0,0⟩:VAnb),12)
 else
  some (y2.1.1,0)
def Cr(zK:List zb×zh×Bool×Bool->Option (List zm×Bool))(x:zJ×List zb×zh):Option (zJ×Bool):=
 za (QG x.2.1) fun y1=>
 Zi (X:=List zb×zJ×(Int×Str×Int×Str×Bool×Int×Int×Bool)) (
   bif decide (y1>=0)then
    za (QM (x.2.2,x.1.kind)) fun y2=>
    need (decide (0<=w64 (y1+1))&&decide (w64 (y1+1)<=(x.2.1.length:Int)))<|
    za (zK (List.drop (w64 (y1+1)).toNat x.2.1,y2.1,false,false)) fun y3=>
    bif bif !y2.2 then true else !y3.2 then
     some (.ret ((⟨x.1.kind,x.1.name,x.1.op,x.1.value,x.1.fold,x.1.anb,x.1.of_,x.1.list⟩:zJ),false))
    else
     need (decide (0<=y1)&&decide (y1<=(x.2.1.length:Int)))<|
     some (.out (List.take y1.toNat x.2.1,(⟨x.1.kind,x.1.name,x.1.op,x.1.value,x.1.fold,x.1.anb,true,y3.1⟩:zJ),(0,[],0,[],false,0,0,false)))
   else
    some (.out (x.2.1,(⟨x.1.kind,x.1.name,x.1.op,x.1.value,x.1.fold,x.1.anb,x.1.of_,x.1.list⟩:zJ),(0,[],0,[],false,0,0,false)))) fun j4=>
 za (Rx j4.1) fun y5=>
 bif y5.2 != 0 then
  some ((⟨j4.2.1.kind,j4.2.1.name,j4.2.1.op,j4.2.1.value,j4.2.1.fold,j4.2.1.anb,j4.2.1.of_,j4.2.1.list⟩:zJ),false)
 else
  za (OI y5.1) fun y6=>
  some ((⟨j4.2.1.kind,j4.2.1.name,j4.2.1.op,j4.2.1.value,j4.2.1.fold,y6.1,j4.2.1.of_,j4.2.1.list⟩:zJ),y6.2==0)
def QL(zK:List zb×zh×Bool×Bool->Option (List zm×Bool))(x:Str×List zb×zh):Option (zJ×Bool):=
 za (Tz ()) fun y1=>
 za (ZP x.1) fun y2=>
 za (slices_Index_string (y1,y2)) fun y3=>
 bif decide (y3<5)then
  some ((⟨0,[],0,[],false,(⟨0,0⟩:VAnb),false,[]⟩:zJ),false)
 else
  bif decide (wu8 (4+wu8 y3)<=10)then
   za (Cr zK ((⟨wu8 (4+wu8 y3),[],0,[],false,(⟨0,0⟩:VAnb),false,[]⟩:zJ),x.2.1,x.2.2)) fun y4=>
   some ((⟨y4.1.kind,y4.1.name,y4.1.op,y4.1.value,y4.1.fold,y4.1.anb,y4.1.of_,y4.1.list⟩:zJ),y4.2)
  else
   za (QM (x.2.2,wu8 (4+wu8 y3))) fun y5=>
   bif !y5.2 then
    some ((⟨wu8 (4+wu8 y3),[],0,[],false,(⟨0,0⟩:VAnb),false,[]⟩:zJ),false)
   else
    za (zK (x.2.1,y5.1,wu8 (4+wu8 y3)==14,decide (wu8 (4+wu8 y3)<=12))) fun y6=>
    some ((⟨wu8 (4+wu8 y3),[],0,[],false,(⟨0,0⟩:VAnb),false,y6.1⟩:zJ),y6.2)
def Z5(zK:List zb×zh×Bool×Bool->Option (List zm×Bool))(x:zh×zw):Option ((List zJ×Bool)×zw):=
 zU (S:=zw×List zJ) (X:=Unit) (fun s1=>
   za (Zk (1,s1.1)) fun y2=>
   Zi (X:=Bool×zw×List zJ×zJ) (
     za (Zk (0,s1.1)) fun y3=>
     bif y3.kind==4 then
      some (.out (y3.flag,(⟨s1.1.v,w64 (s1.1.at_+1)⟩:zw),s1.2,(⟨1,y3.text,0,[],false,(⟨0,0⟩:VAnb),false,[]⟩:zJ)))
     else
      bif bif y3.kind==9 then y3.text==[46]else false then
       some (.out (y2.kind==1,(⟨s1.1.v,w64 (s1.1.at_+2)⟩:zw),s1.2,(⟨2,y2.text,0,[],false,(⟨0,0⟩:VAnb),false,[]⟩:zJ)))
      else
       bif y3.kind==19 then
        za (xz (0,s1.1)) fun y4=>
        za (BF y4) fun y5=>
        some (.out (y5.2,(⟨s1.1.v,w64 (s1.1.at_+1)⟩:zw),s1.2,(⟨y5.1.kind,y5.1.name,y5.1.op,y5.1.value,y5.1.fold,y5.1.anb,y5.1.of_,y5.1.list⟩:zJ)))
       else
        bif y3.kind==16 then
         Zi (X:=Bool×zw×zJ) (
           bif y2.kind==1 then
            za (yE y2.text) fun y6=>
            some (.out (y6.2,s1.1,(⟨y6.1.kind,y6.1.name,y6.1.op,y6.1.value,y6.1.fold,y6.1.anb,y6.1.of_,y6.1.list⟩:zJ)))
           else
            bif y2.kind==2 then
             za (xz (1,s1.1)) fun y7=>
             za (QL zK (y2.text,y7,x.1)) fun y8=>
             some (.out (y8.2,s1.1,(⟨y8.1.kind,y8.1.name,y8.1.op,y8.1.value,y8.1.fold,y8.1.anb,y8.1.of_,y8.1.list⟩:zJ)))
            else
             some (.out (false,s1.1,(⟨0,[],0,[],false,(⟨0,0⟩:VAnb),false,[]⟩:zJ)))) fun j9=>
         some (.out (j9.1,(⟨j9.2.1.v,w64 (j9.2.1.at_+2)⟩:zw),s1.2,(⟨j9.2.2.kind,j9.2.2.name,j9.2.2.op,j9.2.2.value,j9.2.2.fold,j9.2.2.anb,j9.2.2.of_,j9.2.2.list⟩:zJ)))
        else
         some (.ret (LO.ret ((s1.2,true),s1.1)))) fun j10=>
   bif !j10.1 then
    some (.ret (([],false),j10.2.1))
   else
    need (ZB j10.2.2.1.length 1 104)<|
    some (.again (j10.2.1,j10.2.2.1++[(⟨j10.2.2.2.kind,j10.2.2.2.name,j10.2.2.2.op,j10.2.2.2.value,j10.2.2.2.fold,j10.2.2.2.anb,j10.2.2.2.of_,j10.2.2.2.list⟩:zJ)]))) (x.2,[]) fun o11=>
 none
def Ql(zK:List zb×zh×Bool×Bool->Option (List zm×Bool))(x:List zb×zh×Bool):Option (zm×Bool):=
 za (Zy (⟨x.1,0⟩:zw)) fun y1=>
 Zi (X:=Int×zw×Int) (
   bif x.2.2 then
    za (Qm y1.2) fun y2=>
    bif y2.1==0 then
     some (.out (0,y2.2,1))
    else
     some (.out (0,y2.2,y2.1))
   else
    some (.out (0,y1.2,0))) fun j3=>
 Zi (X:=Int×zw×Int) (
   some (.out (j3.1,j3.2.1,j3.2.2))) fun j4=>
 zU (S:=Int×zw×Int×List zQ×List UInt8) (X:=Int×zw×Int×List zQ×List UInt8) (fun s5=>
   Zi (X:=Int×zw×Int×List zQ×List UInt8×Str) (
     za (Zk (0,s5.2.1)) fun y6=>
     bif y6.kind==1 then
      za (ZP y6.text) fun y7=>
      some (.out (s5.1,(⟨s5.2.1.v,w64 (s5.2.1.at_+1)⟩:zw),s5.2.2.1,s5.2.2.2.1,s5.2.2.2.2,y7))
     else
      za (qa ([42],s5.2.1)) fun y8=>
      bif y8.1 then
       some (.out (s5.1,y8.2,s5.2.2.1,s5.2.2.2.1,s5.2.2.2.2,[42]))
      else
       some (.out (s5.1,y8.2,s5.2.2.1,s5.2.2.2.1,s5.2.2.2.2,[]))) fun j9=>
   za (Z5 zK (x.2.1,j9.2.1)) fun y10=>
   za (zF (!(!y10.1.2)) (Tv zB ((⟨j9.2.2.2.2.2,y10.1.1⟩:zQ),x.2.1)) (default:Bool)) fun y11=>
   bif bif !y10.1.2 then true else !y11 then
    some (.ret ((⟨j9.2.2.1,j9.2.2.2.1,j9.2.2.2.2.1⟩:zm),false))
   else
    need (ZB j9.2.2.2.1.length 1 40)<|
    za (Zy y10.2) fun y12=>
    za (Qn y12.2) fun y13=>
    bif y13 then
     some (.out (j9.1,y12.2,j9.2.2.1,j9.2.2.2.1++[(⟨j9.2.2.2.2.2,y10.1.1⟩:zQ)],j9.2.2.2.2.1))
    else
     za (Qm y12.2) fun y14=>
     Zi (X:=Int×Int×Int×List zQ×List UInt8) (
       bif bif y14.1==0 then !y12.1 else false then
        some (.ret (LO.ret ((⟨j9.2.2.1,j9.2.2.2.1++[(⟨j9.2.2.2.2.2,y10.1.1⟩:zQ)],j9.2.2.2.2.1⟩:zm),false)))
       else
        bif y14.1==0 then
         some (.out (1,j9.1,j9.2.2.1,j9.2.2.2.1++[(⟨j9.2.2.2.2.2,y10.1.1⟩:zQ)],j9.2.2.2.2.1))
        else
         some (.out (y14.1,j9.1,j9.2.2.1,j9.2.2.2.1++[(⟨j9.2.2.2.2.2,y10.1.1⟩:zQ)],j9.2.2.2.2.1))) fun j15=>
     za (QN j15.1) fun y16=>
     need (ZB j15.2.2.2.2.length 1 1)<|
     some (.again (j15.2.1,y14.2,j15.2.2.1,j15.2.2.2.1,j15.2.2.2.2++[y16]))) (j4.1,j4.2.1,j4.2.2,[],[]) fun o17=>
 some ((⟨o17.2.2.1,o17.2.2.2.1,o17.2.2.2.2⟩:zm),decide ((o17.2.2.2.1.length:Int)<=64))
def Q9(zK:List zb×zh×Bool×Bool->Option (List zm×Bool))(x:List zb×zh×Bool×Bool):Option (List zm×Bool):=
 zU (S:=(Int×Int)×List zm) (X:=List zm) (fun s1=>
   bif decide (s1.1.2<w64 ((x.1.length:Int)+1))then
    Zi (X:=(Int×Int)×List zm) (
      za (zF (decide (s1.1.2<(x.1.length:Int))) (geti x.1 s1.1.2) (default:zb)) fun y2=>
      bif bif decide (s1.1.2<(x.1.length:Int))then y2.token.kind != 18 else false then
       some (.out ((s1.1.1,s1.1.2),s1.2))
      else
       Zi (X:=List zm) (
         need (decide (0<=s1.1.1)&&(decide (s1.1.1<=s1.1.2)&&decide (s1.1.2<=(x.1.length:Int))))<|
         za (Ql zK (List.drop s1.1.1.toNat (List.take s1.1.2.toNat x.1),x.2.1,x.2.2.1)) fun y3=>
         bif y3.2 then
          need (ZB s1.2.length 1 56)<|
          some (.out (s1.2++[(⟨y3.1.lead,y3.1.parts,y3.1.combs⟩:zm)]))
         else
          bif !x.2.2.2 then
           some (.ret (LX.ret (LO.ret ([],false))))
          else
           some (.out s1.2)) fun j4=>
       some (.out ((w64 (s1.1.2+1),s1.1.2),j4))) fun j5=>
    some (.again ((j5.1.1,w64 (j5.1.2+1)),j5.2))
   else
    some (.out s1.2)) ((0,0),[]) fun o6=>
 some (o6,true)
def zK:List zb×zh×Bool×Bool->Option (List zm×Bool):=recE (Q9)
def mD(x:List zb):Option (List zm×Int):=
 za (Dm x) fun y1=>
 bif y1 != 0 then
  some ([],y1)
 else
  za (zK (x,(⟨0,false⟩:zh),false,false)) fun y2=>
  bif !y2.2 then
   some ([],12)
  else
   za (Qu y2.1) fun y3=>
   bif decide (y3>64)then
    some ([],4)
   else
    some (y2.1,0)
def VH(x:List zb):Option (List zb):=need (ZB 0 x.length 80) (some x)
def VE(Hl:List zb->Option (List zb))(x:List zb):Option (List zb):=
 za (VH x) fun y1=>
 zU (S:=Int×List zb) (X:=List zb) (fun s2=>
   bif decide (s2.1<(y1.length:Int))then
    need (decide (0<=s2.1)&&decide (s2.1<(s2.2.length:Int)))<|
    za s2.2[s2.1.toNat]? fun y3=>
    za (Hl y3.list) fun y4=>
    need (decide (0<=s2.1)&&decide (s2.1<(s2.2.length:Int)))<|
    za s2.2[s2.1.toNat]? fun y5=>
    some (.again (w64 (s2.1+1),List.set s2.2 s2.1.toNat (⟨y5.token,y4⟩:zb)))
   else
    some (.out s2.2)) (0,y1) fun o6=>
 some o6
def Hl:List zb->Option (List zb):=recE (VE)
def xq(x:List zb×Int):Option (List (List zb)×Int):=
 za (Dm x.1) fun y1=>
 bif y1 != 0 then
  some ([],y1)
 else
  bif bif decide (x.2<1)then true else decide (x.2>24)then
   some ([],2)
  else
   zU (S:=(Int×Int)×List (List zb)) (X:=Int×List (List zb)) (fun s2=>
     bif decide (s2.1.2<(x.1.length:Int))then
      Zi (X:=(Int×Int)×List (List zb)) (
        za (geti x.1 s2.1.2) fun y3=>
        bif y3.token.kind==x.2 then
         need (decide (0<=s2.1.1)&&(decide (s2.1.1<=s2.1.2)&&(decide (s2.1.2<=s2.1.2)&&decide (s2.1.2<=(x.1.length:Int))))&&decide (s2.1.2=s2.1.2))<|
         za (Hl (List.drop s2.1.1.toNat (List.take s2.1.2.toNat x.1))) fun y4=>
         need (ZB s2.2.length 1 24)<|
         some (.out ((w64 (s2.1.2+1),s2.1.2),s2.2++[y4]))
        else
         some (.out ((s2.1.1,s2.1.2),s2.2))) fun j5=>
      some (.again ((j5.1.1,w64 (j5.1.2+1)),j5.2))
     else
      some (.out (s2.1.1,s2.2))) ((0,0),[]) fun o6=>
   need (decide (0<=o6.1)&&decide (o6.1<=(x.1.length:Int)))<|
   za (Hl (List.drop o6.1.toNat x.1)) fun y7=>
   need (ZB o6.2.length 1 24)<|
   some (o6.2++[y7],0)
def Tu(x:List zb):Option (List zb):=
 zU (S:=List zb) (X:=List zb) (fun s1=>
   za (zF (decide ((s1.length:Int)>0)) (geti s1 0) (default:zb)) fun y2=>
   za (zF (decide ((s1.length:Int)>0)) (QH ((⟨y2.token,y2.list⟩:zb),13)) (default:Bool)) fun y3=>
   bif bif decide ((s1.length:Int)>0)then y3 else false then
    need (decide (1<=(s1.length:Int)))<|
    some (.again (List.drop 1 s1))
   else
    some (.out s1)) x fun o4=>
 some o4
def mo(x:List zb):Option (List zb):=
 zU (S:=List zb) (X:=List zb) (fun s1=>
   za (zF (decide ((s1.length:Int)>0)) (geti s1 (w64 ((s1.length:Int) - 1))) (default:zb)) fun y2=>
   za (zF (decide ((s1.length:Int)>0)) (QH ((⟨y2.token,y2.list⟩:zb),13)) (default:Bool)) fun y3=>
   bif bif decide ((s1.length:Int)>0)then y3 else false then
    need (decide (0<=w64 ((s1.length:Int) - 1))&&decide (w64 ((s1.length:Int) - 1)<=(s1.length:Int)))<|
    some (.again (List.take (w64 ((s1.length:Int) - 1)).toNat s1))
   else
    some (.out s1)) x fun o4=>
 some o4
def Bz(x:Int×List zb):Option Bool:=
 za (geti x.2 x.1) fun y1=>
 some (y1.token.kind==13)
def Xu(x:List zb):Option (List zb×Int):=
 za (Dm x) fun y1=>
 bif y1 != 0 then
  some ([],y1)
 else
  zU (S:=Int) (X:=Int) (fun s2=>
    za (zF (decide (s2<(x.length:Int))) (Bz (s2,x)) (default:Bool)) fun y3=>
    bif bif decide (s2<(x.length:Int))then y3 else false then
     some (.again (w64 (s2+1)))
    else
     some (.out s2)) 0 fun o4=>
  zU (S:=Int) (X:=Int) (fun s5=>
    za (zF (decide (o4<s5)) (Bz (w64 (s5 - 1),x)) (default:Bool)) fun y6=>
    bif bif decide (o4<s5)then y6 else false then
     some (.again (w64 (s5 - 1)))
    else
     some (.out s5)) (x.length:Int) fun o7=>
  need (decide (0<=o4)&&(decide (o4<=o7)&&(decide (o7<=o7)&&decide (o7<=(x.length:Int))))&&decide (o7=o7))<|
  za (Hl (List.drop o4.toNat (List.take o7.toNat x))) fun y8=>
  some (y8,0)
def Ex(x:List zb):Option (Zu×Bool):=
 za (Tu x) fun y1=>
 za (mo y1) fun y2=>
 za (zF (!((y2.length:Int)==0)) (geti y2 0) (default:zb)) fun y3=>
 za (zF (!((y2.length:Int)==0)) (QH ((⟨y3.token,y3.list⟩:zb),1)) (default:Bool)) fun y4=>
 bif bif (y2.length:Int)==0 then true else !y4 then
  some ((⟨[],[],false⟩:Zu),false)
 else
  za (geti y2 0) fun y5=>
  Zi (X:=List zb×(Str×Bool)×(Str×Bool)) (
    za (strings_HasPrefix (y5.token.text,[45,45])) fun y6=>
    bif !y6 then
     za (ZP y5.token.text) fun y7=>
     some (.out (y2,([],false),(y7,false)))
    else
     some (.out (y2,([],false),(y5.token.text,false)))) fun j8=>
  need (decide (1<=(j8.1.length:Int)))<|
  za (Tu (List.drop 1 j8.1)) fun y9=>
  za (zF (!((y9.length:Int)==0)) (geti y9 0) (default:zb)) fun y10=>
  za (zF (!((y9.length:Int)==0)) (QH ((⟨y10.token,y10.list⟩:zb),16)) (default:Bool)) fun y11=>
  bif bif (y9.length:Int)==0 then true else !y11 then
   some ((⟨[],[],false⟩:Zu),false)
  else
   need (decide (1<=(y9.length:Int)))<|
   za (Tu (List.drop 1 y9)) fun y12=>
   Zi (X:=List zb×(Str×Bool)×(Str×Bool)) (
     za (zF (decide (w64 ((y12.length:Int) - 1)>0)) (geti y12 (w64 ((y12.length:Int) - 1))) (default:zb)) fun y13=>
     za (zF (decide (w64 ((y12.length:Int) - 1)>0)) (QH ((⟨y13.token,y13.list⟩:zb),1)) (default:Bool)) fun y14=>
     za (zF (bif decide (w64 ((y12.length:Int) - 1)>0)then y14 else false) (geti y12 (w64 ((y12.length:Int) - 1))) (default:zb)) fun y15=>
     za (zF (bif decide (w64 ((y12.length:Int) - 1)>0)then y14 else false) (QI (y15.token.text,[105,109,112,111,114,116,97,110,116])) (default:Bool)) fun y16=>
     bif bif bif decide (w64 ((y12.length:Int) - 1)>0)then y14 else false then y16 else false then
      need (decide (0<=w64 ((y12.length:Int) - 1))&&decide (w64 ((y12.length:Int) - 1)<=(y12.length:Int)))<|
      za (mo (List.take (w64 ((y12.length:Int) - 1)).toNat y12)) fun y17=>
      za (zF (decide ((y17.length:Int)>0)) (geti y17 (w64 ((y17.length:Int) - 1))) (default:zb)) fun y18=>
      za (zF (decide ((y17.length:Int)>0)) (jq (⟨y18.token,y18.list⟩:zb)) (default:Bool)) fun y19=>
      bif bif decide ((y17.length:Int)>0)then y19 else false then
       need (decide (0<=w64 ((y17.length:Int) - 1))&&decide (w64 ((y17.length:Int) - 1)<=(y17.length:Int)))<|
       za (mo (List.take (w64 ((y17.length:Int) - 1)).toNat y17)) fun y20=>
       some (.out (y20,(j8.2.1.1,j8.2.1.2),(j8.2.2.1,true)))
      else
       some (.out (y12,(j8.2.1.1,j8.2.1.2),(j8.2.2.1,j8.2.2.2)))
     else
      some (.out (y12,(j8.2.1.1,j8.2.1.2),(j8.2.2.1,j8.2.2.2)))) fun j21=>
   za (Xu j21.1) fun y22=>
   za (zF (!(y22.2 != 0)) (Kn (⟨j21.2.2.1,y22.1,j21.2.2.2⟩:Zu)) (default:Int)) fun y23=>
   bif bif y22.2 != 0 then true else y23 != 0 then
    some ((⟨[],[],false⟩:Zu),false)
   else
    some ((⟨j21.2.2.1,y22.1,j21.2.2.2⟩:Zu),true)
def dB(x:List zb):Option (List Zu×Int):=
 za (xq (x,17)) fun y1=>
 bif y1.2 != 0 then
  some ([],y1.2)
 else
  zU (S:=Int×List Zu) (X:=List Zu) (fun s2=>
    bif decide (s2.1<(y1.1.length:Int))then
     Zi (X:=Int×List Zu) (
       za (geti y1.1 s2.1) fun y3=>
       za (Ex y3) fun y4=>
       bif bif y4.2 then decide ((s2.2.length:Int)<32)else false then
        need (ZB s2.2.length 1 48)<|
        some (.out (s2.1,s2.2++[y4.1]))
       else
        some (.out (s2.1,s2.2))) fun j5=>
     some (.again (w64 (j5.1+1),j5.2))
    else
     some (.out s2.2)) (0,[]) fun o6=>
  some (o6,0)
def ay(x:List zb×List zb):Option (zN×Bool):=
 za (mD x.1) fun y1=>
 bif y1.2 != 0 then
  some ((⟨0,[],[],(⟨0,[],0,(⟨[],[],false⟩:Zu),[]⟩:zu),[],[]⟩:zN),false)
 else
  za (dB x.2) fun y2=>
  some ((⟨1,y1.1,y2.1,(⟨0,[],0,(⟨[],[],false⟩:Zu),[]⟩:zu),[],[]⟩:zN),y2.2==0)
def GM(x:List Str):Option Int:=
 zU (S:=Int) (X:=Unit) (fun s1=>
   bif decide (s1<(x.length:Int))then
    need (decide (0<=s1)&&decide (s1<(x.length:Int)))<|
    za x[s1.toNat]? fun y2=>
    za (Sz y2) fun y3=>
    bif y3 then
     some (.ret s1)
    else
     some (.again (w64 (s1+1)))
   else
    some (.out ())) 0 fun o4=>
 some (-1)
def qL(x:List Str):Option Bool:=
 za (GM x) fun y1=>
 some (decide (y1>=0))
def vF(x:List Str):Option Bool:=
 za (zF (bif decide ((x.length:Int)>0)then decide ((x.length:Int)<=16)else false) (qL x) (default:Bool)) fun y1=>
 some (bif bif decide ((x.length:Int)>0)then decide ((x.length:Int)<=16)else false then !y1 else false)
def lD(x:List zb):Option (List Str×Bool):=
 za (Xu x) fun y1=>
 bif bif y1.2 != 0 then true else Int.tmod (y1.1.length:Int) 2==0 then
  some ([],false)
 else
  zU (S:=Int×List Str) (X:=List Str) (fun s2=>
    bif decide (s2.1<(y1.1.length:Int))then
     Zi (X:=Int×List Str) (
       za (geti y1.1 s2.1) fun y3=>
       bif Int.tmod s2.1 2==1 then
        bif bif y3.token.kind != 9 then true else !(y3.token.text==[46])then
         some (.ret (LO.ret ([],false)))
        else
         some (.out (s2.1,s2.2))
       else
        bif y3.token.kind != 1 then
         some (.ret (LO.ret ([],false)))
        else
         need (ZB s2.2.length 1 16)<|
         some (.out (s2.1,s2.2++[y3.token.text]))) fun j4=>
     some (.again (w64 (j4.1+1),j4.2))
    else
     some (.out s2.2)) (0,[]) fun o5=>
  za (vF o5) fun y6=>
  some (o5,y6)
def Br(x:List zb×Bool):Option (zN×Bool):=
 za (xq (x.1,18)) fun y1=>
 bif bif y1.2 != 0 then true else decide ((y1.1.length:Int)>64)then
  some ((⟨0,[],[],(⟨0,[],0,(⟨[],[],false⟩:Zu),[]⟩:zu),[],[]⟩:zN),false)
 else
  Zi (X:=(Int×Int×Str×Int×Str×Bool)×(Int×Int×Str×Int×Str×Bool)) (
    bif x.2 then
     za (Xu x.1) fun y2=>
     bif (y2.1.length:Int)==0 then
      some (.ret ((⟨4,[],[],(⟨0,[],0,(⟨[],[],false⟩:Zu),[]⟩:zu),[],[]⟩:zN),true))
     else
      some (.out ((0,0,[],0,[],false),(4,0,[],0,[],false)))
    else
     some (.out ((0,0,[],0,[],false),(5,0,[],0,[],false)))) fun j3=>
  zU (S:=Int×(Int×Int×Str×Int×Str×Bool)×(Int×Int×Str×Int×Str×Bool)×List (List Str)) (X:=(Int×Int×Str×Int×Str×Bool)×(Int×Int×Str×Int×Str×Bool)×List (List Str)) (fun s4=>
    bif decide (s4.1<(y1.1.length:Int))then
     za (geti y1.1 s4.1) fun y5=>
     za (lD y5) fun y6=>
     bif !y6.2 then
      some (.ret ((⟨0,[],[],(⟨0,[],0,(⟨[],[],false⟩:Zu),[]⟩:zu),[],[]⟩:zN),false))
     else
      need (ZB s4.2.2.2.length 1 24)<|
      some (.again (w64 (s4.1+1),(s4.2.1.1,s4.2.1.2.1,s4.2.1.2.2.1,s4.2.1.2.2.2.1,s4.2.1.2.2.2.2.1,s4.2.1.2.2.2.2.2),(s4.2.2.1.1,s4.2.2.1.2.1,s4.2.2.1.2.2.1,s4.2.2.1.2.2.2.1,s4.2.2.1.2.2.2.2.1,s4.2.2.1.2.2.2.2.2),s4.2.2.2++[y6.1]))
    else
     some (.out ((s4.2.1.1,s4.2.1.2.1,s4.2.1.2.2.1,s4.2.1.2.2.2.1,s4.2.1.2.2.2.2.1,s4.2.1.2.2.2.2.2),(s4.2.2.1.1,s4.2.2.1.2.1,s4.2.2.1.2.2.1,s4.2.2.1.2.2.2.1,s4.2.2.1.2.2.2.2.1,s4.2.2.1.2.2.2.2.2),s4.2.2.2))) (0,(j3.1.1,j3.1.2.1,j3.1.2.2.1,j3.1.2.2.2.1,j3.1.2.2.2.2.1,j3.1.2.2.2.2.2),(j3.2.1,j3.2.2.1,j3.2.2.2.1,j3.2.2.2.2.1,j3.2.2.2.2.2.1,j3.2.2.2.2.2.2),[]) fun o7=>
  some ((⟨o7.2.1.1,[],[],(⟨o7.2.1.2.1,o7.2.1.2.2.1,o7.2.1.2.2.2.1,(⟨o7.2.1.2.2.2.2.1,[],o7.2.1.2.2.2.2.2⟩:Zu),[]⟩:zu),o7.2.2,[]⟩:zN),bif !x.2 then true else(o7.2.2.length:Int)==1)
def ZY(x:zx):Option Int:=
 bif (x.v.length:Int)==0 then
  some 0
 else
  za (geti x.v 0) fun y1=>
  some y1.token.kind
def ZZ(x:zx):Option (zb×zx):=
 za (geti x.v 0) fun y1=>
 need (decide (1<=(x.v.length:Int)))<|
 some ((⟨y1.token,y1.list⟩:zb),(⟨List.drop 1 x.v⟩:zx))
def Zg(x:zx):Option (Bool×zx):=
 zU (S:=zx) (X:=zx) (fun s1=>
   za (ZY s1) fun y2=>
   bif y2==13 then
    za (ZZ s1) fun y3=>
    some (.again y3.2)
   else
    some (.out s1)) x fun o4=>
 some (decide ((o4.v.length:Int)<(x.v.length:Int)),o4)
def Qc(x:List Str×zx):Option (Str×zx):=
 zU (S:=Int×zx) (X:=zx) (fun s1=>
   bif decide (s1.1<(x.1.length:Int))then
    za (geti x.1 s1.1) fun y2=>
    za (ZY s1.2) fun y3=>
    za (zF (y3==1) (geti s1.2.v 0) (default:zb)) fun y4=>
    za (zF (y3==1) (QI (y4.token.text,y2)) (default:Bool)) fun y5=>
    bif bif y3==1 then y5 else false then
     za (ZZ s1.2) fun y6=>
     some (.ret (y2,y6.2))
    else
     some (.again (w64 (s1.1+1),s1.2))
   else
    some (.out s1.2)) (0,x.2) fun o7=>
 some ([],o7)
def Q0(x:zx):Option ((zu×Bool)×zx):=
 za (ZY x) fun y1=>
 bif y1 != 21 then
  some (((⟨0,[],0,(⟨[],[],false⟩:Zu),[]⟩:zu),false),x)
 else
  za (ZZ x) fun y2=>
  za (Zg (⟨y2.1.list⟩:zx)) fun y3=>
  Zi (X:=(Int×Str×Int×Str×Bool)×zx×(Int×Str×Int×Str×Bool)) (
    za (Qc ([[109,105,110,45,119,105,100,116,104],[109,97,120,45,119,105,100,116,104]],y3.2)) fun y4=>
    bif y4.1==[]then
     some (.ret (((⟨5,[],0,(⟨[],[],false⟩:Zu),[]⟩:zu),false),y2.2))
    else
     bif y4.1==[109,97,120,45,119,105,100,116,104]then
      some (.out ((0,[],0,[],false),y4.2,(6,[],0,[],false)))
     else
      some (.out ((0,[],0,[],false),y4.2,(5,[],0,[],false)))) fun j5=>
  za (Zg j5.2.1) fun y6=>
  za (ZY y6.2) fun y7=>
  bif y7 != 16 then
   some (((⟨j5.2.2.1,j5.2.2.2.1,j5.2.2.2.2.1,(⟨j5.2.2.2.2.2.1,[],j5.2.2.2.2.2.2⟩:Zu),[]⟩:zu),false),y2.2)
  else
   za (ZZ y6.2) fun y8=>
   za (Zg y8.2) fun y9=>
   za (ZY y9.2) fun y10=>
   za (zF (y10 != 12) (ZY y9.2) (default:Int)) fun y11=>
   bif bif y10 != 12 then y11 != 10 else false then
    some (((⟨j5.2.2.1,j5.2.2.2.1,j5.2.2.2.2.1,(⟨j5.2.2.2.2.2.1,[],j5.2.2.2.2.2.2⟩:Zu),[]⟩:zu),false),y2.2)
   else
    za (ZZ y9.2) fun y12=>
    za (Zg y12.2) fun y13=>
    za (zF (y12.1.token.kind==12) (QI (y12.1.token.unit,[112,120])) (default:Bool)) fun y14=>
    za (zF (bif bif bif y12.1.token.kind==12 then y14 else false then true else bif y12.1.token.kind==10 then y12.1.token.num==0 else false then decide (y12.1.token.num>=0)else false) (Gv y12.1.token.num) (default:Int)) fun y15=>
    some (((⟨j5.2.2.1,j5.2.2.2.1,y12.1.token.num,(⟨j5.2.2.2.2.2.1,[],j5.2.2.2.2.2.2⟩:Zu),[]⟩:zu),bif bif bif bif bif y12.1.token.kind==12 then y14 else false then true else bif y12.1.token.kind==10 then y12.1.token.num==0 else false then decide (y12.1.token.num>=0)else false then y15==0 else false then(y13.2.v.length:Int)==0 else false),y2.2)
def PH(x:zx):Option ((zu×Bool)×zx):=
 za (Zg x) fun y1=>
 za (Qc ([[110,111,116],[111,110,108,121]],y1.2)) fun y2=>
 za (Zg y2.2) fun y3=>
 Zi (X:=zx×(Int×Str×Int×Str×Bool)×(Int×Str×Int×Str×Bool)×List zu) (
   za (ZY y3.2) fun y4=>
   bif y4==1 then
    za (ZZ y3.2) fun y5=>
    za (ZP y5.1.token.text) fun y6=>
    za (Dv y6) fun y7=>
    bif !y7 then
     some (.ret (((⟨1,[],0,(⟨[],[],false⟩:Zu),[]⟩:zu),false),y5.2))
    else
     need (ZB 0 1 104)<|
     some (.out (y5.2,(0,[],0,[],false),(1,[],0,[],false),[(⟨4,y6,0,(⟨[],[],false⟩:Zu),[]⟩:zu)]))
   else
    za (Q0 y3.2) fun y8=>
    bif bif !y8.1.2 then true else !(y2.1==[])then
     some (.ret (((⟨1,[],0,(⟨[],[],false⟩:Zu),[]⟩:zu),false),y8.2))
    else
     need (ZB 0 1 104)<|
     some (.out (y8.2,(0,[],0,[],false),(1,[],0,[],false),[(⟨y8.1.1.kind,y8.1.1.name,y8.1.1.num,y8.1.1.decl,y8.1.1.list⟩:zu)]))) fun j9=>
 za (Zg j9.1) fun y10=>
 zU (S:=zx×(Int×Str×Int×Str×Bool)×(Int×Str×Int×Str×Bool)×List zu) (X:=zx×(Int×Str×Int×Str×Bool)×(Int×Str×Int×Str×Bool)×List zu) (fun s11=>
   bif decide ((s11.1.v.length:Int)>0)then
    za (Qc ([[97,110,100]],s11.1)) fun y12=>
    bif y12.1==[]then
     some (.ret (((⟨s11.2.2.1.1,s11.2.2.1.2.1,s11.2.2.1.2.2.1,(⟨s11.2.2.1.2.2.2.1,[],s11.2.2.1.2.2.2.2⟩:Zu),s11.2.2.2⟩:zu),false),y12.2))
    else
     za (Zg y12.2) fun y13=>
     za (Q0 y13.2) fun y14=>
     bif !y14.1.2 then
      some (.ret (((⟨s11.2.2.1.1,s11.2.2.1.2.1,s11.2.2.1.2.2.1,(⟨s11.2.2.1.2.2.2.1,[],s11.2.2.1.2.2.2.2⟩:Zu),s11.2.2.2⟩:zu),false),y14.2))
     else
      need (ZB s11.2.2.2.length 1 104)<|
      za (Zg y14.2) fun y15=>
      some (.again (y15.2,(s11.2.1.1,s11.2.1.2.1,s11.2.1.2.2.1,s11.2.1.2.2.2.1,s11.2.1.2.2.2.2),(s11.2.2.1.1,s11.2.2.1.2.1,s11.2.2.1.2.2.1,s11.2.2.1.2.2.2.1,s11.2.2.1.2.2.2.2),s11.2.2.2++[(⟨y14.1.1.kind,y14.1.1.name,y14.1.1.num,y14.1.1.decl,y14.1.1.list⟩:zu)]))
   else
    some (.out (s11.1,(s11.2.1.1,s11.2.1.2.1,s11.2.1.2.2.1,s11.2.1.2.2.2.1,s11.2.1.2.2.2.2),(s11.2.2.1.1,s11.2.2.1.2.1,s11.2.2.1.2.2.1,s11.2.2.1.2.2.2.1,s11.2.2.1.2.2.2.2),s11.2.2.2))) (y10.2,(j9.2.1.1,j9.2.1.2.1,j9.2.1.2.2.1,j9.2.1.2.2.2.1,j9.2.1.2.2.2.2),(j9.2.2.1.1,j9.2.2.1.2.1,j9.2.2.1.2.2.1,j9.2.2.1.2.2.2.1,j9.2.2.1.2.2.2.2),j9.2.2.2) fun o16=>
 Zi (X:=(Int×Str×Int×Str×Bool)×(Int×Str×Int×Str×Bool×List zu)) (
   bif y2.1==[110,111,116]then
    some (.out ((o16.2.1.1,o16.2.1.2.1,o16.2.1.2.2.1,o16.2.1.2.2.2.1,o16.2.1.2.2.2.2),(3,[],0,[],false,[(⟨o16.2.2.1.1,o16.2.2.1.2.1,o16.2.2.1.2.2.1,(⟨o16.2.2.1.2.2.2.1,[],o16.2.2.1.2.2.2.2⟩:Zu),o16.2.2.2⟩:zu)])))
   else
    some (.out ((o16.2.1.1,o16.2.1.2.1,o16.2.1.2.2.1,o16.2.1.2.2.2.1,o16.2.1.2.2.2.2),(o16.2.2.1.1,o16.2.2.1.2.1,o16.2.2.1.2.2.1,o16.2.2.1.2.2.2.1,o16.2.2.1.2.2.2.2,o16.2.2.2)))) fun j17=>
 some (((⟨j17.2.1,j17.2.2.1,j17.2.2.2.1,(⟨j17.2.2.2.2.1,[],j17.2.2.2.2.2.1⟩:Zu),j17.2.2.2.2.2.2⟩:zu),true),o16.1)
def rq(x:List zb):Option (zu×Int):=
 za (xq (x,18)) fun y1=>
 bif y1.2 != 0 then
  some ((⟨0,[],0,(⟨[],[],false⟩:Zu),[]⟩:zu),y1.2)
 else
  Zi (X:=Int×Str×Int×Str×Bool) (
    bif (y1.1.length:Int)==1 then
     za (Zg (⟨x⟩:zx)) fun y2=>
     bif (y2.2.v.length:Int)==0 then
      some (.ret ((⟨1,[],0,(⟨[],[],false⟩:Zu),[]⟩:zu),0))
     else
      some (.out (0,[],0,[],false))
    else
     some (.out (0,[],0,[],false))) fun j3=>
  bif decide ((y1.1.length:Int)>64)then
   some ((⟨0,[],0,(⟨[],[],false⟩:Zu),[]⟩:zu),4)
  else
   zU (S:=Int×(Int×Str×Int×Str×Bool)×List zu) (X:=(Int×Str×Int×Str×Bool)×List zu) (fun s4=>
     bif decide (s4.1<(y1.1.length:Int))then
      za (geti y1.1 s4.1) fun y5=>
      za (PH (⟨y5⟩:zx)) fun y6=>
      Zi (X:=(Int×Str×Int×Str×Bool)×List zu×zu) (
        bif !y6.1.2 then
         some (.out ((s4.2.1.1,s4.2.1.2.1,s4.2.1.2.2.1,s4.2.1.2.2.2.1,s4.2.1.2.2.2.2),s4.2.2,(⟨3,[],0,(⟨[],[],false⟩:Zu),[(⟨1,[],0,(⟨[],[],false⟩:Zu),[(⟨4,[97,108,108],0,(⟨[],[],false⟩:Zu),[]⟩:zu)]⟩:zu)]⟩:zu)))
        else
         some (.out ((s4.2.1.1,s4.2.1.2.1,s4.2.1.2.2.1,s4.2.1.2.2.2.1,s4.2.1.2.2.2.2),s4.2.2,(⟨y6.1.1.kind,y6.1.1.name,y6.1.1.num,y6.1.1.decl,y6.1.1.list⟩:zu)))) fun j7=>
      need (ZB j7.2.1.length 1 104)<|
      some (.again (w64 (s4.1+1),(j7.1.1,j7.1.2.1,j7.1.2.2.1,j7.1.2.2.2.1,j7.1.2.2.2.2),j7.2.1++[(⟨j7.2.2.kind,j7.2.2.name,j7.2.2.num,j7.2.2.decl,j7.2.2.list⟩:zu)]))
     else
      some (.out ((s4.2.1.1,s4.2.1.2.1,s4.2.1.2.2.1,s4.2.1.2.2.2.1,s4.2.1.2.2.2.2),s4.2.2))) (0,(2,[],0,[],false),[]) fun o8=>
   some ((⟨o8.1.1,o8.1.2.1,o8.1.2.2.1,(⟨o8.1.2.2.2.1,[],o8.1.2.2.2.2⟩:Zu),o8.2⟩:zu),0)
def vC(x:List zb):Option (Zu×Bool×Int):=
 za (Dm x) fun y1=>
 bif y1 != 0 then
  some ((⟨[],[],false⟩:Zu),false,y1)
 else
  za (Ex x) fun y2=>
  some (y2.1,y2.2,0)
def qz(Zl:zx->Option ((zu×Bool)×zx))(x:zx):Option ((zu×Bool)×zx):=
 za (ZY x) fun y1=>
 bif y1==2 then
  za (ZZ x) fun y2=>
  some (((⟨8,[],0,(⟨[],[],false⟩:Zu),[]⟩:zu),true),y2.2)
 else
  bif y1==21 then
   za (ZZ x) fun y3=>
   za (vC y3.1.list) fun y4=>
   bif bif y4.2.2==0 then y4.2.1 else false then
    some (((⟨7,[],0,y4.1,[]⟩:zu),true),y3.2)
   else
    za (Zl (⟨y3.1.list⟩:zx)) fun y5=>
    bif y5.1.2 then
     some (((⟨y5.1.1.kind,y5.1.1.name,y5.1.1.num,y5.1.1.decl,y5.1.1.list⟩:zu),true),y3.2)
    else
     some (((⟨8,[],0,(⟨[],[],false⟩:Zu),[]⟩:zu),true),y3.2)
  else
   some (((⟨8,[],0,(⟨[],[],false⟩:Zu),[]⟩:zu),false),x)
def qO(Zl:zx->Option ((zu×Bool)×zx))(x:zx):Option ((zu×Bool)×zx):=
 za (Zg x) fun y1=>
 za (Qc ([[110,111,116]],y1.2)) fun y2=>
 bif !(y2.1==[])then
  za (Zg y2.2) fun y3=>
  za (qz Zl y3.2) fun y4=>
  za (Zg y4.2) fun y5=>
  some (((⟨3,[],0,(⟨[],[],false⟩:Zu),[(⟨y4.1.1.kind,y4.1.1.name,y4.1.1.num,y4.1.1.decl,y4.1.1.list⟩:zu)]⟩:zu),bif bif y4.1.2 then y3.1 else false then(y5.2.v.length:Int)==0 else false),y5.2)
 else
  za (qz Zl y2.2) fun y6=>
  bif !y6.1.2 then
   some (((⟨y6.1.1.kind,y6.1.1.name,y6.1.1.num,y6.1.1.decl,y6.1.1.list⟩:zu),false),y6.2)
  else
   za (Zg y6.2) fun y7=>
   bif (y7.2.v.length:Int)==0 then
    some (((⟨y6.1.1.kind,y6.1.1.name,y6.1.1.num,y6.1.1.decl,y6.1.1.list⟩:zu),true),y7.2)
   else
    zU (S:=Bool×zx×(Int×Str×Int×Str×Bool)×(Int×Str×Int×Str×Bool)×List zu) (X:=zx×(Int×Str×Int×Str×Bool)×(Int×Str×Int×Str×Bool)×List zu) (fun s8=>
      bif decide ((s8.2.1.v.length:Int)>0)then
       za (Qc ([[97,110,100],[111,114]],s8.2.1)) fun y9=>
       bif bif bif (bif y9.1==[97,110,100]then 1 else bif y9.1==[111,114]then 2 else(0:Int))==0 then true else !s8.1 then true else bif s8.2.2.2.1.1 != 0 then s8.2.2.2.1.1 != (bif y9.1==[97,110,100]then 1 else bif y9.1==[111,114]then 2 else(0:Int))else false then
        some (.ret (((⟨s8.2.2.2.1.1,s8.2.2.2.1.2.1,s8.2.2.2.1.2.2.1,(⟨s8.2.2.2.1.2.2.2.1,[],s8.2.2.2.1.2.2.2.2⟩:Zu),s8.2.2.2.2⟩:zu),false),y9.2))
       else
        za (Zg y9.2) fun y10=>
        za (qz Zl y10.2) fun y11=>
        bif bif !y10.1 then true else !y11.1.2 then
         some (.ret (((⟨bif y9.1==[97,110,100]then 1 else bif y9.1==[111,114]then 2 else(0:Int),s8.2.2.2.1.2.1,s8.2.2.2.1.2.2.1,(⟨s8.2.2.2.1.2.2.2.1,[],s8.2.2.2.1.2.2.2.2⟩:Zu),s8.2.2.2.2⟩:zu),false),y11.2))
        else
         need (ZB s8.2.2.2.2.length 1 104)<|
         za (Zg y11.2) fun y12=>
         some (.again (y12.1,y12.2,(s8.2.2.1.1,s8.2.2.1.2.1,s8.2.2.1.2.2.1,s8.2.2.1.2.2.2.1,s8.2.2.1.2.2.2.2),(bif y9.1==[97,110,100]then 1 else bif y9.1==[111,114]then 2 else(0:Int),s8.2.2.2.1.2.1,s8.2.2.2.1.2.2.1,s8.2.2.2.1.2.2.2.1,s8.2.2.2.1.2.2.2.2),s8.2.2.2.2++[(⟨y11.1.1.kind,y11.1.1.name,y11.1.1.num,y11.1.1.decl,y11.1.1.list⟩:zu)]))
      else
       some (.out (s8.2.1,(s8.2.2.1.1,s8.2.2.1.2.1,s8.2.2.1.2.2.1,s8.2.2.1.2.2.2.1,s8.2.2.1.2.2.2.2),(s8.2.2.2.1.1,s8.2.2.2.1.2.1,s8.2.2.2.1.2.2.1,s8.2.2.2.1.2.2.2.1,s8.2.2.2.1.2.2.2.2),s8.2.2.2.2))) (y7.1,y7.2,(0,[],0,[],false),(0,[],0,[],false),[(⟨y6.1.1.kind,y6.1.1.name,y6.1.1.num,y6.1.1.decl,y6.1.1.list⟩:zu)]) fun o13=>
    some (((⟨o13.2.2.1.1,o13.2.2.1.2.1,o13.2.2.1.2.2.1,(⟨o13.2.2.1.2.2.2.1,[],o13.2.2.1.2.2.2.2⟩:Zu),o13.2.2.2⟩:zu),true),o13.1)
def Zl:zx->Option ((zu×Bool)×zx):=recE (qO)
def Kr(x:List zb):Option (zu×Int):=
 za (Dm x) fun y1=>
 bif y1 != 0 then
  some ((⟨0,[],0,(⟨[],[],false⟩:Zu),[]⟩:zu),y1)
 else
  za (Zl (⟨x⟩:zx)) fun y2=>
  za (zF (!(!y2.1.2)) (uz (⟨y2.1.1.kind,y2.1.1.name,y2.1.1.num,y2.1.1.decl,y2.1.1.list⟩:zu)) (default:Int)) fun y3=>
  bif bif !y2.1.2 then true else y3 != 0 then
   some ((⟨0,[],0,(⟨[],[],false⟩:Zu),[]⟩:zu),12)
  else
   some ((⟨y2.1.1.kind,y2.1.1.name,y2.1.1.num,y2.1.1.decl,y2.1.1.list⟩:zu),0)
def wz(x:(Bool×Str×List zb)×zt):Option ((zN×Bool)×zt):=
 Zi (X:=Bool×zt×(Int×Int×Str×Int×Str×Bool)×zN) (
   bif bif !x.1.1 then false else false then
    none
   else
    bif bif x.1.1 then x.1.2.1==[108,97,121,101,114]else false then
     za (Br (x.1.2.2,false)) fun y1=>
     some (.out (y1.2,x.2,(0,0,[],0,[],false),(⟨y1.1.kind,y1.1.selectors,y1.1.decls,(⟨y1.1.cond.kind,y1.1.cond.name,y1.1.cond.num,y1.1.cond.decl,y1.1.cond.list⟩:zu),y1.1.names,y1.1.rules⟩:zN)))
    else
     bif bif bif x.1.1 then x.1.2.1==[109,101,100,105,97]else false then false else false then
      za (rq x.1.2.2) fun y2=>
      some (.out (y2.2==0,x.2,(0,0,[],0,[],false),(⟨2,[],[],(⟨y2.1.kind,y2.1.name,y2.1.num,y2.1.decl,y2.1.list⟩:zu),[],[]⟩:zN)))
     else
      bif bif bif x.1.1 then x.1.2.1==[115,117,112,112,111,114,116,115]else false then false else false then
       za (Kr x.1.2.2) fun y3=>
       some (.out (y3.2==0,x.2,(0,0,[],0,[],false),(⟨3,[],[],(⟨y3.1.kind,y3.1.name,y3.1.num,y3.1.decl,y3.1.list⟩:zu),[],[]⟩:zN)))
      else
       some (.out (false,x.2,(0,0,[],0,[],false),(⟨0,[],[],(⟨0,[],0,(⟨[],[],false⟩:Zu),[]⟩:zu),[],[]⟩:zN)))) fun j4=>
 bif !j4.1 then
  some (((⟨0,[],[],(⟨0,[],0,(⟨[],[],false⟩:Zu),[]⟩:zu),[],[]⟩:zN),false),j4.2.1)
 else
  bif bif bif j4.2.2.2.kind==2 then true else j4.2.2.2.kind==3 then true else j4.2.2.2.kind==4 then
   none
  else
   some (((⟨j4.2.2.2.kind,j4.2.2.2.selectors,j4.2.2.2.decls,(⟨j4.2.2.2.cond.kind,j4.2.2.2.cond.name,j4.2.2.2.cond.num,j4.2.2.2.cond.decl,j4.2.2.2.cond.list⟩:zu),j4.2.2.2.names,j4.2.2.2.rules⟩:zN),true),(⟨w64 (j4.2.1.room - 1),j4.2.1.constructs⟩:zt))
def qG(Ze:(List zb×Bool)×zt->Option (List zN×zt))(x:(Bool×Str×List zb×zb)×zt):Option ((zN×Bool)×zt):=
 Zi (X:=Bool×zt×(Int×Int×Str×Int×Str×Bool)×zN) (
   bif bif !x.1.1 then true else false then
    za (ay (x.1.2.2.1,x.1.2.2.2.list)) fun y1=>
    some (.out (y1.2,x.2,(0,0,[],0,[],false),(⟨y1.1.kind,y1.1.selectors,y1.1.decls,(⟨y1.1.cond.kind,y1.1.cond.name,y1.1.cond.num,y1.1.cond.decl,y1.1.cond.list⟩:zu),y1.1.names,y1.1.rules⟩:zN)))
   else
    bif bif x.1.1 then x.1.2.1==[108,97,121,101,114]else false then
     za (Br (x.1.2.2.1,true)) fun y2=>
     some (.out (y2.2,x.2,(0,0,[],0,[],false),(⟨y2.1.kind,y2.1.selectors,y2.1.decls,(⟨y2.1.cond.kind,y2.1.cond.name,y2.1.cond.num,y2.1.cond.decl,y2.1.cond.list⟩:zu),y2.1.names,y2.1.rules⟩:zN)))
    else
     bif bif bif x.1.1 then x.1.2.1==[109,101,100,105,97]else false then true else false then
      za (rq x.1.2.2.1) fun y3=>
      some (.out (y3.2==0,x.2,(0,0,[],0,[],false),(⟨2,[],[],(⟨y3.1.kind,y3.1.name,y3.1.num,y3.1.decl,y3.1.list⟩:zu),[],[]⟩:zN)))
     else
      bif bif bif x.1.1 then x.1.2.1==[115,117,112,112,111,114,116,115]else false then true else false then
       za (Kr x.1.2.2.1) fun y4=>
       some (.out (y4.2==0,x.2,(0,0,[],0,[],false),(⟨3,[],[],(⟨y4.1.kind,y4.1.name,y4.1.num,y4.1.decl,y4.1.list⟩:zu),[],[]⟩:zN)))
      else
       some (.out (false,x.2,(0,0,[],0,[],false),(⟨0,[],[],(⟨0,[],0,(⟨[],[],false⟩:Zu),[]⟩:zu),[],[]⟩:zN)))) fun j5=>
 bif !j5.1 then
  some (((⟨0,[],[],(⟨0,[],0,(⟨[],[],false⟩:Zu),[]⟩:zu),[],[]⟩:zN),false),j5.2.1)
 else
  Zi (X:=zt×(Int×Int×Str×Int×Str×Bool)×zN) (
    bif bif bif j5.2.2.2.kind==2 then true else j5.2.2.2.kind==3 then true else j5.2.2.2.kind==4 then
     za (Ze ((x.1.2.2.2.list,false),(⟨w64 (j5.2.1.room - 1),j5.2.1.constructs⟩:zt))) fun y6=>
     some (.out (y6.2,(j5.2.2.1.1,j5.2.2.1.2.1,j5.2.2.1.2.2.1,j5.2.2.1.2.2.2.1,j5.2.2.1.2.2.2.2.1,j5.2.2.1.2.2.2.2.2),(⟨j5.2.2.2.kind,j5.2.2.2.selectors,j5.2.2.2.decls,(⟨j5.2.2.2.cond.kind,j5.2.2.2.cond.name,j5.2.2.2.cond.num,j5.2.2.2.cond.decl,j5.2.2.2.cond.list⟩:zu),j5.2.2.2.names,y6.1⟩:zN)))
    else
     some (.out ((⟨w64 (j5.2.1.room - 1),j5.2.1.constructs⟩:zt),(j5.2.2.1.1,j5.2.2.1.2.1,j5.2.2.1.2.2.1,j5.2.2.1.2.2.2.1,j5.2.2.1.2.2.2.2.1,j5.2.2.1.2.2.2.2.2),(⟨j5.2.2.2.kind,j5.2.2.2.selectors,j5.2.2.2.decls,(⟨j5.2.2.2.cond.kind,j5.2.2.2.cond.name,j5.2.2.2.cond.num,j5.2.2.2.cond.decl,j5.2.2.2.cond.list⟩:zu),j5.2.2.2.names,j5.2.2.2.rules⟩:zN)))) fun j7=>
  some (((⟨j7.2.2.kind,j7.2.2.selectors,j7.2.2.decls,(⟨j7.2.2.cond.kind,j7.2.2.cond.name,j7.2.2.cond.num,j7.2.2.cond.decl,j7.2.2.cond.list⟩:zu),j7.2.2.names,j7.2.2.rules⟩:zN),true),j7.1)
def ql(Ze:(List zb×Bool)×zt->Option (List zN×zt))(x:(List zb×Bool)×zt):Option (List zN×zt):=
 zU (S:=List zb×zt×List zN) (X:=zt×List zN) (fun s1=>
   bif decide ((s1.1.length:Int)>0)then
    za (Ky s1.1) fun y2=>
    bif bif y2==13 then true else bif x.1.2 then bif y2==14 then true else y2==15 else false then
     need (decide (1<=(s1.1.length:Int)))<|
     some (.again (List.drop 1 s1.1,s1.2.1,s1.2.2))
    else
     Zi (X:=List zb×zt×List zN) (
       bif x.1.2 then
        some (.out (s1.1,(⟨s1.2.1.room,w64 (s1.2.1.constructs+1)⟩:zt),s1.2.2))
       else
        some (.out (s1.1,s1.2.1,s1.2.2))) fun j3=>
     Zi (X:=(List zb×Str)×zt×List zN×List UInt8) (
       bif y2==3 then
        za (geti j3.1 0) fun y4=>
        za (ZP y4.token.text) fun y5=>
        need (ZB 1 1 1)<|
        need (decide (1<=(j3.1.length:Int)))<|
        some (.out ((List.drop 1 j3.1,y5),j3.2.1,j3.2.2,[(23:UInt8),(17:UInt8)]))
       else
        some (.out ((j3.1,[]),j3.2.1,j3.2.2,[(23:UInt8)]))) fun j6=>
     za (IE (j6.1.1,j6.2.2.2)) fun y7=>
     za (Ky y7.2) fun y8=>
     bif y8==23 then
      za (geti y7.2 0) fun y9=>
      Zi (X:=List zb×zt×List zN) (
        bif decide ((y7.2.length:Int)>0)then
         need (decide (1<=(y7.2.length:Int)))<|
         some (.out (List.drop 1 y7.2,j6.2.1,j6.2.2.1))
        else
         some (.out (y7.2,j6.2.1,j6.2.2.1))) fun j10=>
      bif j10.2.1.room==0 then
       some (.again (j10.1,j10.2.1,j10.2.2))
      else
       za (qG Ze ((y2==3,j6.1.2,y7.1,y9),j10.2.1)) fun y11=>
       bif y11.1.2 then
        need (ZB j10.2.2.length 1 208)<|
        some (.again (j10.1,y11.2,j10.2.2++[(⟨y11.1.1.kind,y11.1.1.selectors,y11.1.1.decls,(⟨y11.1.1.cond.kind,y11.1.1.cond.name,y11.1.1.cond.num,y11.1.1.cond.decl,y11.1.1.cond.list⟩:zu),y11.1.1.names,y11.1.1.rules⟩:zN)]))
       else
        some (.again (j10.1,y11.2,j10.2.2))
     else
      Zi (X:=List zb×zt×List zN) (
        bif decide ((y7.2.length:Int)>0)then
         need (decide (1<=(y7.2.length:Int)))<|
         some (.out (List.drop 1 y7.2,j6.2.1,j6.2.2.1))
        else
         some (.out (y7.2,j6.2.1,j6.2.2.1))) fun j12=>
      bif j12.2.1.room==0 then
       some (.again (j12.1,j12.2.1,j12.2.2))
      else
       za (wz ((y2==3,j6.1.2,y7.1),j12.2.1)) fun y13=>
       bif y13.1.2 then
        need (ZB j12.2.2.length 1 208)<|
        some (.again (j12.1,y13.2,j12.2.2++[(⟨y13.1.1.kind,y13.1.1.selectors,y13.1.1.decls,(⟨y13.1.1.cond.kind,y13.1.1.cond.name,y13.1.1.cond.num,y13.1.1.cond.decl,y13.1.1.cond.list⟩:zu),y13.1.1.names,y13.1.1.rules⟩:zN)]))
       else
        some (.again (j12.1,y13.2,j12.2.2))
   else
    some (.out (s1.2.1,s1.2.2))) (x.1.1,x.2,[]) fun o14=>
 some (o14.2,o14.1)
def Ze:(List zb×Bool)×zt->Option (List zN×zt):=recE (ql)
def kD(x:Str):Option (List zN×Int):=
 za (su x) fun y1=>
 bif y1.2 != 0 then
  some ([],y1.2)
 else
  za (parseF y1.1) fun y2=>
  bif y2.2 != 0 then
   some ([],y2.2)
  else
   za (Ze ((y2.1,true),(⟨64,0⟩:zt))) fun y3=>
   none
def oq(x:Str):Option (zbj×Int):=
 za (kD x) fun y1=>
 bif y1.2 != 0 then
  some ((⟨[]⟩:zbj),y1.2)
 else
  some ((⟨y1.1⟩:zbj),0)
def wE(x:Str):Option ((List zN×Int)×zt):=
 za (su x) fun y1=>
 bif y1.2 != 0 then
  none
 else
  za (parseF y1.1) fun y2=>
  bif y2.2 != 0 then
   none
  else
   za (Ze ((y2.1,true),(⟨64,0⟩:zt))) fun y3=>
   some ((y3.1,0),y3.2)
def wu(x:Str):Option (zbj×Int):=
 za (wE x) fun y1=>
 bif y1.1.2 != 0 then
  some ((⟨[]⟩:zbj),y1.1.2)
 else
  some ((⟨y1.1.1⟩:zbj),0)
def qo(x:Str):Option (zbj×Int):=
 za (su x) fun y1=>
 bif !(y1.2==0)then
  za (oq x) fun z1=>
  some z1
 else
  za (parseF y1.1) fun y2=>
  bif !(y2.2==0)then
   za (oq x) fun z1=>
   some z1
  else
   za (wu x) fun z1=>
   some z1
def bL(x:List UInt8):Option (List UInt8):=need (ZB 0 x.length 1) (some x)
def dL(x:List zJ):Option (List zJ):=need (ZB 0 x.length 104) (some x)
def kH(ZM:List zm->Option (List zm))(x:List zm):Option (List zm):=
 zU (S:=Int×List zm) (X:=List zm) (fun s1=>
   bif decide (s1.1<(x.length:Int))then
    za (geti x s1.1) fun y2=>
    za (bL y2.combs) fun y3=>
    zU (S:=Int×List zQ) (X:=List zQ) (fun s4=>
      bif decide (s4.1<(y2.parts.length:Int))then
       za (geti y2.parts s4.1) fun y5=>
       za (dL y5.simples) fun y6=>
       zU (S:=Int×List zJ) (X:=List zJ) (fun s7=>
         bif decide (s7.1<(y6.length:Int))then
          need (decide (0<=s7.1)&&decide (s7.1<(s7.2.length:Int)))<|
          za s7.2[s7.1.toNat]? fun y8=>
          za (ZM y8.list) fun y9=>
          need (decide (0<=s7.1)&&decide (s7.1<(s7.2.length:Int)))<|
          za s7.2[s7.1.toNat]? fun y10=>
          some (.again (w64 (s7.1+1),List.set s7.2 s7.1.toNat (⟨y10.kind,y10.name,y10.op,y10.value,y10.fold,y10.anb,y10.of_,y9⟩:zJ)))
         else
          some (.out s7.2)) (0,y6) fun o11=>
       need (ZB s4.2.length 1 40)<|
       some (.again (w64 (s4.1+1),s4.2++[(⟨y5.tag,o11⟩:zQ)]))
      else
       some (.out s4.2)) (0,[]) fun o12=>
    need (ZB s1.2.length 1 56)<|
    some (.again (w64 (s1.1+1),s1.2++[(⟨y2.lead,o12,y3⟩:zm)]))
   else
    some (.out s1.2)) (0,[]) fun o13=>
 some o13
def ZM:List zm->Option (List zm):=recE (kH)
def UH(ZN:List zb->Option (List zb))(x:List zb):Option (List zb):=
 zU (S:=Int×List zb) (X:=List zb) (fun s1=>
   bif decide (s1.1<(x.length:Int))then
    za (geti x s1.1) fun y2=>
    za (ZN y2.list) fun y3=>
    need (ZB s1.2.length 1 80)<|
    some (.again (w64 (s1.1+1),s1.2++[(⟨y2.token,y3⟩:zb)]))
   else
    some (.out s1.2)) (0,[]) fun o4=>
 some o4
def ZN:List zb->Option (List zb):=recE (UH)
def kz(x:List Zu):Option (List Zu):=
 zU (S:=Int×List Zu) (X:=List Zu) (fun s1=>
   bif decide (s1.1<(x.length:Int))then
    za (geti x s1.1) fun y2=>
    za (ZN y2.value) fun y3=>
    need (ZB s1.2.length 1 48)<|
    some (.again (w64 (s1.1+1),s1.2++[(⟨y2.name,y3,y2.important⟩:Zu)]))
   else
    some (.out s1.2)) (0,[]) fun o4=>
 some o4
def yG(qN:zu->Option zu)(x:zu):Option zu:=
 za (ZN x.decl.value) fun y1=>
 zU (S:=Int×List zu) (X:=List zu) (fun s2=>
   bif decide (s2.1<(x.list.length:Int))then
    za (geti x.list s2.1) fun y3=>
    za (qN (⟨y3.kind,y3.name,y3.num,y3.decl,y3.list⟩:zu)) fun y4=>
    need (ZB s2.2.length 1 104)<|
    some (.again (w64 (s2.1+1),s2.2++[(⟨y4.kind,y4.name,y4.num,y4.decl,y4.list⟩:zu)]))
   else
    some (.out s2.2)) (0,[]) fun o5=>
 some (⟨x.kind,x.name,x.num,(⟨x.decl.name,y1,x.decl.important⟩:Zu),o5⟩:zu)
def qN:zu->Option zu:=recE (yG)
def slices_Clone_string(x:List Str):Option (List Str):=need (ZB 0 x.length 16) (some x)
def wG(qx:List zN->Option (List zN))(x:List zN):Option (List zN):=
 zU (S:=Int×List zN) (X:=List zN) (fun s1=>
   bif decide (s1.1<(x.length:Int))then
    za (geti x s1.1) fun y2=>
    za (ZM y2.selectors) fun y3=>
    za (kz y2.decls) fun y4=>
    za (qN (⟨y2.cond.kind,y2.cond.name,y2.cond.num,y2.cond.decl,y2.cond.list⟩:zu)) fun y5=>
    zU (S:=Int×List (List Str)) (X:=List (List Str)) (fun s6=>
      bif decide (s6.1<(y2.names.length:Int))then
       za (geti y2.names s6.1) fun y7=>
       za (slices_Clone_string y7) fun y8=>
       need (ZB s6.2.length 1 24)<|
       some (.again (w64 (s6.1+1),s6.2++[y8]))
      else
       some (.out s6.2)) (0,[]) fun o9=>
    za (qx y2.rules) fun y10=>
    need (ZB s1.2.length 1 208)<|
    some (.again (w64 (s1.1+1),s1.2++[(⟨y2.kind,y3,y4,(⟨y5.kind,y5.name,y5.num,y5.decl,y5.list⟩:zu),o9,y10⟩:zN)]))
   else
    some (.out s1.2)) (0,[]) fun o11=>
 some o11
def qx:List zN->Option (List zN):=recE (wG)
def Iy(x:ZJ):Option ZJ:=
 zU (S:=Int×List qE) (X:=List qE) (fun s1=>
   bif decide (s1.1<(x.sheets.length:Int))then
    za (geti x.sheets s1.1) fun y2=>
    za (qx y2.sheet.rules) fun y3=>
    need (ZB s1.2.length 1 56)<|
    some (.again (w64 (s1.1+1),s1.2++[(⟨y2.number,y2.origin,y2.site,(⟨y3⟩:zbj)⟩:qE)]))
   else
    some (.out s1.2)) (0,[]) fun o4=>
 some (⟨o4,x.next⟩:ZJ)
def si(x:ZJ×Int×Str×Str):Option (ZJ×Int×Int):=
 za (Yy x.1) fun y1=>
 bif y1 != 0 then
  some ((⟨[],0⟩:ZJ),0,y1)
 else
  bif bif bif decide (x.2.1<1)then true else decide (x.2.1>3)then true else decide ((x.2.2.1.length:Int)>64)then
   some ((⟨[],0⟩:ZJ),0,2)
  else
   bif bif (x.1.sheets.length:Int)==8 then true else x.1.next==1000 then
    some ((⟨[],0⟩:ZJ),0,18)
   else
    za (qo x.2.2.2) fun y2=>
    bif y2.2 != 0 then
     some ((⟨[],0⟩:ZJ),0,y2.2)
    else
     za (Iy x.1) fun y3=>
     need (decide (0<=(y3.sheets.length:Int))&&(decide ((y3.sheets.length:Int)<=(y3.sheets.length:Int))&&decide ((y3.sheets.length:Int)<=(y3.sheets.length:Int)))&&decide ((y3.sheets.length:Int)=(y3.sheets.length:Int)))<|
     need (ZB (List.take y3.sheets.length y3.sheets).length 1 56)<|
     some ((⟨List.take y3.sheets.length y3.sheets++[(⟨x.1.next,x.2.1,x.2.2.1,y2.1⟩:qE)],w64 (y3.next+1)⟩:ZJ),x.1.next,0)
def uP(x:Unit):Option (ZJ×Bool):=
 za (si ((⟨[],0⟩:ZJ),3,[97],[98,123,125])) fun y1=>
 za (si (y1.1,1,[],[])) fun y2=>
 some (y2.1,bif bif bif y1.2.2==0 then y2.2.2==0 else false then y1.2.1==0 else false then y2.2.1==1 else false)
def EK(x:qE×Int):Option Bool:=
 some (x.1.number==x.2)
def dH(x:List qE×Int):Option Int:=
 zU (S:=Int) (X:=Unit) (fun s1=>
   bif decide (s1<(x.1.length:Int))then
    za (geti x.1 s1) fun y2=>
    za (EK (y2,x.2)) fun y3=>
    bif y3 then
     some (.ret s1)
    else
     some (.again (w64 (s1+1)))
   else
    some (.out ())) 0 fun o4=>
 some (-1)
def lw(x:ZJ×Int):Option (Int×Int):=
 za (Yy x.1) fun y1=>
 bif y1 != 0 then
  some (0,y1)
 else
  za (dH (x.1.sheets,x.2)) fun y2=>
  bif decide (y2<0)then
   some (0,6)
  else
   some (y2,0)
def vE(x:ZJ):Option (Int×List qE):=
 zU (S:=Int×List qE) (X:=List qE) (fun s1=>
   bif decide (s1.1<(x.sheets.length:Int))then
    za (geti x.sheets s1.1) fun y2=>
    za (qx y2.sheet.rules) fun y3=>
    need (ZB s1.2.length 1 56)<|
    some (.again (w64 (s1.1+1),s1.2++[(⟨y2.number,y2.origin,y2.site,(⟨y3⟩:zbj)⟩:qE)]))
   else
    some (.out s1.2)) (0,[]) fun o4=>
 some (x.next,o4)
def Jy(x:ZJ×Int):Option (ZJ×Int):=
 za (lw (x.1,x.2)) fun y1=>
 bif y1.2 != 0 then
  some ((⟨[],0⟩:ZJ),y1.2)
 else
  za (vE x.1) fun y2=>
  za (delK ((y1.1,w64 (y1.1+1)),y2.2)) fun y3=>
  some ((⟨y3,y2.1⟩:ZJ),0)
def dx(x:ZJ×Int):Option (qE×Int):=
 za (lw (x.1,x.2)) fun y1=>
 bif y1.2 != 0 then
  some ((⟨0,0,[],(⟨[]⟩:zbj)⟩:qE),y1.2)
 else
  za (Iy x.1) fun y2=>
  za (geti y2.sheets y1.1) fun y3=>
  some (y3,0)
def IL(x:ZJ×List Int):Option Bool:=
 bif (x.1.sheets.length:Int) != (x.2.length:Int)then
  some false
 else
  zU (S:=Int) (X:=Unit) (fun s1=>
    bif decide (s1<(x.2.length:Int))then
     za (geti x.1.sheets s1) fun y2=>
     za (geti x.2 s1) fun y3=>
     bif y2.number != y3 then
      some (.ret false)
     else
      some (.again (w64 (s1+1)))
    else
     some (.out ())) 0 fun o4=>
  some true
def fK(x:Unit):Option Bool:=
 za (uP ()) fun y1=>
 za (Jy (y1.1,0)) fun y2=>
 za (si (y2.1,2,[99],[100,123,125])) fun y3=>
 za (dx (y1.1,0)) fun y4=>
 za (zF y1.2 (IL (y1.1,[0,1])) (default:Bool)) fun y5=>
 za (zF (bif bif bif bif bif y1.2 then y5 else false then y1.1.next==2 else false then y2.2==0 else false then y3.2.2==0 else false then y3.2.1==2 else false) (IL (y3.1,[1,2])) (default:Bool)) fun y6=>
 some (bif bif bif bif bif bif bif bif bif bif bif y1.2 then y5 else false then y1.1.next==2 else false then y2.2==0 else false then y3.2.2==0 else false then y3.2.1==2 else false then y6 else false then y3.1.next==3 else false then y4.2==0 else false then y4.1.site==[97]else false then y4.1.origin==3 else false then(y4.1.sheet.rules.length:Int)==1 else false)
def Cv(Jl:List zm×Int->Option Int)(x:List zm×Int):Option Int:=
 zU (S:=Int×Int) (X:=Int) (fun s1=>
   bif bif decide (s1.2<(x.1.length:Int))then decide (s1.1<=x.2)else false then
    za (geti x.1 s1.2) fun y2=>
    zU (S:=Int×Int) (X:=Int) (fun s3=>
      za (geti x.1 s1.2) fun y4=>
      bif bif decide (s3.2<(y4.parts.length:Int))then decide (s3.1<=x.2)else false then
       za (geti x.1 s1.2) fun y5=>
       za (geti y5.parts s3.2) fun y6=>
       za (geti x.1 s1.2) fun y7=>
       za (geti y7.parts s3.2) fun y8=>
       zU (S:=Int×Int) (X:=Int) (fun s9=>
         bif bif decide (s9.2<(y8.simples.length:Int))then decide (s9.1<=x.2)else false then
          za (geti y8.simples s9.2) fun y10=>
          za (geti y8.simples s9.2) fun y11=>
          za (geti y8.simples s9.2) fun y12=>
          za (Jl (y12.list,w64 (x.2 - s9.1))) fun y13=>
          some (.again (w64 (s9.1+w64 (w64 (w64 (1+(y10.name.length:Int))+(y11.value.length:Int))+y13)),w64 (s9.2+1)))
         else
          some (.out s9.1)) (w64 (s3.1+w64 (1+(y6.tag.length:Int))),0) fun o14=>
       some (.again (o14,w64 (s3.2+1)))
      else
       some (.out s3.1)) (w64 (s1.1+w64 (1+(y2.combs.length:Int))),0) fun o15=>
    some (.again (o15,w64 (s1.2+1)))
   else
    some (.out s1.1)) (0,0) fun o16=>
 some o16
def Jl:List zm×Int->Option Int:=recE (Cv)
def fE(x:List zm):Option Bool:=
 za (Jl (x,600)) fun y1=>
 some (decide (y1>600))
def Nv(Kl:List zb×Int->Option Int)(x:List zb×Int):Option Int:=
 zU (S:=Int×Int) (X:=Int) (fun s1=>
   bif bif decide (s1.2<(x.1.length:Int))then decide (s1.1<=x.2)else false then
    za (geti x.1 s1.2) fun y2=>
    za (geti x.1 s1.2) fun y3=>
    za (geti x.1 s1.2) fun y4=>
    za (Kl (y4.list,w64 (x.2 - s1.1))) fun y5=>
    some (.again (w64 (s1.1+w64 (w64 (w64 (1+(y2.token.text.length:Int))+(y3.token.unit.length:Int))+y5)),w64 (s1.2+1)))
   else
    some (.out s1.1)) (0,0) fun o6=>
 some o6
def Kl:List zb×Int->Option Int:=recE (Nv)
def Ov(x:Int):Option Int:=
 bif x==19 then
  some 20
 else
  Zi (X:=Bool) (
    bif x==21 then
     some (.out (x==21))
    else
     some (.out (x==2))) fun j1=>
  bif j1 then
   some 22
  else
   bif x==23 then
    some 24
   else
    some 0
def kF(QC:List zb->Option Int)(x:List zb):Option Int:=
 zU (S:=Int×Int) (X:=Int) (fun s1=>
   bif decide (s1.2<(x.length:Int))then
    Zi (X:=Int×Int) (
      za (geti x s1.2) fun y2=>
      za (Ov y2.token.kind) fun y3=>
      bif y3 != 0 then
       za (geti x s1.2) fun y4=>
       za (QC y4.list) fun y5=>
       some (.out (if w64 (1+y5)>s1.1 then w64 (1+y5)else s1.1,s1.2))
      else
       some (.out (s1.1,s1.2))) fun j6=>
    some (.again (j6.1,w64 (j6.2+1)))
   else
    some (.out s1.1)) (0,0) fun o7=>
 some o7
def QC:List zb->Option Int:=recE (kF)
def nu(x:List Zu):Option Bool:=
 bif decide ((x.length:Int)>40)then
  some true
 else
  zU (S:=Int×Int) (X:=Unit) (fun s1=>
    bif decide (s1.2<(x.length:Int))then
     za (geti x s1.2) fun y2=>
     za (geti x s1.2) fun y3=>
     za (Kl (y3.value,300)) fun y4=>
     za (zF (!(decide (w64 (s1.1+w64 ((y2.name.length:Int)+y4))>300))) (geti x s1.2) (default:Zu)) fun y5=>
     za (zF (!(decide (w64 (s1.1+w64 ((y2.name.length:Int)+y4))>300))) (QC y5.value) (default:Int)) fun y6=>
     bif bif decide (w64 (s1.1+w64 ((y2.name.length:Int)+y4))>300)then true else decide (y6>40)then
      some (.ret true)
     else
      some (.again (w64 (s1.1+w64 ((y2.name.length:Int)+y4)),w64 (s1.2+1)))
    else
     some (.out ())) (0,0) fun o7=>
  some false
def Bv(QD:zu×Int->Option Int)(x:zu×Int):Option Int:=
 zU (S:=Int×Int) (X:=Int) (fun s1=>
   bif bif decide (s1.2<(x.1.list.length:Int))then decide (s1.1<=x.2)else false then
    za (geti x.1.list s1.2) fun y2=>
    za (QD ((⟨y2.kind,y2.name,y2.num,y2.decl,y2.list⟩:zu),w64 (x.2 - s1.1))) fun y3=>
    some (.again (w64 (s1.1+y3),w64 (s1.2+1)))
   else
    some (.out s1.1)) (1,0) fun o4=>
 some o4
def QD:zu×Int->Option Int:=recE (Bv)
def Av(Ll:zu->Option Bool)(x:zu):Option Bool:=
 za (nu [x.decl]) fun y1=>
 bif bif y1 then true else decide ((x.name.length:Int)>200)then
  some true
 else
  zU (S:=Int) (X:=Unit) (fun s2=>
    bif decide (s2<(x.list.length:Int))then
     za (geti x.list s2) fun y3=>
     za (Ll (⟨y3.kind,y3.name,y3.num,y3.decl,y3.list⟩:zu)) fun y4=>
     bif y4 then
      some (.ret true)
     else
      some (.again (w64 (s2+1)))
    else
     some (.out ())) 0 fun o5=>
  some false
def Ll:zu->Option Bool:=recE (Av)
def SE(x:zu):Option Bool:=
 za (QD ((⟨x.kind,x.name,x.num,x.decl,x.list⟩:zu),100)) fun y1=>
 za (zF (!(decide (y1>100))) (Ll (⟨x.kind,x.name,x.num,x.decl,x.list⟩:zu)) (default:Bool)) fun y2=>
 some (bif decide (y1>100)then true else y2)
def Wv(qR:List zN×Int->Option Bool)(x:List zN×Int):Option Bool:=
 bif bif x.2==0 then true else decide ((x.1.length:Int)>70)then
  some true
 else
  zU (S:=Int) (X:=Unit) (fun s1=>
    bif decide (s1<(x.1.length:Int))then
     za (geti x.1 s1) fun y2=>
     za (fE y2.selectors) fun y3=>
     za (zF (!y3) (nu y2.decls) (default:Bool)) fun y4=>
     za (zF (!(bif y3 then true else y4)) (SE (⟨y2.cond.kind,y2.cond.name,y2.cond.num,y2.cond.decl,y2.cond.list⟩:zu)) (default:Bool)) fun y5=>
     za (zF (!(bif bif bif y3 then true else y4 then true else y5 then true else decide ((y2.names.length:Int)>70))) (qR (y2.rules,w64 (x.2 - 1))) (default:Bool)) fun y6=>
     bif bif bif bif bif y3 then true else y4 then true else y5 then true else decide ((y2.names.length:Int)>70)then true else y6 then
      some (.ret true)
     else
      zU (S:=Int) (X:=Unit) (fun s7=>
        bif decide (s7<(y2.names.length:Int))then
         za (geti y2.names s7) fun y8=>
         bif decide ((y8.length:Int)>20)then
          some (.ret (LO.ret true))
         else
          some (.again (w64 (s7+1)))
        else
         some (.out ())) 0 fun o9=>
      some (.again (w64 (s1+1)))
    else
     some (.out ())) 0 fun o10=>
  some false
def qR:List zN×Int->Option Bool:=recE (Wv)
def aG(QV:List zN->Option Int)(x:List zN):Option Int:=
 zU (S:=Int×Int) (X:=Int) (fun s1=>
   bif decide (s1.2<(x.length:Int))then
    za (geti x s1.2) fun y2=>
    za (QV y2.rules) fun y3=>
    some (.again (w64 (s1.1+y3),w64 (s1.2+1)))
   else
    some (.out s1.1)) ((x.length:Int),0) fun o4=>
 some o4
def QV:List zN->Option Int:=recE (aG)
def Dr(x:List zN):Option Bool:=
 za (qR (x,30)) fun y1=>
 za (zF (!y1) (QV x) (default:Int)) fun y2=>
 some (bif y1 then true else decide (y2>70))
def ME(x:ZJ):Option Bool:=
 bif decide ((x.sheets.length:Int)>10)then
  some true
 else
  zU (S:=Int) (X:=Unit) (fun s1=>
    bif decide (s1<(x.sheets.length:Int))then
     za (geti x.sheets s1) fun y2=>
     za (Dr y2.sheet.rules) fun y3=>
     za (zF (!y3) (geti x.sheets s1) (default:qE)) fun y4=>
     bif bif y3 then true else decide ((y4.site.length:Int)>100)then
      some (.ret true)
     else
      some (.again (w64 (s1+1)))
    else
     some (.out ())) 0 fun o5=>
  some false
def JK(x:Str):Option Bool:=
 some (decide ((x.length:Int)<=64))
def ky(x:Str×Int):Option Bool:=
 zU (S:=Int) (X:=Unit) (fun s1=>
   bif decide (s1<(x.1.length:Int))then
    za (geti x.1 s1) fun y2=>
    bif (y2.toNat:Int)==0 then
     some (.ret false)
    else
     some (.again (w64 (s1+1)))
   else
    some (.out ())) 0 fun o3=>
 some (decide ((x.1.length:Int)<=x.2))
def Er(x:Str):Option Bool:=
 za (zF (!(x==[])) (ky (x,64)) (default:Bool)) fun y1=>
 some (bif !(x==[])then y1 else false)
def pu(x:Int):Option Int:=
 bif bif decide (x>=65)then decide (x<=90)else false then
  some (wu8 (wu8 (x - 65)+97))
 else
  some x
def QJ(x:Str):Option Str:=
 need (decide (x.length<=maxLen))<|
 zU (S:=Int×List UInt8) (X:=List UInt8) (fun s1=>
   bif decide (s1.1<(s1.2.length:Int))then
    need (decide (0<=s1.1)&&decide (s1.1<(s1.2.length:Int)))<|
    za s1.2[s1.1.toNat]? fun y2=>
    za (pu (y2.toNat:Int)) fun y3=>
    need (decide (0<=s1.1)&&decide (s1.1<(s1.2.length:Int)))<|
    za s1.2[s1.1.toNat]? fun y4=>
    za (QN y3) fun y5=>
    some (.again (w64 (s1.1+1),List.set s1.2 s1.1.toNat y5))
   else
    some (.out s1.2)) (0,x) fun o6=>
 some o6
def ny(x:Str):Option Bool:=
 za (Er x) fun y1=>
 za (zF y1 (QJ x) (default:Str)) fun y2=>
 some (bif y1 then x==y2 else false)
def Mv(x:zJ):Option zba:=
 some (⟨x.kind,x.name,x.op,x.value,x.fold,x.anb,x.of_⟩:zba)
def jE(x:VAnb):Option Bool:=
 some (bif bif bif decide (x.a>=(-1000000000))then decide (x.a<=1000000000)else false then decide (x.b>=(-1000000000))else false then decide (x.b<=1000000000)else false)
def bE(x:Zq×Int):Option (Zq×Bool):=
 bif bif x.1.deep==3 then true else bif x.2==14 then x.1.has else false then
  some (x.1,false)
 else
  some ((⟨w64 (x.1.deep+1),bif x.1.has then true else x.2==14⟩:Zq),true)
def Kv(Zx:zm×Zq×Bool->Option Bool)(x:List zm×Zq×Int):Option Bool:=
 za (bE (x.2.1,x.2.2)) fun y1=>
 bif !y1.2 then
  some false
 else
  zU (S:=Int) (X:=Unit) (fun s2=>
    bif decide (s2<(x.1.length:Int))then
     za (geti x.1 s2) fun y3=>
     za (Zx ((⟨y3.lead,y3.parts,y3.combs⟩:zm),y1.1,x.2.2==14)) fun y4=>
     bif !y4 then
      some (.ret false)
     else
      some (.again (w64 (s2+1)))
    else
     some (.out ())) 0 fun o5=>
  some true
def Nz(Zx:zm×Zq×Bool->Option Bool)(x:zJ×Zq):Option Bool:=
 za (Mv (⟨x.1.kind,x.1.name,x.1.op,x.1.value,x.1.fold,x.1.anb,x.1.of_,x.1.list⟩:zJ)) fun y1=>
 Zi (X:=Bool) (
   bif x.1.kind==1 then
    some (.out (x.1.kind==1))
   else
    some (.out (x.1.kind==2))) fun j2=>
 bif j2 then
  za (Er x.1.name) fun y3=>
  some (bif bif y3 then y1.kind==x.1.kind&&(y1.name==x.1.name&&(y1.op==0&&(y1.value==[]&&(y1.fold==false&&(y1.anb.a==0&&(y1.anb.b==0&&(y1.of_==false&&true)))))))else false then(x.1.list.length:Int)==0 else false)
 else
  bif x.1.kind==3 then
   za (ny x.1.name) fun y4=>
   za (zF (bif y4 then decide (x.1.op<=6)else false) (ky (x.1.value,400)) (default:Bool)) fun y5=>
   some (bif bif bif bif bif y4 then decide (x.1.op<=6)else false then y5 else false then bif x.1.op != 0 then true else bif x.1.value==[]then !x.1.fold else false else false then y1.kind==x.1.kind&&(y1.name==x.1.name&&(y1.op==x.1.op&&(y1.value==x.1.value&&(y1.fold==x.1.fold&&(y1.anb.a==0&&(y1.anb.b==0&&(y1.of_==false&&true)))))))else false then(x.1.list.length:Int)==0 else false)
  else
   Zi (X:=Bool) (
     bif x.1.kind==4 then
      some (.out (x.1.kind==4))
     else
      bif x.1.kind==5 then
       some (.out (x.1.kind==5))
      else
       bif x.1.kind==6 then
        some (.out (x.1.kind==6))
       else
        bif x.1.kind==7 then
         some (.out (x.1.kind==7))
        else
         some (.out (x.1.kind==8))) fun j6=>
   bif j6 then
    some (bif y1.kind==x.1.kind&&(y1.name==[]&&(y1.op==0&&(y1.value==[]&&(y1.fold==false&&(y1.anb.a==0&&(y1.anb.b==0&&(y1.of_==false&&true)))))))then(x.1.list.length:Int)==0 else false)
   else
    Zi (X:=Bool) (
      bif x.1.kind==9 then
       some (.out (x.1.kind==9))
      else
       some (.out (x.1.kind==10))) fun j7=>
    bif j7 then
     za (jE x.1.anb) fun y8=>
     bif bif !y8 then true else !(y1.kind==x.1.kind&&(y1.name==[]&&(y1.op==0&&(y1.value==[]&&(y1.fold==false&&(y1.anb.a==x.1.anb.a&&(y1.anb.b==x.1.anb.b&&(y1.of_==x.1.of_&&true))))))))then
      some false
     else
      bif !x.1.of_ then
       some ((x.1.list.length:Int)==0)
      else
       za (zF (decide ((x.1.list.length:Int)>0)) (Kv Zx (x.1.list,x.2,x.1.kind)) (default:Bool)) fun y9=>
       some (bif decide ((x.1.list.length:Int)>0)then y9 else false)
    else
     Zi (X:=Bool) (
       bif x.1.kind==11 then
        some (.out (x.1.kind==11))
       else
        some (.out (x.1.kind==12))) fun j10=>
     bif j10 then
      za (zF (y1.kind==x.1.kind&&(y1.name==[]&&(y1.op==0&&(y1.value==[]&&(y1.fold==false&&(y1.anb.a==0&&(y1.anb.b==0&&(y1.of_==false&&true)))))))) (Kv Zx (x.1.list,x.2,x.1.kind)) (default:Bool)) fun y11=>
      some (bif y1.kind==x.1.kind&&(y1.name==[]&&(y1.op==0&&(y1.value==[]&&(y1.fold==false&&(y1.anb.a==0&&(y1.anb.b==0&&(y1.of_==false&&true)))))))then y11 else false)
     else
      Zi (X:=Bool) (
        bif x.1.kind==13 then
         some (.out (x.1.kind==13))
        else
         some (.out (x.1.kind==14))) fun j12=>
      bif j12 then
       za (zF (bif y1.kind==x.1.kind&&(y1.name==[]&&(y1.op==0&&(y1.value==[]&&(y1.fold==false&&(y1.anb.a==0&&(y1.anb.b==0&&(y1.of_==false&&true)))))))then decide ((x.1.list.length:Int)>0)else false) (Kv Zx (x.1.list,x.2,x.1.kind)) (default:Bool)) fun y13=>
       some (bif bif y1.kind==x.1.kind&&(y1.name==[]&&(y1.op==0&&(y1.value==[]&&(y1.fold==false&&(y1.anb.a==0&&(y1.anb.b==0&&(y1.of_==false&&true)))))))then decide ((x.1.list.length:Int)>0)else false then y13 else false)
      else
       some false
def Yz(Zx:zm×Zq×Bool->Option Bool)(x:zQ×Zq):Option Bool:=
 za (zF (bif !(x.1.tag==[])then !(x.1.tag==[42])else false) (ny x.1.tag) (default:Bool)) fun y1=>
 bif bif bif bif bif !(x.1.tag==[])then !(x.1.tag==[42])else false then !y1 else false then true else bif x.1.tag==[]then(x.1.simples.length:Int)==0 else false then true else decide ((x.1.simples.length:Int)>64)then
  some false
 else
  zU (S:=Int) (X:=Unit) (fun s2=>
    bif decide (s2<(x.1.simples.length:Int))then
     za (geti x.1.simples s2) fun y3=>
     za (Nz Zx ((⟨y3.kind,y3.name,y3.op,y3.value,y3.fold,y3.anb,y3.of_,y3.list⟩:zJ),x.2)) fun y4=>
     bif !y4 then
      some (.ret false)
     else
      some (.again (w64 (s2+1)))
    else
     some (.out ())) 0 fun o5=>
  some true
def EG(Zx:zm×Zq×Bool->Option Bool)(x:zm×Zq×Bool):Option Bool:=
 bif bif bif bif bif !((x.1.lead != 0)==x.2.2)then true else decide (x.1.lead>4)then true else(x.1.parts.length:Int)==0 then true else decide ((x.1.parts.length:Int)>64)then true else(x.1.combs.length:Int) != w64 ((x.1.parts.length:Int) - 1)then
  some false
 else
  zU (S:=Int) (X:=Unit) (fun s1=>
    bif decide (s1<(x.1.parts.length:Int))then
     za (geti x.1.parts s1) fun y2=>
     za (Yz Zx ((⟨y2.tag,y2.simples⟩:zQ),x.2.1)) fun y3=>
     za (zF (decide (s1>0)&& !(!y3)) (geti x.1.combs (w64 (s1 - 1))) (default:UInt8)) fun y4=>
     za (zF (!(decide ((y4.toNat:Int)<1))&&(decide (s1>0)&& !(!y3))) (geti x.1.combs (w64 (s1 - 1))) (default:UInt8)) fun y5=>
     bif bif !y3 then true else bif decide (s1>0)then bif decide ((y4.toNat:Int)<1)then true else decide ((y5.toNat:Int)>4)else false then
      some (.ret false)
     else
      some (.again (w64 (s1+1)))
    else
     some (.out ())) 0 fun o6=>
  some true
def Zx:zm×Zq×Bool->Option Bool:=recE (EG)
def nD(x:List zm):Option Bool:=
 zU (S:=Int) (X:=Unit) (fun s1=>
   bif decide (s1<(x.length:Int))then
    za (geti x s1) fun y2=>
    za (Zx ((⟨y2.lead,y2.parts,y2.combs⟩:zm),(⟨0,false⟩:Zq),false)) fun y3=>
    bif !y3 then
     some (.ret false)
    else
     some (.again (w64 (s1+1)))
   else
    some (.out ())) 0 fun o4=>
 some (decide ((x.length:Int)>0))
def IG(Rn:List zm->Option Int)(x:List zm):Option Int:=
 zU (S:=Int×Int) (X:=Int) (fun s1=>
   bif decide (s1.2<(x.length:Int))then
    zU (S:=Int×Int) (X:=Int) (fun s2=>
      za (geti x s1.2) fun y3=>
      bif decide (s2.2<(y3.parts.length:Int))then
       za (geti x s1.2) fun y4=>
       za (geti y4.parts s2.2) fun y5=>
       zU (S:=Int×Int) (X:=Int) (fun s6=>
         bif decide (s6.2<(y5.simples.length:Int))then
          za (geti y5.simples s6.2) fun y7=>
          za (Rn y7.list) fun y8=>
          some (.again (w64 (s6.1+y8),w64 (s6.2+1)))
         else
          some (.out s6.1)) (s2.1,0) fun o9=>
       some (.again (o9,w64 (s2.2+1)))
      else
       some (.out s2.1)) (s1.1,0) fun o10=>
    some (.again (o10,w64 (s1.2+1)))
   else
    some (.out s1.1)) ((x.length:Int),0) fun o11=>
 some o11
def Rn:List zm->Option Int:=recE (IG)
def iE(x:List zm):Option Int:=
 za (nD x) fun y1=>
 bif !y1 then
  some 8
 else
  za (Rn x) fun y2=>
  bif decide (y2>64)then
   some 4
  else
   some 0
def Ez(Am:List zb×List zb->Option Bool)(x:List zb×List zb):Option Bool:=
 bif (x.1.length:Int) != (x.2.length:Int)then
  some false
 else
  zU (S:=Int) (X:=Unit) (fun s1=>
    bif decide (s1<(x.1.length:Int))then
     za (geti x.1 s1) fun y2=>
     za (geti x.2 s1) fun y3=>
     za (zF (!(!(y2.token.kind==y3.token.kind&&(y2.token.text==y3.token.text&&(y2.token.num==y3.token.num&&(y2.token.unit==y3.token.unit&&(y2.token.flag==y3.token.flag&&true))))))) (geti x.1 s1) (default:zb)) fun y4=>
     za (zF (!(!(y2.token.kind==y3.token.kind&&(y2.token.text==y3.token.text&&(y2.token.num==y3.token.num&&(y2.token.unit==y3.token.unit&&(y2.token.flag==y3.token.flag&&true))))))) (geti x.2 s1) (default:zb)) fun y5=>
     za (zF (!(!(y2.token.kind==y3.token.kind&&(y2.token.text==y3.token.text&&(y2.token.num==y3.token.num&&(y2.token.unit==y3.token.unit&&(y2.token.flag==y3.token.flag&&true))))))) (Am (y4.list,y5.list)) (default:Bool)) fun y6=>
     bif bif !(y2.token.kind==y3.token.kind&&(y2.token.text==y3.token.text&&(y2.token.num==y3.token.num&&(y2.token.unit==y3.token.unit&&(y2.token.flag==y3.token.flag&&true)))))then true else !y6 then
      some (.ret false)
     else
      some (.again (w64 (s1+1)))
    else
     some (.out ())) 0 fun o7=>
  some true
def Am:List zb×List zb->Option Bool:=recE (Ez)
def oo(x:Zu×Zu):Option Bool:=
 za (zF (bif x.1.name==x.2.name then x.1.important==x.2.important else false) (Am (x.1.value,x.2.value)) (default:Bool)) fun y1=>
 some (bif bif x.1.name==x.2.name then x.1.important==x.2.important else false then y1 else false)
def Kz(Sk:zu×zu->Option Bool)(x:zu×zu):Option Bool:=
 za (zF (!(bif bif x.1.kind != x.2.kind then true else !(x.1.name==x.2.name)then true else x.1.num != x.2.num)) (oo (x.1.decl,x.2.decl)) (default:Bool)) fun y1=>
 bif bif bif bif bif x.1.kind != x.2.kind then true else !(x.1.name==x.2.name)then true else x.1.num != x.2.num then true else !y1 then true else(x.1.list.length:Int) != (x.2.list.length:Int)then
  some false
 else
  zU (S:=Int) (X:=Unit) (fun s2=>
    bif decide (s2<(x.1.list.length:Int))then
     za (geti x.1.list s2) fun y3=>
     za (geti x.2.list s2) fun y4=>
     za (Sk ((⟨y3.kind,y3.name,y3.num,y3.decl,y3.list⟩:zu),(⟨y4.kind,y4.name,y4.num,y4.decl,y4.list⟩:zu))) fun y5=>
     bif !y5 then
      some (.ret false)
     else
      some (.again (w64 (s2+1)))
    else
     some (.out ())) 0 fun o6=>
  some true
def Sk:zu×zu->Option Bool:=recE (Kz)
def au(x:zu):Option Bool:=
 za (Sk ((⟨x.kind,x.name,x.num,x.decl,x.list⟩:zu),(⟨0,[],0,(⟨[],[],false⟩:Zu),[]⟩:zu))) fun y1=>
 some y1
def nE(x:Str):Option Bool:=
 bif bif decide ((x.length:Int)<1)then true else decide ((x.length:Int)>64)then
  some false
 else
  zU (S:=Int) (X:=Unit) (fun s1=>
    bif decide (s1<(x.length:Int))then
     za (geti x s1) fun y2=>
     bif (y2.toNat:Int)==0 then
      some (.ret false)
     else
      some (.again (w64 (s1+1)))
    else
     some (.out ())) 0 fun o3=>
  need (decide (2<=(x.length:Int))|| !(decide ((x.length:Int)>=2)))<|
  bif bif decide ((x.length:Int)>=2)then List.take 2 x==[45,45]else false then
   some (decide ((x.length:Int)>2))
  else
   za (QJ x) fun y4=>
   some (x==y4)
def KG(QU:List zb->Option (List zg))(x:List zb):Option (List zg):=
 zU (S:=Int×List zg) (X:=List zg) (fun s1=>
   bif decide (s1.1<(x.length:Int))then
    Zi (X:=Int×List zg) (
      za (geti x s1.1) fun y2=>
      need (ZB s1.2.length 1 56)<|
      za (geti x s1.1) fun y3=>
      za (Ov y3.token.kind) fun y4=>
      bif y4 != 0 then
       za (geti x s1.1) fun y5=>
       za (QU y5.list) fun y6=>
       need (ZB (s1.2++[y2.token]).length y6.length 56)<|
       need (ZB (s1.2++[y2.token]++y6).length 1 56)<|
       some (.out (s1.1,s1.2++[y2.token]++y6++[(⟨y4,[],0,[],false⟩:zg)]))
      else
       some (.out (s1.1,s1.2++[y2.token]))) fun j7=>
    some (.again (w64 (j7.1+1),j7.2))
   else
    some (.out s1.2)) (0,[]) fun o8=>
 some o8
def QU:List zb->Option (List zg):=recE (KG)
def JG(Sn:List zb×Int->Option Bool)(x:List zb×Int):Option Bool:=
 zU (S:=Int) (X:=Unit) (fun s1=>
   bif decide (s1<(x.1.length:Int))then
    za (geti x.1 s1) fun y2=>
    za (Ov y2.token.kind) fun y3=>
    za (zF (y3==0) (geti x.1 s1) (default:zb)) fun y4=>
    za (zF (x.2 != 0&& !(bif y3==0 then decide ((y4.list.length:Int)>0)else false)) (geti x.1 s1) (default:zb)) fun y5=>
    za (zF (y3 != 0&& !(bif bif y3==0 then decide ((y4.list.length:Int)>0)else false then true else bif x.2 != 0 then y5.token.kind==x.2 else false)) (geti x.1 s1) (default:zb)) fun y6=>
    za (zF (y3 != 0&& !(bif bif y3==0 then decide ((y4.list.length:Int)>0)else false then true else bif x.2 != 0 then y5.token.kind==x.2 else false)) (Sn (y6.list,y3)) (default:Bool)) fun y7=>
    bif bif bif bif y3==0 then decide ((y4.list.length:Int)>0)else false then true else bif x.2 != 0 then y5.token.kind==x.2 else false then true else bif y3 != 0 then !y7 else false then
     some (.ret false)
    else
     some (.again (w64 (s1+1)))
   else
    some (.out ())) 0 fun o8=>
 some true
def Sn:List zb×Int->Option Bool:=recE (JG)
def pE(x:List zb):Option Int:=
 za (QC x) fun y1=>
 bif decide (y1>16)then
  some 20
 else
  za (QU x) fun y2=>
  bif decide ((y2.length:Int)>1500)then
   some 4
  else
   za (Sn (x,0)) fun y3=>
   bif !y3 then
    some 8
   else
    some 0
def Ir(x:Str):Option Bool:=
 zU (S:=Int) (X:=Unit) (fun s1=>
   bif decide (s1<(x.length:Int))then
    za (geti x s1) fun y2=>
    bif (y2.toNat:Int)==0 then
     some (.ret false)
    else
     some (.again (w64 (s1+1)))
   else
    some (.out ())) 0 fun o3=>
 some true
def Qj(x:Int):Option Bool:=
 some (bif decide (x>=48)then decide (x<=57)else false)
def rD(x:Str):Option Bool:=
 bif x==[]then
  some false
 else
  za (geti x 0) fun y1=>
  za (Qj (y1.toNat:Int)) fun y2=>
  za (zF (!(bif y2 then true else x==[45])) (geti x 0) 0) fun y3=>
  za (zF ((y3.toNat:Int)==45&& !(bif y2 then true else x==[45])) (geti x 1) 0) fun y4=>
  za (zF ((y3.toNat:Int)==45&& !(bif y2 then true else x==[45])) (Qj (y4.toNat:Int)) (default:Bool)) fun y5=>
  some (bif bif y2 then true else x==[45]then true else bif (y3.toNat:Int)==45 then y5 else false)
def ry(x:Int):Option Bool:=
 some (bif bif x==10 then true else x==9 then true else x==32)
def qB(x:Str×Int):Option Int:=
 bif decide (x.2<(x.1.length:Int))then
  za (geti x.1 x.2) fun y1=>
  some (y1.toNat:Int)
 else
  some 0
def Ap(x:Str×Int):Option Int:=
 zU (S:=Int) (X:=Int) (fun s1=>
   za (qB (x.1,s1)) fun y2=>
   za (ry y2) fun y3=>
   bif y3 then
    some (.again (w64 (s1+1)))
   else
    some (.out s1)) x.2 fun o4=>
 some o4
def sJ(x:Unit):Option Str:=
 some [(239:UInt8),(191:UInt8),(189:UInt8)]
def FD(x:Int):Option Int:=
 za (Qj x) fun y1=>
 bif y1 then
  some (w64 (wu8 (x - 48)))
 else
  za (pu x) fun y2=>
  bif bif decide (y2>=97)then decide (y2<=102)else false then
   some (w64 (w64 (wu8 (y2 - 97))+10))
  else
   some (-1)
def gP(x:Int):Option Str:=
 bif bif bif x==0 then true else bif decide (x>=55296)then decide (x<=57343)else false then true else decide (x>1114111)then
  za (sJ ()) fun y1=>
  some y1
 else
  bif decide (x<128)then
   za (QN (wu8 x)) fun y2=>
   some [y2]
  else
   bif decide (x<2048)then
    za (QN (wu8 (w64 (192+w64 (Int.tdiv x 64))))) fun y3=>
    za (QN (wu8 (w64 (128+Int.tmod x 64)))) fun y4=>
    some [y3,y4]
   else
    bif decide (x<65536)then
     za (QN (wu8 (w64 (224+w64 (Int.tdiv x 4096))))) fun y5=>
     za (QN (wu8 (w64 (128+Int.tmod (w64 (Int.tdiv x 64)) 64)))) fun y6=>
     za (QN (wu8 (w64 (128+Int.tmod x 64)))) fun y7=>
     some [y5,y6,y7]
    else
     za (QN (wu8 (w64 (240+w64 (Int.tdiv x 262144))))) fun y8=>
     za (QN (wu8 (w64 (128+Int.tmod (w64 (Int.tdiv x 4096)) 64)))) fun y9=>
     za (QN (wu8 (w64 (128+Int.tmod (w64 (Int.tdiv x 64)) 64)))) fun y10=>
     za (QN (wu8 (w64 (128+Int.tmod x 64)))) fun y11=>
     some [y8,y9,y10,y11]
def wo(x:Str×Int):Option (Str×Int):=
 bif decide (w64 (x.2+1)>=(x.1.length:Int))then
  za (sJ ()) fun y1=>
  some (y1,w64 (x.2+1))
 else
  za (geti x.1 (w64 (x.2+1))) fun y2=>
  za (FD (y2.toNat:Int)) fun y3=>
  bif decide (y3<0)then
   need (decide (0<=w64 (x.2+1))&&(decide (w64 (x.2+1)<=w64 (w64 (x.2+1)+1))&&decide (w64 (w64 (x.2+1)+1)<=(x.1.length:Int))))<|
   some (List.drop (w64 (x.2+1)).toNat (List.take (w64 (w64 (x.2+1)+1)).toNat x.1),w64 (w64 (x.2+1)+1))
  else
   zU (S:=Int×Int) (X:=Int×Int) (fun s4=>
     za (zF (bif decide (s4.2<(x.1.length:Int))then decide (s4.2<w64 (w64 (x.2+1)+6))else false) (geti x.1 s4.2) 0) fun y5=>
     za (zF (bif decide (s4.2<(x.1.length:Int))then decide (s4.2<w64 (w64 (x.2+1)+6))else false) (FD (y5.toNat:Int)) (default:Int)) fun y6=>
     bif bif bif decide (s4.2<(x.1.length:Int))then decide (s4.2<w64 (w64 (x.2+1)+6))else false then decide (y6>=0)else false then
      za (geti x.1 s4.2) fun y7=>
      za (FD (y7.toNat:Int)) fun y8=>
      some (.again (w64 (w64 (16*s4.1)+y8),w64 (s4.2+1)))
     else
      some (.out (s4.1,s4.2))) (0,w64 (x.2+1)) fun o9=>
   Zi (X:=Int) (
     za (qB (x.1,o9.2)) fun y10=>
     za (ry y10) fun y11=>
     bif y11 then
      some (.out (w64 (o9.2+1)))
     else
      some (.out o9.2)) fun j12=>
   za (gP o9.1) fun y13=>
   some (y13,j12)
def Fz(x:Str×Int):Option (zg×Int):=
 za (geti x.1 x.2) fun y1=>
 zU (S:=Int×zg×zg) (X:=Int×zg×zg) (fun s2=>
   bif decide (s2.1<(x.1.length:Int))then
    za (geti x.1 s2.1) fun y3=>
    bif (y3.toNat:Int)==(y1.toNat:Int)then
     some (.ret (s2.2.2,w64 (s2.1+1)))
    else
     za (geti x.1 s2.1) fun y4=>
     bif (y4.toNat:Int)==10 then
      some (.ret ((⟨6,[],0,[],false⟩:zg),s2.1))
     else
      za (geti x.1 s2.1) fun y5=>
      bif bif (y5.toNat:Int)==92 then w64 (s2.1+1)==(x.1.length:Int)else false then
       some (.again (w64 (s2.1+1),s2.2.1,s2.2.2))
      else
       za (geti x.1 s2.1) fun y6=>
       za (zF ((y6.toNat:Int)==92) (geti x.1 (w64 (s2.1+1))) 0) fun y7=>
       bif bif (y6.toNat:Int)==92 then(y7.toNat:Int)==10 else false then
        some (.again (w64 (s2.1+2),s2.2.1,s2.2.2))
       else
        za (geti x.1 s2.1) fun y8=>
        bif (y8.toNat:Int)==92 then
         za (wo (x.1,s2.1)) fun y9=>
         need (Ui s2.2.2.text.length y9.1.length)<|
         some (.again (y9.2,s2.2.1,(⟨s2.2.2.kind,s2.2.2.text++y9.1,s2.2.2.num,s2.2.2.unit,s2.2.2.flag⟩:zg)))
        else
         need (decide (0<=s2.1)&&(decide (s2.1<=w64 (s2.1+1))&&decide (w64 (s2.1+1)<=(x.1.length:Int))))<|
         need (Ui s2.2.2.text.length (List.drop s2.1.toNat (List.take (w64 (s2.1+1)).toNat x.1)).length)<|
         some (.again (w64 (s2.1+1),s2.2.1,(⟨s2.2.2.kind,s2.2.2.text++List.drop s2.1.toNat (List.take (w64 (s2.1+1)).toNat x.1),s2.2.2.num,s2.2.2.unit,s2.2.2.flag⟩:zg)))
   else
    some (.out (s2.1,s2.2.1,s2.2.2))) (w64 (x.2+1),(⟨0,[],0,[],false⟩:zg),(⟨5,[],0,[],false⟩:zg)) fun o10=>
 some (o10.2.2,o10.1)
def lF(x:Int):Option Bool:=
 za (pu x) fun y1=>
 some (bif bif bif decide (y1>=97)then decide (y1<=122)else false then true else x==95 then true else decide (x>=128))
def sK(x:Int):Option Bool:=
 za (lF x) fun y1=>
 za (zF (!y1) (Qj x) (default:Bool)) fun y2=>
 some (bif bif y1 then true else y2 then true else x==45)
def Nr(x:Str×Int):Option Bool:=
 za (qB (x.1,x.2)) fun y1=>
 za (zF (y1==92) (qB (x.1,w64 (x.2+1))) (default:Int)) fun y2=>
 some (bif y1==92 then y2 != 10 else false)
def uo(x:Str×Int):Option (Str×Int):=
 zU (S:=Int×Str) (X:=Unit) (fun s1=>
   za (zF (decide (s1.1<(x.1.length:Int))) (geti x.1 s1.1) 0) fun y2=>
   za (zF (decide (s1.1<(x.1.length:Int))) (sK (y2.toNat:Int)) (default:Bool)) fun y3=>
   bif bif decide (s1.1<(x.1.length:Int))then y3 else false then
    need (decide (0<=s1.1)&&(decide (s1.1<=w64 (s1.1+1))&&decide (w64 (s1.1+1)<=(x.1.length:Int))))<|
    need (Ui s1.2.length (List.drop s1.1.toNat (List.take (w64 (s1.1+1)).toNat x.1)).length)<|
    some (.again (w64 (s1.1+1),s1.2++List.drop s1.1.toNat (List.take (w64 (s1.1+1)).toNat x.1)))
   else
    za (zF (decide (s1.1<(x.1.length:Int))) (Nr (x.1,s1.1)) (default:Bool)) fun y4=>
    bif bif decide (s1.1<(x.1.length:Int))then y4 else false then
     za (wo (x.1,s1.1)) fun y5=>
     need (Ui s1.2.length y5.1.length)<|
     some (.again (y5.2,s1.2++y5.1))
    else
     some (.ret (s1.2,s1.1))) (x.2,[]) fun o6=>
 none
def Gz(x:Str×Int):Option Bool:=
 za (qB (x.1,x.2)) fun y1=>
 bif y1==45 then
  za (qB (x.1,w64 (x.2+1))) fun y2=>
  za (lF y2) fun y3=>
  za (zF (!y3) (qB (x.1,w64 (x.2+1))) (default:Int)) fun y4=>
  za (zF (!(bif y3 then true else y4==45)) (Nr (x.1,w64 (x.2+1))) (default:Bool)) fun y5=>
  some (bif bif y3 then true else y4==45 then true else y5)
 else
  za (qB (x.1,x.2)) fun y6=>
  za (lF y6) fun y7=>
  za (zF (!y7) (Nr (x.1,x.2)) (default:Bool)) fun y8=>
  some (bif y7 then true else y8)
def RS(x:Str×Int):Option Bool:=
 Zi (X:=Int) (
   za (qB (x.1,x.2)) fun y1=>
   bif bif y1==43 then true else y1==45 then
    some (.out (w64 (x.2+1)))
   else
    some (.out x.2)) fun j2=>
 Zi (X:=Int) (
   za (qB (x.1,j2)) fun y3=>
   bif y3==46 then
    some (.out (w64 (j2+1)))
   else
    some (.out j2)) fun j4=>
 za (qB (x.1,j4)) fun y5=>
 za (Qj y5) fun y6=>
 some y6
def Mr(x:Str×Int):Option Int:=
 zU (S:=Int) (X:=Int) (fun s1=>
   za (qB (x.1,s1)) fun y2=>
   za (Qj y2) fun y3=>
   bif y3 then
    some (.again (w64 (s1+1)))
   else
    some (.out s1)) x.2 fun o4=>
 some o4
def oz(x:Str×Int):Option (Int×Bool):=
 Zi (X:=Int) (
   za (qB (x.1,x.2)) fun y1=>
   bif bif y1==43 then true else y1==45 then
    some (.out (w64 (x.2+1)))
   else
    some (.out x.2)) fun j2=>
 za (Mr (x.1,j2)) fun y3=>
 Zi (X:=Int×Bool) (
   za (qB (x.1,y3)) fun y4=>
   za (zF (y4==46) (qB (x.1,w64 (y3+1))) (default:Int)) fun y5=>
   za (zF (y4==46) (Qj y5) (default:Bool)) fun y6=>
   bif bif y4==46 then y6 else false then
    za (Mr (x.1,w64 (y3+1))) fun y7=>
    some (.out (y7,false))
   else
    some (.out (y3,true))) fun j8=>
 Zi (X:=Int×Bool) (
   za (qB (x.1,j8.1)) fun y9=>
   bif bif y9==101 then true else y9==69 then
    Zi (X:=Int×Bool×Int) (
      za (qB (x.1,w64 (j8.1+1))) fun y10=>
      bif bif y10==43 then true else y10==45 then
       some (.out (j8.1,j8.2,w64 (w64 (j8.1+1)+1)))
      else
       some (.out (j8.1,j8.2,w64 (j8.1+1)))) fun j11=>
    za (qB (x.1,j11.2.2)) fun y12=>
    za (Qj y12) fun y13=>
    bif y13 then
     za (Mr (x.1,j11.2.2)) fun y14=>
     some (.out (y14,false))
    else
     some (.out (j11.1,j11.2.1))
   else
    some (.out (j8.1,j8.2))) fun j15=>
 some (j15.1,j15.2)
def yz(x:Str):Option Int:=
 za (geti x 0) fun y1=>
 Zi (X:=Str×Int×Int) (
   za (geti x 0) fun y2=>
   bif bif (y2.toNat:Int)==43 then true else(y1.toNat:Int)==45 then
    some (.out ([],3,1))
   else
    some (.out ([],3,0))) fun j3=>
 zU (S:=Str×Int) (X:=Str×Int) (fun s4=>
   za (qB (x,s4.2)) fun y5=>
   za (Qj y5) fun y6=>
   bif y6 then
    need (decide (0<=s4.2)&&(decide (s4.2<=w64 (s4.2+1))&&decide (w64 (s4.2+1)<=(x.length:Int))))<|
    need (Ui s4.1.length (List.drop s4.2.toNat (List.take (w64 (s4.2+1)).toNat x)).length)<|
    some (.again (s4.1++List.drop s4.2.toNat (List.take (w64 (s4.2+1)).toNat x),w64 (s4.2+1)))
   else
    some (.out (s4.1,s4.2))) (j3.1,j3.2.2) fun o7=>
 Zi (X:=Str×Int×Int) (
   za (qB (x,o7.2)) fun y8=>
   bif y8==46 then
    zU (S:=Str×Int×Int) (X:=Str×Int×Int) (fun s9=>
      za (qB (x,s9.2.2)) fun y10=>
      za (Qj y10) fun y11=>
      bif y11 then
       need (decide (0<=s9.2.2)&&(decide (s9.2.2<=w64 (s9.2.2+1))&&decide (w64 (s9.2.2+1)<=(x.length:Int))))<|
       need (Ui s9.1.length (List.drop s9.2.2.toNat (List.take (w64 (s9.2.2+1)).toNat x)).length)<|
       some (.again (s9.1++List.drop s9.2.2.toNat (List.take (w64 (s9.2.2+1)).toNat x),w64 (s9.2.1 - 1),w64 (s9.2.2+1)))
      else
       some (.out (s9.1,s9.2.1,s9.2.2))) (o7.1,j3.2.1,w64 (o7.2+1)) fun o12=>
    some (.out (o12.1,o12.2.1,o12.2.2))
   else
    some (.out (o7.1,j3.2.1,o7.2))) fun j13=>
 Zi (X:=Int) (
   bif decide (j13.2.2<(x.length:Int))then
    za (geti x (w64 (j13.2.2+1))) fun y14=>
    Zi (X:=Int×Int) (
      za (geti x (w64 (j13.2.2+1))) fun y15=>
      bif bif (y15.toNat:Int)==43 then true else(y14.toNat:Int)==45 then
       some (.out (j13.2.1,w64 (w64 (j13.2.2+1)+1)))
      else
       some (.out (j13.2.1,w64 (j13.2.2+1)))) fun j16=>
    zU (S:=Int×Int) (X:=Int) (fun s17=>
      bif decide (s17.1<(x.length:Int))then
       za (geti x s17.1) fun y18=>
       some (.again (w64 (s17.1+1),if w64 (w64 (10*s17.2)+w64 (wu8 ((y18.toNat:Int) - 48)))<10000 then w64 (w64 (10*s17.2)+w64 (wu8 ((y18.toNat:Int) - 48)))else 10000))
      else
       some (.out s17.2)) (j16.2,0) fun o19=>
    Zi (X:=Int×Int) (
      bif (y14.toNat:Int)==45 then
       some (.out (j16.1,w64 (0 - o19)))
      else
       some (.out (j16.1,o19))) fun j20=>
    some (.out (w64 (j20.1+j20.2)))
   else
    some (.out j13.2.1)) fun j21=>
 zU (S:=Int×Int) (X:=Int) (fun s22=>
   bif bif decide (s22.2<w64 ((j13.1.length:Int)+j21))then decide (s22.2<(j13.1.length:Int))else false then
    za (geti j13.1 s22.2) fun y23=>
    some (.again (if w64 (w64 (10*s22.1)+w64 (wu8 ((y23.toNat:Int) - 48)))<1000000000000 then w64 (w64 (10*s22.1)+w64 (wu8 ((y23.toNat:Int) - 48)))else 1000000000000,w64 (s22.2+1)))
   else
    some (.out s22.1)) (0,0) fun o24=>
 zU (S:=Int×Int) (X:=Int) (fun s25=>
   bif bif bif decide (s25.1>0)then decide (s25.2>0)else false then decide (s25.2<1000000000000)else false then
    some (.again (w64 (s25.1 - 1),if w64 (10*s25.2)<1000000000000 then w64 (10*s25.2)else 1000000000000))
   else
    some (.out s25.2)) (j21,o24) fun o26=>
 bif (y1.toNat:Int)==45 then
  some (w64 (0 - o26))
 else
  some o26
def Uz(x:Str×Int):Option (zg×Int):=
 za (oz (x.1,x.2)) fun y1=>
 need (decide (0<=x.2)&&(decide (x.2<=y1.1)&&decide (y1.1<=(x.1.length:Int))))<|
 za (yz (List.drop x.2.toNat (List.take y1.1.toNat x.1))) fun y2=>
 Zi (X:=Int×zg×zg) (
   za (Gz (x.1,y1.1)) fun y3=>
   bif y3 then
    za (uo (x.1,y1.1)) fun y4=>
    some (.out (y4.2,(⟨0,[],0,[],false⟩:zg),(⟨12,[],y2,y4.1,y1.2⟩:zg)))
   else
    za (qB (x.1,y1.1)) fun y5=>
    bif y5==37 then
     some (.out (w64 (y1.1+1),(⟨0,[],0,[],false⟩:zg),(⟨11,[],y2,[],false⟩:zg)))
    else
     some (.out (y1.1,(⟨0,[],0,[],false⟩:zg),(⟨10,[],y2,[],y1.2⟩:zg)))) fun j6=>
 some (j6.2.2,j6.1)
def JJ(x:Str×Int×Str):Option Bool:=
 need (decide (0<=x.2.1)&&(decide (x.2.1<=w64 (x.2.1+(x.2.2.length:Int)))&&decide (w64 (x.2.1+(x.2.2.length:Int))<=(x.1.length:Int)))|| !(decide (w64 ((x.1.length:Int) - x.2.1)>=(x.2.2.length:Int))))<|
 some (bif decide (w64 ((x.1.length:Int) - x.2.1)>=(x.2.2.length:Int))then List.drop x.2.1.toNat (List.take (w64 (x.2.1+(x.2.2.length:Int))).toNat x.1)==x.2.2 else false)
def Hm(x:Str×Str):Option Bool:=
 za (QJ x.1) fun y1=>
 za (QJ x.2) fun y2=>
 some (y1==y2)
def Nu(x:Str×Int):Option (zg×Int):=
 zU (S:=Int) (X:=Int) (fun s1=>
   za (zF (decide (s1<(x.1.length:Int))) (geti x.1 s1) 0) fun y2=>
   bif bif decide (s1<(x.1.length:Int))then(y2.toNat:Int) != 41 else false then
    za (Nr (x.1,s1)) fun y3=>
    bif y3 then
     za (wo (x.1,s1)) fun y4=>
     some (.again y4.2)
    else
     some (.again (w64 (s1+1)))
   else
    some (.out s1)) x.2 fun o5=>
 some ((⟨8,[],0,[],false⟩:zg),if w64 (o5+1)<(x.1.length:Int)then w64 (o5+1)else(x.1.length:Int))
def XT(x:Int):Option Bool:=
 some (bif bif bif decide (x<=8)then true else x==11 then true else bif decide (x>=14)then decide (x<=31)else false then true else x==127)
def Dy(x:Str×Int):Option (zg×Int):=
 za (Ap (x.1,x.2)) fun y1=>
 zU (S:=Int×zg×zg) (X:=Int×zg×zg) (fun s2=>
   za (zF (decide (s2.1<(x.1.length:Int))) (geti x.1 s2.1) 0) fun y3=>
   bif bif decide (s2.1<(x.1.length:Int))then(y3.toNat:Int) != 41 else false then
    za (geti x.1 s2.1) fun y4=>
    za (ry (y4.toNat:Int)) fun y5=>
    bif y5 then
     za (Ap (x.1,s2.1)) fun y6=>
     za (zF (decide (y6<(x.1.length:Int))) (geti x.1 y6) 0) fun y7=>
     bif bif decide (y6<(x.1.length:Int))then(y7.toNat:Int) != 41 else false then
      za (Nu (x.1,y6)) fun y8=>
      some (.ret (y8.1,y8.2))
     else
      some (.again (y6,s2.2.1,s2.2.2))
    else
     za (zF (!(bif bif (y4.toNat:Int)==34 then true else(y4.toNat:Int)==39 then true else(y4.toNat:Int)==40)) (XT (y4.toNat:Int)) (default:Bool)) fun y9=>
     za (zF ((y4.toNat:Int)==92&& !(bif bif bif (y4.toNat:Int)==34 then true else(y4.toNat:Int)==39 then true else(y4.toNat:Int)==40 then true else y9)) (Nr (x.1,s2.1)) (default:Bool)) fun y10=>
     bif bif bif bif bif (y4.toNat:Int)==34 then true else(y4.toNat:Int)==39 then true else(y4.toNat:Int)==40 then true else y9 then true else bif (y4.toNat:Int)==92 then !y10 else false then
      za (Nu (x.1,s2.1)) fun y11=>
      some (.ret (y11.1,y11.2))
     else
      bif (y4.toNat:Int)==92 then
       za (wo (x.1,s2.1)) fun y12=>
       need (Ui s2.2.2.text.length y12.1.length)<|
       some (.again (y12.2,s2.2.1,(⟨s2.2.2.kind,s2.2.2.text++y12.1,s2.2.2.num,s2.2.2.unit,s2.2.2.flag⟩:zg)))
      else
       need (decide (0<=s2.1)&&(decide (s2.1<=w64 (s2.1+1))&&decide (w64 (s2.1+1)<=(x.1.length:Int))))<|
       need (Ui s2.2.2.text.length (List.drop s2.1.toNat (List.take (w64 (s2.1+1)).toNat x.1)).length)<|
       some (.again (w64 (s2.1+1),s2.2.1,(⟨s2.2.2.kind,s2.2.2.text++List.drop s2.1.toNat (List.take (w64 (s2.1+1)).toNat x.1),s2.2.2.num,s2.2.2.unit,s2.2.2.flag⟩:zg)))
   else
    some (.out (s2.1,s2.2.1,s2.2.2))) (y1,(⟨0,[],0,[],false⟩:zg),(⟨7,[],0,[],false⟩:zg)) fun o13=>
 some (o13.2.2,if w64 (o13.1+1)<(x.1.length:Int)then w64 (o13.1+1)else(x.1.length:Int))
def Oy(x:Str×Int):Option (zg×Int):=
 za (uo (x.1,x.2)) fun y1=>
 za (qB (x.1,y1.2)) fun y2=>
 bif y2 != 40 then
  some ((⟨1,y1.1,0,[],false⟩:zg),y1.2)
 else
  Zi (X:=zg) (
    za (Hm (y1.1,[117,114,108])) fun y3=>
    bif y3 then
     za (Ap (x.1,w64 (y1.2+1))) fun y4=>
     za (qB (x.1,y4)) fun y5=>
     bif bif y5 != 34 then y5 != 39 else false then
      za (Dy (x.1,w64 (y1.2+1))) fun y6=>
      some (.ret (y6.1,y6.2))
     else
      some (.out (⟨0,[],0,[],false⟩:zg))
    else
     some (.out (⟨0,[],0,[],false⟩:zg))) fun j7=>
  some ((⟨2,y1.1,0,[],false⟩:zg),w64 (y1.2+1))
def rJ(x:Int):Option Int:=
 bif x==58 then
  some 16
 else
  bif x==59 then
   some 17
  else
   bif x==44 then
    some 18
   else
    bif x==91 then
     some 19
    else
     bif x==93 then
      some 20
     else
      bif x==40 then
       some 21
      else
       bif x==41 then
        some 22
       else
        bif x==123 then
         some 23
        else
         bif x==125 then
          some 24
         else
          some 0
def Ey(x:Str×Int):Option (zg×Int):=
 za (geti x.1 x.2) fun y1=>
 za (ry (y1.toNat:Int)) fun y2=>
 bif y2 then
  za (Ap (x.1,x.2)) fun y3=>
  some ((⟨13,[],0,[],false⟩:zg),y3)
 else
  bif bif (y1.toNat:Int)==34 then true else(y1.toNat:Int)==39 then
   za (Fz (x.1,x.2)) fun y4=>
   some (y4.1,y4.2)
  else
   za (zF (decide (w64 (x.2+1)<(x.1.length:Int))&&(y1.toNat:Int)==35) (geti x.1 (w64 (x.2+1))) 0) fun y5=>
   za (zF (decide (w64 (x.2+1)<(x.1.length:Int))&&(y1.toNat:Int)==35) (sK (y5.toNat:Int)) (default:Bool)) fun y6=>
   za (zF (!(bif decide (w64 (x.2+1)<(x.1.length:Int))then y6 else false)&&(y1.toNat:Int)==35) (Nr (x.1,w64 (x.2+1))) (default:Bool)) fun y7=>
   bif bif (y1.toNat:Int)==35 then bif bif decide (w64 (x.2+1)<(x.1.length:Int))then y6 else false then true else y7 else false then
    za (uo (x.1,w64 (x.2+1))) fun y8=>
    za (Gz (x.1,w64 (x.2+1))) fun y9=>
    some ((⟨4,y8.1,0,[],y9⟩:zg),y8.2)
   else
    za (RS (x.1,x.2)) fun y10=>
    bif y10 then
     za (Uz (x.1,x.2)) fun y11=>
     some (y11.1,y11.2)
    else
     za (JJ (x.1,x.2,[45,45,62])) fun y12=>
     bif y12 then
      some ((⟨15,[],0,[],false⟩:zg),w64 (x.2+3))
     else
      za (JJ (x.1,x.2,[60,33,45,45])) fun y13=>
      bif y13 then
       some ((⟨14,[],0,[],false⟩:zg),w64 (x.2+4))
      else
       za (zF ((y1.toNat:Int)==64) (Gz (x.1,w64 (x.2+1))) (default:Bool)) fun y14=>
       bif bif (y1.toNat:Int)==64 then y14 else false then
        za (uo (x.1,w64 (x.2+1))) fun y15=>
        some ((⟨3,y15.1,0,[],false⟩:zg),y15.2)
       else
        za (Gz (x.1,x.2)) fun y16=>
        bif y16 then
         za (Oy (x.1,x.2)) fun y17=>
         some (y17.1,y17.2)
        else
         za (rJ (y1.toNat:Int)) fun y18=>
         bif y18 != 0 then
          za (rJ (y1.toNat:Int)) fun y19=>
          some ((⟨y19,[],0,[],false⟩:zg),w64 (x.2+1))
         else
          need (decide (0<=x.2)&&(decide (x.2<=w64 (x.2+1))&&decide (w64 (x.2+1)<=(x.1.length:Int))))<|
          some ((⟨9,List.drop x.2.toNat (List.take (w64 (x.2+1)).toNat x.1),0,[],false⟩:zg),w64 (x.2+1))
def QK(x:Int):Option Bool:=
 za (QN x) fun y1=>
 za (Ey ([y1,(10:UInt8)],0)) fun y2=>
 some (bif bif bif bif decide (x>=1)then decide (x<=127)else false then x != 12 else false then x != 13 else false then y2.1.kind==9 else false)
def oD(x:zg):Option Bool:=
 Zi (X:=Bool×zg) (
   bif x.kind==1 then
    some (.out (x.kind==1,x))
   else
    bif x.kind==2 then
     some (.out (x.kind==2,x))
    else
     some (.out (x.kind==3,x))) fun j1=>
 bif j1.1 then
  za (zF (!(x.text==[])) (Ir x.text) (default:Bool)) fun y2=>
  some (bif bif !(x.text==[])then y2 else false then j1.2.kind==x.kind&&(([]:Str)==[]&&(j1.2.num==0&&(j1.2.unit==[]&&(j1.2.flag==false&&true))))else false)
 else
  bif x.kind==4 then
   za (zF (!(x.text==[])) (Ir x.text) (default:Bool)) fun y3=>
   za (zF (!x.flag&&(bif !(x.text==[])then y3 else false)) (rD x.text) (default:Bool)) fun y4=>
   some (bif bif bif !(x.text==[])then y3 else false then bif x.flag then true else y4 else false then j1.2.kind==x.kind&&(([]:Str)==[]&&(j1.2.num==0&&(j1.2.unit==[]&&(false==false&&true))))else false)
  else
   Zi (X:=Bool×zg) (
     bif x.kind==5 then
      some (.out (x.kind==5,j1.2))
     else
      some (.out (x.kind==7,j1.2))) fun j5=>
   bif j5.1 then
    za (Ir x.text) fun y6=>
    some (bif y6 then j5.2.kind==x.kind&&(([]:Str)==[]&&(j5.2.num==0&&(j5.2.unit==[]&&(j5.2.flag==false&&true))))else false)
   else
    bif x.kind==9 then
     za (zF ((x.text.length:Int)==1) (geti x.text 0) 0) fun y7=>
     za (zF ((x.text.length:Int)==1) (QK (y7.toNat:Int)) (default:Bool)) fun y8=>
     some (bif bif (x.text.length:Int)==1 then y8 else false then j5.2.kind==x.kind&&(([]:Str)==[]&&(j5.2.num==0&&(j5.2.unit==[]&&(j5.2.flag==false&&true))))else false)
    else
     Zi (X:=Bool×zg) (
       bif x.kind==10 then
        some (.out (x.kind==10,j5.2))
       else
        bif x.kind==11 then
         some (.out (x.kind==11,j5.2))
        else
         some (.out (x.kind==12,j5.2))) fun j9=>
     bif j9.1 then
      za (zF ((!(x.unit==[]))==(x.kind==12)) (Ir x.unit) (default:Bool)) fun y10=>
      some (bif bif bif bif bif decide (x.num>=(-1000000000000))then decide (x.num<=1000000000000)else false then bif !x.flag then true else Int.tmod x.num 1000==0 else false then bif (!(x.unit==[]))==(x.kind==12)then y10 else false else false then bif x.kind != 11 then true else !x.flag else false then j9.2.kind==x.kind&&(j9.2.text==[]&&(0==0&&(([]:Str)==[]&&(false==false&&true))))else false)
     else
      Zi (X:=Bool) (
        bif x.kind==6 then
         some (.out (x.kind==6))
        else
         some (.out (x.kind==8))) fun j11=>
      bif j11 then
       some false
      else
       some (bif bif decide (x.kind>=1)then decide (x.kind<=24)else false then x.kind==x.kind&&(x.text==[]&&(x.num==0&&(x.unit==[]&&(x.flag==false&&true))))else false)
def ou(x:List zg):Option Int:=
 bif decide ((x.length:Int)>1500)then
  some 4
 else
  zU (S:=Int) (X:=Unit) (fun s1=>
    bif decide (s1<(x.length:Int))then
     za (geti x s1) fun y2=>
     za (oD y2) fun y3=>
     bif !y3 then
      some (.ret 8)
     else
      Zi (X:=Unit) (
        za (geti x s1) fun y4=>
        za (zF (y4.kind==2) (geti x s1) (default:zg)) fun y5=>
        za (zF (y4.kind==2) (Hm (y5.text,[117,114,108])) (default:Bool)) fun y6=>
        bif bif y4.kind==2 then y6 else false then
         Zi (X:=Int) (
           za (zF (decide (w64 (s1+1)<(x.length:Int))) (geti x (w64 (s1+1))) (default:zg)) fun y7=>
           bif bif decide (w64 (s1+1)<(x.length:Int))then y7.kind==13 else false then
            some (.out (w64 (w64 (s1+1)+1)))
           else
            some (.out (w64 (s1+1)))) fun j8=>
         za (zF (!(decide (j8>=(x.length:Int)))) (geti x j8) (default:zg)) fun y9=>
         bif bif decide (j8>=(x.length:Int))then true else y9.kind != 5 then
          some (.ret (LO.ret 8))
         else
          some (.out ())
        else
         some (.out ())) fun j10=>
      za (geti x s1) fun y11=>
      za (zF (y11.kind==9) (geti x s1) (default:zg)) fun y12=>
      za (zF (!(w64 (s1+1)==(x.length:Int))&&(bif y11.kind==9 then y12.text==[92]else false)) (geti x (w64 (s1+1))) (default:zg)) fun y13=>
      bif bif bif y11.kind==9 then y12.text==[92]else false then bif w64 (s1+1)==(x.length:Int)then true else y13.kind != 13 else false then
       some (.ret 8)
      else
       some (.again (w64 (s1+1)))
    else
     some (.out ())) 0 fun o14=>
  some 0
def nG(QS:List zb->Option Bool)(x:List zb):Option Bool:=
 zU (S:=Int) (X:=Unit) (fun s1=>
   bif decide (s1<(x.length:Int))then
    za (geti x s1) fun y2=>
    za (zF (!(bif bif y2.token.kind==20 then true else y2.token.kind==22 then true else y2.token.kind==24)) (geti x s1) (default:zb)) fun y3=>
    za (zF (!(bif bif y2.token.kind==20 then true else y2.token.kind==22 then true else y2.token.kind==24)) (QS y3.list) (default:Bool)) fun y4=>
    bif bif bif bif y2.token.kind==20 then true else y2.token.kind==22 then true else y2.token.kind==24 then true else y4 then
     some (.ret true)
    else
     some (.again (w64 (s1+1)))
   else
    some (.out ())) 0 fun o5=>
 some false
def QS:List zb->Option Bool:=recE (nG)
def GG(x:List zb):Option (List zb):=
 zU (S:=List zb) (X:=List zb) (fun s1=>
   za (zF (decide ((s1.length:Int)>0)) (geti s1 0) (default:zb)) fun y2=>
   bif bif decide ((s1.length:Int)>0)then y2.token.kind==13 else false then
    need (decide (1<=(s1.length:Int)))<|
    some (.again (List.drop 1 s1))
   else
    some (.out s1)) x fun o3=>
 zU (S:=List zb) (X:=List zb) (fun s4=>
   za (zF (decide ((s4.length:Int)>0)) (geti s4 (w64 ((s4.length:Int) - 1))) (default:zb)) fun y5=>
   bif bif decide ((s4.length:Int)>0)then y5.token.kind==13 else false then
    need (decide (0<=w64 ((s4.length:Int) - 1))&&decide (w64 ((s4.length:Int) - 1)<=(s4.length:Int)))<|
    some (.again (List.take (w64 ((s4.length:Int) - 1)).toNat s4))
   else
    some (.out s4)) o3 fun o6=>
 some o6
def jF(x:Str):Option Bool:=
 need (decide (2<=(x.length:Int))|| !(decide ((x.length:Int)>2)))<|
 some (bif decide ((x.length:Int)>2)then List.take 2 x==[45,45]else false)
def MF(x:Str×List zb):Option Bool:=
 za (pE x.2) fun y1=>
 za (zF (!(y1 != 0)) (QU x.2) (default:List zg)) fun y2=>
 za (zF (!(y1 != 0)) (ou y2) (default:Int)) fun y3=>
 za (zF (!(bif y1 != 0 then true else y3 != 0)) (QS x.2) (default:Bool)) fun y4=>
 bif bif bif y1 != 0 then true else y3 != 0 then true else y4 then
  some false
 else
  za (GG x.2) fun y5=>
  za (zF ((x.2.length:Int)==0&& !((y5.length:Int) != (x.2.length:Int))) (jF x.1) (default:Bool)) fun y6=>
  bif bif (y5.length:Int) != (x.2.length:Int)then true else bif (x.2.length:Int)==0 then !y6 else false then
   some false
  else
   zU (S:=Int) (X:=Unit) (fun s7=>
     bif decide (s7<(x.2.length:Int))then
      za (geti x.2 s7) fun y8=>
      bif bif y8.token.kind==17 then true else bif y8.token.kind==9 then y8.token.text==[33]else false then
       some (.ret false)
      else
       some (.again (w64 (s7+1)))
     else
      some (.out ())) 0 fun o9=>
   some true
def Hr(x:Zu):Option Int:=
 za (nE x.name) fun y1=>
 za (zF (!(!y1)) (MF (x.name,x.value)) (default:Bool)) fun y2=>
 bif bif !y1 then true else !y2 then
  some 8
 else
  some 0
def lu(x:Zu):Option Bool:=
 some (bif bif x.name==[]then(x.value.length:Int)==0 else false then !x.important else false)
def Pn(x:zu):Option Bool:=
 za (zF (bif x.name==[]then x.num==0 else false) (lu x.decl) (default:Bool)) fun y1=>
 some (bif bif x.name==[]then x.num==0 else false then y1 else false)
def Jz(x:Str):Option Bool:=
 za (zF (!(bif x==[]then true else decide ((x.length:Int)>64))) (QJ x) (default:Str)) fun y1=>
 bif bif bif bif bif bif bif x==[]then true else decide ((x.length:Int)>64)then true else !(x==y1)then true else x==[97,110,100]then true else x==[111,114]then true else x==[110,111,116]then true else x==[111,110,108,121]then
  some false
 else
  zU (S:=Int) (X:=Unit) (fun s2=>
    bif decide (s2<(x.length:Int))then
     za (geti x s2) fun y3=>
     bif (y3.toNat:Int)==0 then
      some (.ret false)
     else
      some (.again (w64 (s2+1)))
    else
     some (.out ())) 0 fun o4=>
  some true
def ww(x:Int):Option Bool:=
 some (bif decide (x>=(-1000000000000))then decide (x<=1000000000000)else false)
def Cy(x:zu):Option (Bool×Bool):=
 za (zF (!(x.kind != 1)) (Pn (⟨x.kind,x.name,x.num,x.decl,x.list⟩:zu)) (default:Bool)) fun y1=>
 bif bif bif x.kind != 1 then true else !y1 then true else(x.list.length:Int)==0 then
  some (false,false)
 else
  zU (S:=Int) (X:=Unit) (fun s2=>
    bif decide (s2<(x.list.length:Int))then
     Zi (X:=Int) (
       za (geti x.list s2) fun y3=>
       za (zF (!(decide ((y3.list.length:Int)>0))) (lu y3.decl) (default:Bool)) fun y4=>
       bif bif decide ((y3.list.length:Int)>0)then true else !y4 then
        some (.ret (LO.ret (false,false)))
       else
        za (zF (bif bif s2==0 then y3.kind==4 else false then y3.num==0 else false) (Jz y3.name) (default:Bool)) fun y5=>
        bif bif bif bif s2==0 then y3.kind==4 else false then y3.num==0 else false then y5 else false then
         some (.out s2)
        else
         za (zF (!(bif bif bif y3.kind != 5 then y3.kind != 6 else false then true else !(y3.name==[])then true else decide (y3.num<0))) (ww y3.num) (default:Bool)) fun y6=>
         bif bif bif bif bif y3.kind != 5 then y3.kind != 6 else false then true else !(y3.name==[])then true else decide (y3.num<0)then true else !y6 then
          some (.ret (LO.ret (false,false)))
         else
          some (.out s2)) fun j7=>
     some (.again (w64 (j7+1)))
    else
     some (.out ())) 0 fun o8=>
  za (geti x.list 0) fun y9=>
  some (true,y9.kind==4)
def jy(x:zu):Option Bool:=
 bif x.kind==3 then
  za (Pn (⟨x.kind,x.name,x.num,x.decl,x.list⟩:zu)) fun y1=>
  bif bif !y1 then true else(x.list.length:Int) != 1 then
   some false
  else
   za (geti x.list 0) fun y2=>
   za (Cy (⟨y2.kind,y2.name,y2.num,y2.decl,y2.list⟩:zu)) fun y3=>
   some (bif y3.1 then y3.2 else false)
 else
  za (Cy (⟨x.kind,x.name,x.num,x.decl,x.list⟩:zu)) fun y4=>
  some y4.1
def JF(x:zu):Option Bool:=
 za (Pn (⟨x.kind,x.name,x.num,x.decl,x.list⟩:zu)) fun y1=>
 bif !y1 then
  some false
 else
  bif x.kind==1 then
   some ((x.list.length:Int)==0)
  else
   bif bif bif x.kind != 2 then true else decide ((x.list.length:Int)<1)then true else decide ((x.list.length:Int)>64)then
    some false
   else
    zU (S:=Int) (X:=Unit) (fun s2=>
      bif decide (s2<(x.list.length:Int))then
       za (geti x.list s2) fun y3=>
       za (jy (⟨y3.kind,y3.name,y3.num,y3.decl,y3.list⟩:zu)) fun y4=>
       bif !y4 then
        some (.ret false)
       else
        some (.again (w64 (s2+1)))
      else
       some (.out ())) 0 fun o5=>
    some true
def KF(yl:zu->Option Int)(x:zu):Option Int:=
 bif x.kind==7 then
  za (QC x.decl.value) fun y1=>
  some (w64 (1+y1))
 else
  bif x.kind==8 then
   some 1
  else
   zU (S:=Int×Int) (X:=Int) (fun s2=>
     bif decide (s2.2<(x.list.length:Int))then
      za (geti x.list s2.2) fun y3=>
      Zi (X:=Int×Int) (
        bif bif y3.kind==7 then true else y3.kind==8 then
         some (.out (s2.1,0))
        else
         some (.out (s2.1,1))) fun j4=>
      za (geti x.list s2.2) fun y5=>
      za (yl (⟨y5.kind,y5.name,y5.num,y5.decl,y5.list⟩:zu)) fun y6=>
      some (.again (if w64 (j4.2+y6)>j4.1 then w64 (j4.2+y6)else j4.1,w64 (s2.2+1)))
     else
      some (.out s2.1)) (0,0) fun o7=>
   some o7
def yl:zu->Option Int:=recE (KF)
def XH(qw:zu->Option Bool)(x:zu):Option Bool:=
 bif x.kind==7 then
  za (zF (bif bif x.name==[]then x.num==0 else false then(x.list.length:Int)==0 else false) (Hr x.decl) (default:Int)) fun y1=>
  some (bif bif bif x.name==[]then x.num==0 else false then(x.list.length:Int)==0 else false then y1==0 else false)
 else
  bif x.kind==8 then
   za (Pn (⟨x.kind,x.name,x.num,x.decl,x.list⟩:zu)) fun y2=>
   some (bif y2 then(x.list.length:Int)==0 else false)
  else
   bif x.kind==3 then
    za (Pn (⟨x.kind,x.name,x.num,x.decl,x.list⟩:zu)) fun y3=>
    za (zF (bif y3 then(x.list.length:Int)==1 else false) (geti x.list 0) (default:zu)) fun y4=>
    za (zF (bif y3 then(x.list.length:Int)==1 else false) (qw (⟨y4.kind,y4.name,y4.num,y4.decl,y4.list⟩:zu)) (default:Bool)) fun y5=>
    some (bif bif y3 then(x.list.length:Int)==1 else false then y5 else false)
   else
    Zi (X:=Bool) (
      bif x.kind==1 then
       some (.out (x.kind==1))
      else
       some (.out (x.kind==2))) fun j6=>
    bif j6 then
     za (Pn (⟨x.kind,x.name,x.num,x.decl,x.list⟩:zu)) fun y7=>
     bif bif !y7 then true else decide ((x.list.length:Int)<2)then
      some false
     else
      zU (S:=Int) (X:=Unit) (fun s8=>
        bif decide (s8<(x.list.length:Int))then
         za (geti x.list s8) fun y9=>
         za (qw (⟨y9.kind,y9.name,y9.num,y9.decl,y9.list⟩:zu)) fun y10=>
         bif !y10 then
          some (.ret false)
         else
          some (.again (w64 (s8+1)))
        else
         some (.out ())) 0 fun o11=>
      some true
    else
     some false
def qw:zu->Option Bool:=recE (XH)
def FH(x:zu):Option Bool:=
 za (QD ((⟨x.kind,x.name,x.num,x.decl,x.list⟩:zu),1500)) fun y1=>
 za (zF (decide (y1<=1500)) (yl (⟨x.kind,x.name,x.num,x.decl,x.list⟩:zu)) (default:Int)) fun y2=>
 za (zF (bif decide (y1<=1500)then decide (y2<=16)else false) (qw (⟨x.kind,x.name,x.num,x.decl,x.list⟩:zu)) (default:Bool)) fun y3=>
 some (bif bif decide (y1<=1500)then decide (y2<=16)else false then y3 else false)
def yu(x:List Str):Option Bool:=
 bif bif decide ((x.length:Int)<1)then true else decide ((x.length:Int)>16)then
  some false
 else
  zU (S:=Int) (X:=Unit) (fun s1=>
    bif decide (s1<(x.length:Int))then
     za (geti x s1) fun y2=>
     za (Er y2) fun y3=>
     bif !y3 then
      some (.ret false)
     else
      some (.again (w64 (s1+1)))
    else
     some (.out ())) 0 fun o4=>
  some true
def YG(Nn:zN->Option Bool)(x:zN):Option Bool:=
 Zi (X:=Unit) (
   bif x.kind==1 then
    za (iE x.selectors) fun y1=>
    za (zF (!(bif y1 != 0 then true else decide ((x.decls.length:Int)>32))) (au (⟨x.cond.kind,x.cond.name,x.cond.num,x.cond.decl,x.cond.list⟩:zu)) (default:Bool)) fun y2=>
    bif bif bif bif bif y1 != 0 then true else decide ((x.decls.length:Int)>32)then true else !y2 then true else decide ((x.names.length:Int)>0)then true else decide ((x.rules.length:Int)>0)then
     some (.ret false)
    else
     zU (S:=Int) (X:=Unit) (fun s3=>
       bif decide (s3<(x.decls.length:Int))then
        za (geti x.decls s3) fun y4=>
        za (Hr y4) fun y5=>
        bif y5 != 0 then
         some (.ret (LX.ret false))
        else
         some (.again (w64 (s3+1)))
       else
        some (.out ())) 0 fun o6=>
     some (.ret true)
   else
    bif x.kind==2 then
     za (zF (!(bif !(bif (x.selectors.length:Int)==0 then(x.decls.length:Int)==0 else false)then true else decide ((x.names.length:Int)>0))) (JF (⟨x.cond.kind,x.cond.name,x.cond.num,x.cond.decl,x.cond.list⟩:zu)) (default:Bool)) fun y7=>
     bif bif bif !(bif (x.selectors.length:Int)==0 then(x.decls.length:Int)==0 else false)then true else decide ((x.names.length:Int)>0)then true else !y7 then
      some (.ret false)
     else
      some (.out ())
    else
     bif x.kind==3 then
      za (zF (!(bif !(bif (x.selectors.length:Int)==0 then(x.decls.length:Int)==0 else false)then true else decide ((x.names.length:Int)>0))) (FH (⟨x.cond.kind,x.cond.name,x.cond.num,x.cond.decl,x.cond.list⟩:zu)) (default:Bool)) fun y8=>
      bif bif bif !(bif (x.selectors.length:Int)==0 then(x.decls.length:Int)==0 else false)then true else decide ((x.names.length:Int)>0)then true else !y8 then
       some (.ret false)
      else
       some (.out ())
     else
      bif x.kind==4 then
       za (zF (!(!(bif (x.selectors.length:Int)==0 then(x.decls.length:Int)==0 else false))) (au (⟨x.cond.kind,x.cond.name,x.cond.num,x.cond.decl,x.cond.list⟩:zu)) (default:Bool)) fun y9=>
       bif bif bif !(bif (x.selectors.length:Int)==0 then(x.decls.length:Int)==0 else false)then true else !y9 then true else decide ((x.names.length:Int)>1)then
        some (.ret false)
       else
        some (.out ())
      else
       bif x.kind==5 then
        za (zF (!(!(bif (x.selectors.length:Int)==0 then(x.decls.length:Int)==0 else false))) (au (⟨x.cond.kind,x.cond.name,x.cond.num,x.cond.decl,x.cond.list⟩:zu)) (default:Bool)) fun y10=>
        bif bif bif bif bif !(bif (x.selectors.length:Int)==0 then(x.decls.length:Int)==0 else false)then true else !y10 then true else decide ((x.names.length:Int)<1)then true else decide ((x.names.length:Int)>64)then true else decide ((x.rules.length:Int)>0)then
         some (.ret false)
        else
         some (.out ())
       else
        some (.ret false)) fun j11=>
 zU (S:=Int) (X:=Unit) (fun s12=>
   bif decide (s12<(x.names.length:Int))then
    za (geti x.names s12) fun y13=>
    za (yu y13) fun y14=>
    bif !y14 then
     some (.ret false)
    else
     some (.again (w64 (s12+1)))
   else
    some (.out ())) 0 fun o15=>
 zU (S:=Int) (X:=Unit) (fun s16=>
   bif decide (s16<(x.rules.length:Int))then
    za (geti x.rules s16) fun y17=>
    za (Nn (⟨y17.kind,y17.selectors,y17.decls,(⟨y17.cond.kind,y17.cond.name,y17.cond.num,y17.cond.decl,y17.cond.list⟩:zu),y17.names,y17.rules⟩:zN)) fun y18=>
    bif !y18 then
     some (.ret false)
    else
     some (.again (w64 (s16+1)))
   else
    some (.out ())) 0 fun o19=>
 some true
def Nn:zN->Option Bool:=recE (YG)
def bK(x:zJ):Option Bool:=
 some (bif bif bif x.kind==9 then true else x.kind==10 then !x.of_ else false then x.anb.a==0&&(x.anb.b==1&&true)else false)
def EH(Qt:List zm->Option Int)(x:List zm):Option Int:=
 zU (S:=Int×Int) (X:=Int) (fun s1=>
   bif decide (s1.2<(x.length:Int))then
    zU (S:=Int×Int) (X:=Int) (fun s2=>
      za (geti x s1.2) fun y3=>
      bif decide (s2.2<(y3.parts.length:Int))then
       za (geti x s1.2) fun y4=>
       za (geti y4.parts s2.2) fun y5=>
       zU (S:=Int×Int) (X:=Int) (fun s6=>
         bif decide (s6.2<(y5.simples.length:Int))then
          Zi (X:=Int×Int) (
            za (geti y5.simples s6.2) fun y7=>
            za (zF (!(y7.kind==3)) (geti y5.simples s6.2) (default:zJ)) fun y8=>
            za (zF (decide (y8.kind>=9)&& !(y7.kind==3)) (geti y5.simples s6.2) (default:zJ)) fun y9=>
            za (zF (decide (y8.kind>=9)&& !(y7.kind==3)) (bK (⟨y9.kind,y9.name,y9.op,y9.value,y9.fold,y9.anb,y9.of_,y9.list⟩:zJ)) (default:Bool)) fun y10=>
            bif bif y7.kind==3 then true else bif decide (y8.kind>=9)then !y10 else false then
             za (geti y5.simples s6.2) fun y11=>
             za (Qt y11.list) fun y12=>
             some (.out (if w64 (1+y12)>s6.1 then w64 (1+y12)else s6.1,s6.2))
            else
             some (.out (s6.1,s6.2))) fun j13=>
          some (.again (j13.1,w64 (j13.2+1)))
         else
          some (.out s6.1)) (s2.1,0) fun o14=>
       some (.again (o14,w64 (s2.2+1)))
      else
       some (.out s2.1)) (s1.1,0) fun o15=>
    some (.again (o15,w64 (s1.2+1)))
   else
    some (.out s1.1)) (0,0) fun o16=>
 some o16
def Qt:List zm->Option Int:=recE (EH)
def WH(x:zN):Option Int:=
 bif x.kind==3 then
  za (yl (⟨x.cond.kind,x.cond.name,x.cond.num,x.cond.decl,x.cond.list⟩:zu)) fun y1=>
  some y1
 else
  zU (S:=Int×Int) (X:=Int) (fun s2=>
    bif decide (s2.2<(x.cond.list.length:Int))then
     za (geti x.cond.list s2.2) fun y3=>
     Zi (X:=Int×zu) (
       bif bif y3.kind==3 then(y3.list.length:Int)==1 else false then
        za (geti y3.list 0) fun y4=>
        some (.out (s2.1,(⟨y4.kind,y4.name,y4.num,y4.decl,y4.list⟩:zu)))
       else
        some (.out (s2.1,(⟨y3.kind,y3.name,y3.num,y3.decl,y3.list⟩:zu)))) fun j5=>
     zU (S:=Int×Int) (X:=Int) (fun s6=>
       bif decide (s6.2<(j5.2.list.length:Int))then
        Zi (X:=Int×Int) (
          za (geti j5.2.list s6.2) fun y7=>
          bif y7.kind != 4 then
           some (.out (1,s6.2))
          else
           some (.out (s6.1,s6.2))) fun j8=>
        some (.again (j8.1,w64 (j8.2+1)))
       else
        some (.out s6.1)) (j5.1,0) fun o9=>
     some (.again (o9,w64 (s2.2+1)))
    else
     some (.out s2.1)) (0,0) fun o10=>
  some o10
def DF(Jn:List zN->Option Int)(x:List zN):Option Int:=
 zU (S:=Int×Int) (X:=Int) (fun s1=>
   bif decide (s1.2<(x.length:Int))then
    Zi (X:=Int×Int) (
      za (geti x s1.2) fun y2=>
      bif y2.kind==5 then
       some (.out (s1.1,s1.2))
      else
       za (geti x s1.2) fun y3=>
       za (Jn y3.rules) fun y4=>
       zU (S:=Int×Int) (X:=Int) (fun s5=>
         za (geti x s1.2) fun y6=>
         bif decide (s5.2<(y6.decls.length:Int))then
          za (geti x s1.2) fun y7=>
          za (geti y7.decls s5.2) fun y8=>
          za (QC y8.value) fun y9=>
          some (.again (if y9>s5.1 then y9 else s5.1,w64 (s5.2+1)))
         else
          some (.out s5.1)) (y4,0) fun o10=>
       za (geti x s1.2) fun y11=>
       za (Qt y11.selectors) fun y12=>
       za (geti x s1.2) fun y13=>
       za (WH (⟨y13.kind,y13.selectors,y13.decls,(⟨y13.cond.kind,y13.cond.name,y13.cond.num,y13.cond.decl,y13.cond.list⟩:zu),y13.names,y13.rules⟩:zN)) fun y14=>
       some (.out (if y14>(if y12>(if w64 (1+o10)>s1.1 then w64 (1+o10)else s1.1)then y12 else if w64 (1+o10)>s1.1 then w64 (1+o10)else s1.1)then y14 else if y12>(if w64 (1+o10)>s1.1 then w64 (1+o10)else s1.1)then y12 else if w64 (1+o10)>s1.1 then w64 (1+o10)else s1.1,s1.2))) fun j15=>
    some (.again (j15.1,w64 (j15.2+1)))
   else
    some (.out s1.1)) (0,0) fun o16=>
 some o16
def Jn:List zN->Option Int:=recE (DF)
def OE(x:List zN):Option Bool:=
 za (QV x) fun y1=>
 bif decide (y1>64)then
  some false
 else
  zU (S:=Int) (X:=Unit) (fun s2=>
    bif decide (s2<(x.length:Int))then
     za (geti x s2) fun y3=>
     za (Nn (⟨y3.kind,y3.selectors,y3.decls,(⟨y3.cond.kind,y3.cond.name,y3.cond.num,y3.cond.decl,y3.cond.list⟩:zu),y3.names,y3.rules⟩:zN)) fun y4=>
     bif !y4 then
      some (.ret false)
     else
      some (.again (w64 (s2+1)))
    else
     some (.out ())) 0 fun o5=>
  za (Jn x) fun y6=>
  some (decide (y6<=16))
def iy(x:zbj):Option Int:=
 za (OE x.rules) fun y1=>
 bif !y1 then
  some 8
 else
  some 0
def NE(x:ZJ):Option Int:=
 bif bif bif decide ((x.sheets.length:Int)>8)then true else decide (x.next<0)then true else decide (x.next>1000)then
  some 8
 else
  zU (S:=Int×Int) (X:=Unit) (fun s1=>
    bif decide (s1.2<(x.sheets.length:Int))then
     za (geti x.sheets s1.2) fun y2=>
     za (zF (!(bif bif bif decide (y2.number<=s1.1)then true else decide (y2.number>=x.next)then true else decide (y2.origin<1)then true else decide (y2.origin>3))) (JK y2.site) (default:Bool)) fun y3=>
     za (zF (!(bif bif bif bif decide (y2.number<=s1.1)then true else decide (y2.number>=x.next)then true else decide (y2.origin<1)then true else decide (y2.origin>3)then true else !y3)) (iy y2.sheet) (default:Int)) fun y4=>
     bif bif bif bif bif bif decide (y2.number<=s1.1)then true else decide (y2.number>=x.next)then true else decide (y2.origin<1)then true else decide (y2.origin>3)then true else !y3 then true else y4 != 0 then
      some (.ret 8)
     else
      some (.again (y2.number,w64 (s1.2+1)))
    else
     some (.out ())) ((-1),0) fun o5=>
  some 0
def XD(x:ZJ):Option Bool:=
 za (ME x) fun y1=>
 za (zF (!y1) (NE x) (default:Int)) fun y2=>
 some (bif !y1 then y2==0 else false)
def LK(x:Str):Option Bool:=
 some (bif bif decide ((x.length:Int)>600)then decide ((x.length:Int)<=4000)else false then true else decide ((x.length:Int)>4100))
def YH(ZV:List zm×List zm->Option Bool)(x:List zJ×List zJ):Option Bool:=
 bif (x.1.length:Int) != (x.2.length:Int)then
  some false
 else
  zU (S:=Int) (X:=Unit) (fun s1=>
    bif decide (s1<(x.1.length:Int))then
     za (geti x.1 s1) fun y2=>
     za (Mv (⟨y2.kind,y2.name,y2.op,y2.value,y2.fold,y2.anb,y2.of_,y2.list⟩:zJ)) fun y3=>
     za (geti x.2 s1) fun y4=>
     za (Mv (⟨y4.kind,y4.name,y4.op,y4.value,y4.fold,y4.anb,y4.of_,y4.list⟩:zJ)) fun y5=>
     za (zF (!(!(y3.kind==y5.kind&&(y3.name==y5.name&&(y3.op==y5.op&&(y3.value==y5.value&&(y3.fold==y5.fold&&(y3.anb.a==y5.anb.a&&(y3.anb.b==y5.anb.b&&(y3.of_==y5.of_&&true)))))))))) (geti x.1 s1) (default:zJ)) fun y6=>
     za (zF (!(!(y3.kind==y5.kind&&(y3.name==y5.name&&(y3.op==y5.op&&(y3.value==y5.value&&(y3.fold==y5.fold&&(y3.anb.a==y5.anb.a&&(y3.anb.b==y5.anb.b&&(y3.of_==y5.of_&&true)))))))))) (geti x.2 s1) (default:zJ)) fun y7=>
     za (zF (!(!(y3.kind==y5.kind&&(y3.name==y5.name&&(y3.op==y5.op&&(y3.value==y5.value&&(y3.fold==y5.fold&&(y3.anb.a==y5.anb.a&&(y3.anb.b==y5.anb.b&&(y3.of_==y5.of_&&true)))))))))) (ZV (y6.list,y7.list)) (default:Bool)) fun y8=>
     bif bif !(y3.kind==y5.kind&&(y3.name==y5.name&&(y3.op==y5.op&&(y3.value==y5.value&&(y3.fold==y5.fold&&(y3.anb.a==y5.anb.a&&(y3.anb.b==y5.anb.b&&(y3.of_==y5.of_&&true))))))))then true else !y8 then
      some (.ret false)
     else
      some (.again (w64 (s1+1)))
    else
     some (.out ())) 0 fun o9=>
  some true
def dE(ZV:List zm×List zm->Option Bool)(x:zm×zm):Option Bool:=
 bif bif bif x.1.lead != x.2.lead then true else(x.1.parts.length:Int) != (x.2.parts.length:Int)then true else !(x.1.combs==x.2.combs)then
  some false
 else
  zU (S:=Int) (X:=Unit) (fun s1=>
    bif decide (s1<(x.1.parts.length:Int))then
     za (geti x.1.parts s1) fun y2=>
     za (geti x.2.parts s1) fun y3=>
     za (zF (!(!(y2.tag==y3.tag))) (geti x.1.parts s1) (default:zQ)) fun y4=>
     za (zF (!(!(y2.tag==y3.tag))) (geti x.2.parts s1) (default:zQ)) fun y5=>
     za (zF (!(!(y2.tag==y3.tag))) (YH ZV (y4.simples,y5.simples)) (default:Bool)) fun y6=>
     bif bif !(y2.tag==y3.tag)then true else !y6 then
      some (.ret false)
     else
      some (.again (w64 (s1+1)))
    else
     some (.out ())) 0 fun o7=>
  some true
def LF(ZV:List zm×List zm->Option Bool)(x:List zm×List zm):Option Bool:=
 bif (x.1.length:Int) != (x.2.length:Int)then
  some false
 else
  zU (S:=Int) (X:=Unit) (fun s1=>
    bif decide (s1<(x.1.length:Int))then
     za (geti x.1 s1) fun y2=>
     za (geti x.2 s1) fun y3=>
     za (dE ZV ((⟨y2.lead,y2.parts,y2.combs⟩:zm),(⟨y3.lead,y3.parts,y3.combs⟩:zm))) fun y4=>
     bif !y4 then
      some (.ret false)
     else
      some (.again (w64 (s1+1)))
    else
     some (.out ())) 0 fun o5=>
  some true
def ZV:List zm×List zm->Option Bool:=recE (LF)
def Ny(x:List Zu×List Zu):Option Bool:=
 bif (x.1.length:Int) != (x.2.length:Int)then
  some false
 else
  zU (S:=Int) (X:=Unit) (fun s1=>
    bif decide (s1<(x.1.length:Int))then
     za (geti x.1 s1) fun y2=>
     za (geti x.2 s1) fun y3=>
     za (oo (y2,y3)) fun y4=>
     bif !y4 then
      some (.ret false)
     else
      some (.again (w64 (s1+1)))
    else
     some (.out ())) 0 fun o5=>
  some true
def nz(x:List (List Str)×List (List Str)):Option Bool:=
 bif (x.1.length:Int) != (x.2.length:Int)then
  some false
 else
  zU (S:=Int) (X:=Unit) (fun s1=>
    bif decide (s1<(x.1.length:Int))then
     za (geti x.1 s1) fun y2=>
     za (geti x.2 s1) fun y3=>
     bif (y2.length:Int) != (y3.length:Int)then
      some (.ret false)
     else
      zU (S:=Int) (X:=Unit) (fun s4=>
        za (geti x.1 s1) fun y5=>
        bif decide (s4<(y5.length:Int))then
         za (geti x.1 s1) fun y6=>
         za (geti y6 s4) fun y7=>
         za (geti x.2 s1) fun y8=>
         za (geti y8 s4) fun y9=>
         bif !(y7==y9)then
          some (.ret (LO.ret false))
         else
          some (.again (w64 (s4+1)))
        else
         some (.out ())) 0 fun o10=>
      some (.again (w64 (s1+1)))
    else
     some (.out ())) 0 fun o11=>
  some true
def PE(Qk:List zN×List zN->Option Bool)(x:zN×zN):Option Bool:=
 za (zF (x.1.kind==x.2.kind) (ZV (x.1.selectors,x.2.selectors)) (default:Bool)) fun y1=>
 za (zF (bif x.1.kind==x.2.kind then y1 else false) (Ny (x.1.decls,x.2.decls)) (default:Bool)) fun y2=>
 za (zF (bif bif x.1.kind==x.2.kind then y1 else false then y2 else false) (Sk ((⟨x.1.cond.kind,x.1.cond.name,x.1.cond.num,x.1.cond.decl,x.1.cond.list⟩:zu),(⟨x.2.cond.kind,x.2.cond.name,x.2.cond.num,x.2.cond.decl,x.2.cond.list⟩:zu))) (default:Bool)) fun y3=>
 za (zF (bif bif bif x.1.kind==x.2.kind then y1 else false then y2 else false then y3 else false) (nz (x.1.names,x.2.names)) (default:Bool)) fun y4=>
 za (zF (bif bif bif bif x.1.kind==x.2.kind then y1 else false then y2 else false then y3 else false then y4 else false) (Qk (x.1.rules,x.2.rules)) (default:Bool)) fun y5=>
 some (bif bif bif bif bif x.1.kind==x.2.kind then y1 else false then y2 else false then y3 else false then y4 else false then y5 else false)
def CF(Qk:List zN×List zN->Option Bool)(x:List zN×List zN):Option Bool:=
 bif (x.1.length:Int) != (x.2.length:Int)then
  some false
 else
  zU (S:=Int) (X:=Unit) (fun s1=>
    bif decide (s1<(x.1.length:Int))then
     za (geti x.1 s1) fun y2=>
     za (geti x.2 s1) fun y3=>
     za (PE Qk ((⟨y2.kind,y2.selectors,y2.decls,(⟨y2.cond.kind,y2.cond.name,y2.cond.num,y2.cond.decl,y2.cond.list⟩:zu),y2.names,y2.rules⟩:zN),(⟨y3.kind,y3.selectors,y3.decls,(⟨y3.cond.kind,y3.cond.name,y3.cond.num,y3.cond.decl,y3.cond.list⟩:zu),y3.names,y3.rules⟩:zN))) fun y4=>
     bif !y4 then
      some (.ret false)
     else
      some (.again (w64 (s1+1)))
    else
     some (.out ())) 0 fun o5=>
  some true
def Qk:List zN×List zN->Option Bool:=recE (CF)
def XG(x:qE×qE):Option Bool:=
 za (zF (bif bif x.1.number==x.2.number then x.1.origin==x.2.origin else false then x.1.site==x.2.site else false) (Qk (x.1.sheet.rules,x.2.sheet.rules)) (default:Bool)) fun y1=>
 some (bif bif bif x.1.number==x.2.number then x.1.origin==x.2.origin else false then x.1.site==x.2.site else false then y1 else false)
def WG(x:List qE×List qE):Option Bool:=
 bif (x.1.length:Int) != (x.2.length:Int)then
  some false
 else
  zU (S:=Int) (X:=Unit) (fun s1=>
    bif decide (s1<(x.1.length:Int))then
     za (geti x.1 s1) fun y2=>
     za (geti x.2 s1) fun y3=>
     za (XG (y2,y3)) fun y4=>
     bif !y4 then
      some (.ret false)
     else
      some (.again (w64 (s1+1)))
    else
     some (.out ())) 0 fun o5=>
  some true
def bG(x:ZJ×Int×Str×Str):Option Bool:=
 za (@fK fuK ()) fun y1=>
 za (XD x.1) fun y2=>
 za (zF (!(bif !y2 then true else decide ((x.2.2.1.length:Int)>100))) (LK x.2.2.2) (default:Bool)) fun y3=>
 bif bif bif bif !y2 then true else decide ((x.2.2.1.length:Int)>100)then true else y3 then true else !y1 then
  some y1
 else
  za (si (x.1,x.2.1,x.2.2.1,x.2.2.2)) fun y4=>
  bif y4.2.2 != 0 then
   some y1
  else
   za (Jy (y4.1,y4.2.1)) fun y5=>
   za (dx (y5.1,y4.2.1)) fun y6=>
   za (si (y5.1,x.2.1,x.2.2.1,x.2.2.2)) fun y7=>
   za (zF (!(bif y5.2 != 0 then true else y6.2 != 6)) (WG (y5.1.sheets,x.1.sheets)) (default:Bool)) fun y8=>
   bif bif bif bif y5.2 != 0 then true else y6.2 != 6 then true else !y8 then true else y5.1.next != w64 (x.1.next+1)then
    some false
   else
    bif y5.1.next==1000 then
     some (bif y1 then y7.2.2==18 else false)
    else
     some (bif bif bif y1 then y7.2.2==0 else false then y7.2.1==w64 (y4.2.1+1)else false then(y7.1.sheets.length:Int)==(y4.1.sheets.length:Int)else false)
end Go.Lv.VT
end
