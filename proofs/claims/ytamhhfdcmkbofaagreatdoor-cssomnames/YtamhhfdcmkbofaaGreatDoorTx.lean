/- Texts. -/
import Derived.Test.YtamhhfdcmkbofaaGreatDoorTy
import Derived.Test.YtamhhfdcmkbofaaGreatDoorLf
noncomputable section
set_option linter.unusedSimpArgs false
set_option linter.unusedVariables false
namespace Go.Lv.VT
set_option maxRecDepth 100000
def Ky(_:List zt):Option (VAnb×Int):=none
def strings_IndexByte(x:Str×Int):Option Int:=
 za (Bl (x.1,x.2)) fun y1=>
 some y1
def Av(x:Str):Option Bool:=
 za (zH (!(bif x==[]then true else decide ((x.length:Int)>64))) (strings_IndexByte (x,0)) (default:Int)) fun y1=>
 some (bif bif x==[]then true else decide ((x.length:Int)>64)then true else decide (y1>=0))
def QY(fu:Nat)(x:List Str):Option Int:=
 zR fu (fun(s1:Int)=>
   bif decide (s1<(x.length:Int))then
    za (geti x s1) fun y2=>
    za (Av y2) fun y3=>
    bif y3 then
     some (LO.ret s1)
    else
     some (LO.again (w64 (s1+1)))
   else
    some (LO.out ()):Int->Option (LO (Int) (Unit) _)) 0 fun o4=>
 some (-1)
def Qk(fu:Nat)(x:List Str):Option Bool:=
 za (QY fu x) fun y1=>
 some (decide (y1>=0))
def aB(fu:Nat)(x:List Str):Option Bool:=
 za (zH (bif decide ((x.length:Int)>0)then decide ((x.length:Int)<=16)else false) (Qk fu x) (default:Bool)) fun y1=>
 some (bif bif decide ((x.length:Int)>0)then decide ((x.length:Int)<=16)else false then !y1 else false)
def KC(fu:Nat)(x:List Str):Option Bool:=
 za (aB fu x) fun y1=>
 some (!y1)
def yF(fu:Nat)(x:List (List Str)):Option Int:=
 zR fu (fun(s1:Int)=>
   bif decide (s1<(x.length:Int))then
    za (geti x s1) fun y2=>
    za (KC fu y2) fun y3=>
    bif y3 then
     some (LO.ret s1)
    else
     some (LO.again (w64 (s1+1)))
   else
    some (LO.out ()):Int->Option (LO (Int) (Unit) _)) 0 fun o4=>
 some (-1)
def QJ(fu:Nat)(x:List (List Str)):Option Bool:=
 za (yF fu x) fun y1=>
 some (decide (y1>=0))
def Nw(fu:Nat)(Z5:List zh->Option Int)(x:List zh):Option Int:=
 zR fu (fun(s1:Int×Int)=>
   bif decide (s1.2<(x.length:Int))then
    za (geti x s1.2) fun y2=>
    zR fu (fun(s3:Int×Int)=>
      bif decide (s3.2<(y2.parts.length:Int))then
       za (geti y2.parts s3.2) fun y4=>
       zR fu (fun(s5:Int×Int)=>
         bif decide (s5.2<(y4.simples.length:Int))then
          zU (X:=Int×Int) (
            za (geti y4.simples s5.2) fun y6=>
            bif bif y6.kind==3 then true else bif decide (y6.kind>=9)then !(bif bif bif y6.kind==9 then true else y6.kind==10 then !y6.of_ else false then y6.anb.a==0&&(y6.anb.b==1&&true)else false)else false then
             za (Z5 y6.list) fun y7=>
             some (LX.out (if w64 (y7+1)>s5.1 then w64 (y7+1)else s5.1,s5.2))
            else
             some (LX.out (s5.1,s5.2))) fun j8=>
          some (LO.again (j8.1,w64 (j8.2+1)))
         else
          some (LO.out s5.1):Int×Int->Option (LO (Int×Int) (Int) _)) (s3.1,0) fun o9=>
       some (LO.again (o9,w64 (s3.2+1)))
      else
       some (LO.out s3.1):Int×Int->Option (LO (Int×Int) (Int) _)) (s1.1,0) fun o10=>
    some (LO.again (o10,w64 (s1.2+1)))
   else
    some (LO.out s1.1):Int×Int->Option (LO (Int×Int) (Int) _)) (0,0) fun o11=>
 some o11
def Z5(fu:Nat):List zh->Option Int:=QL (Nw fu) fu
def bu(x:Str×Int):Option Bool:=
 za (zH (!(decide ((x.1.length:Int)>x.2))) (strings_IndexByte (x.1,0)) (default:Int)) fun y1=>
 some (bif decide ((x.1.length:Int)>x.2)then true else decide (y1>=0))
def Ev(x:Str):Option Bool:=
 za (zH (!(x==[])) (bu (x,64)) (default:Bool)) fun y1=>
 some (bif !(x==[])then !y1 else false)
def ZH(fu:Nat)(x:Str):Option Str:=
 need (decide (x.length<=maxLen))<|
 zR fu (fun(s1:Int×List UInt8)=>
   bif decide (s1.1<(x.length:Int))then
    zU (X:=Int×List UInt8) (
      need (decide (0<=s1.1)&&decide (s1.1<(s1.2.length:Int)))<|
      za s1.2[s1.1.toNat]? fun y2=>
      bif bif decide (65<=(y2.toNat:Int))then decide ((y2.toNat:Int)<=90)else false then
       need (decide (0<=s1.1)&&decide (s1.1<(s1.2.length:Int)))<|
       za s1.2[s1.1.toNat]? fun y3=>
       need (decide (0<=s1.1)&&decide (s1.1<(s1.2.length:Int)))<|
       za s1.2[s1.1.toNat]? fun y4=>
       za (qK (ibOr IntKind.u8 (y3.toNat:Int) 32)) fun y5=>
       some (LX.out (s1.1,List.set s1.2 s1.1.toNat y5))
      else
       some (LX.out (s1.1,s1.2))) fun j6=>
    some (LO.again (w64 (j6.1+1),j6.2))
   else
    some (LO.out s1.2):Int×List UInt8->Option (LO (Int×List UInt8) (List UInt8) _)) (0,x) fun o7=>
 some o7
def Dv(fu:Nat)(x:Str):Option Bool:=
 za (Ev x) fun y1=>
 za (zH y1 (ZH fu x) (default:Str)) fun y2=>
 some (bif y1 then y2==x else false)
def rC(x:zy):Option (Bool×Bool):=
 zU (X:=Bool) (
   bif x.kind==9 then
    some (LX.out (x.kind==9))
   else
    some (LX.out (x.kind==10))) fun j1=>
 bif j1 then
  some (x.of_,false)
 else
  zU (X:=Bool) (
    bif x.kind==11 then
     some (LX.out (x.kind==11))
    else
     some (LX.out (x.kind==12))) fun j2=>
  bif j2 then
   some (true,true)
  else
   zU (X:=Bool) (
     bif x.kind==13 then
      some (LX.out (x.kind==13))
     else
      some (LX.out (x.kind==14))) fun j3=>
   bif j3 then
    some (true,false)
   else
    some (false,true)
def Q9(x:zg×Int):Option (zg×Bool):=
 bif bif x.1.deep==3 then true else bif x.1.has then x.2==14 else false then
  some ((⟨0,false⟩:zg),false)
 else
  some ((⟨w64 (x.1.deep+1),bif x.1.has then true else x.2==14⟩:zg),true)
def ut(x:Int):Option Bool:=
 some (bif decide ((-1000000000)<=x)then decide (x<=1000000000)else false)
def Ns(x:VAnb):Option Int:=
 za (ut x.a) fun y1=>
 za (zH (!(!y1)) (ut x.b) (default:Bool)) fun y2=>
 bif bif !y1 then true else !y2 then
  some 8
 else
  some 0
def yD(fu:Nat)(zq:zh×zg×Bool->Option Bool)(x:zh×zg×zy):Option Bool:=
 za (zq ((⟨x.1.lead,x.1.parts,x.1.combs⟩:zh),x.2.1,x.2.2.kind==14)) fun y1=>
 some (!y1)
def QK(fu:Nat)(zq:zh×zg×Bool->Option Bool)(x:List zh×zg×zy):Option Int:=
 zR fu (fun(s1:Int)=>
   bif decide (s1<(x.1.length:Int))then
    za (geti x.1 s1) fun y2=>
    za (yD fu zq ((⟨y2.lead,y2.parts,y2.combs⟩:zh),x.2.1,(⟨x.2.2.kind,x.2.2.name,x.2.2.op,x.2.2.value,x.2.2.fold,x.2.2.anb,x.2.2.of_,x.2.2.list⟩:zy))) fun y3=>
    bif y3 then
     some (LO.ret s1)
    else
     some (LO.again (w64 (s1+1)))
   else
    some (LO.out ()):Int->Option (LO (Int) (Unit) _)) 0 fun o4=>
 some (-1)
def qU(fu:Nat)(zq:zh×zg×Bool->Option Bool)(x:List zh×zg×zy):Option Bool:=
 za (QK fu zq (x.1,x.2.1,(⟨x.2.2.kind,x.2.2.name,x.2.2.op,x.2.2.value,x.2.2.fold,x.2.2.anb,x.2.2.of_,x.2.2.list⟩:zy))) fun y1=>
 some (decide (y1>=0))
def LD(fu:Nat)(zq:zh×zg×Bool->Option Bool)(x:zy×zg):Option Bool:=
 za (rC (⟨x.1.kind,x.1.name,x.1.op,x.1.value,x.1.fold,x.1.anb,x.1.of_,x.1.list⟩:zy)) fun y1=>
 zU (X:=Unit) (
   bif y1.1 then
    za (Q9 (x.2,x.1.kind)) fun y2=>
    za (zH (!(bif !y2.2 then true else bif !y1.2 then(x.1.list.length:Int)==0 else false)) (qU fu zq (x.1.list,y2.1,(⟨x.1.kind,x.1.name,x.1.op,x.1.value,x.1.fold,x.1.anb,x.1.of_,x.1.list⟩:zy))) (default:Bool)) fun y3=>
    bif bif bif !y2.2 then true else bif !y1.2 then(x.1.list.length:Int)==0 else false then true else y3 then
     some (LX.ret false)
    else
     some (LX.out ())
   else
    bif decide ((x.1.list.length:Int)>0)then
     some (LX.ret false)
    else
     some (LX.out ())) fun j4=>
 bif bif bif !(x.1.kind==3)then bif bif x.1.op != 0 then true else !(x.1.value==[])then true else x.1.fold else false then true else bif !(bif x.1.kind==9 then true else x.1.kind==10)then bif x.1.of_ then true else !(x.1.anb.a==0&&(x.1.anb.b==0&&true))else false then
  some false
 else
  zU (X:=Bool) (
    bif x.1.kind==1 then
     some (LX.out (x.1.kind==1))
    else
     some (LX.out (x.1.kind==2))) fun j5=>
  bif j5 then
   za (Ev x.1.name) fun y6=>
   some y6
  else
   bif x.1.kind==3 then
    za (Dv fu x.1.name) fun y7=>
    za (zH (bif y7 then decide (x.1.op<=6)else false) (bu (x.1.value,400)) (default:Bool)) fun y8=>
    some (bif bif bif y7 then decide (x.1.op<=6)else false then !y8 else false then bif x.1.op != 0 then true else bif x.1.value==[]then !x.1.fold else false else false)
   else
    za (zH (!(!(bif x.1.kind==9 then true else x.1.kind==10))&&(bif bif x.1.name==[]then decide (x.1.kind>=4)else false then decide (x.1.kind<=14)else false)) (Ns x.1.anb) (default:Int)) fun y9=>
    some (bif bif bif x.1.name==[]then decide (x.1.kind>=4)else false then decide (x.1.kind<=14)else false then bif !(bif x.1.kind==9 then true else x.1.kind==10)then true else y9==0 else false)
def Ow(fu:Nat)(zq:zh×zg×Bool->Option Bool)(x:zB×zg):Option Bool:=
 za (zH (bif !(x.1.tag==[])then !(x.1.tag==[42])else false) (Dv fu x.1.tag) (default:Bool)) fun y1=>
 bif bif bif bif !(x.1.tag==[])then !(x.1.tag==[42])else false then !y1 else false then true else decide ((x.1.simples.length:Int)>64)then
  some false
 else
  zR fu (fun(s2:Int)=>
    bif decide (s2<(x.1.simples.length:Int))then
     za (geti x.1.simples s2) fun y3=>
     za (LD fu zq ((⟨y3.kind,y3.name,y3.op,y3.value,y3.fold,y3.anb,y3.of_,y3.list⟩:zy),x.2)) fun y4=>
     bif !y4 then
      some (LO.ret false)
     else
      some (LO.again (w64 (s2+1)))
    else
     some (LO.out ()):Int->Option (LO (Int) (Unit) _)) 0 fun o5=>
  some (bif !(x.1.tag==[])then true else decide ((x.1.simples.length:Int)>0))
def jD(fu:Nat)(zq:zh×zg×Bool->Option Bool)(x:zB×zg):Option Bool:=
 za (Ow fu zq ((⟨x.1.tag,x.1.simples⟩:zB),x.2)) fun y1=>
 some (!y1)
def QX(fu:Nat)(zq:zh×zg×Bool->Option Bool)(x:List zB×zg):Option Int:=
 zR fu (fun(s1:Int)=>
   bif decide (s1<(x.1.length:Int))then
    za (geti x.1 s1) fun y2=>
    za (jD fu zq ((⟨y2.tag,y2.simples⟩:zB),x.2)) fun y3=>
    bif y3 then
     some (LO.ret s1)
    else
     some (LO.again (w64 (s1+1)))
   else
    some (LO.out ()):Int->Option (LO (Int) (Unit) _)) 0 fun o4=>
 some (-1)
def Qj(fu:Nat)(zq:zh×zg×Bool->Option Bool)(x:List zB×zg):Option Bool:=
 za (QX fu zq (x.1,x.2)) fun y1=>
 some (decide (y1>=0))
def kv(fu:Nat)(zq:zh×zg×Bool->Option Bool)(x:zh×zg×Bool):Option Bool:=
 bif bif bif bif !(x.2.2==(x.1.lead != 0))then true else decide (x.1.lead>4)then true else w64 ((x.1.combs.length:Int)+1) != (x.1.parts.length:Int)then true else decide ((x.1.parts.length:Int)>64)then
  some false
 else
  zR fu (fun(s1:Int)=>
    bif decide (s1<(x.1.combs.length:Int))then
     za (geti x.1.combs s1) fun y2=>
     bif bif decide ((y2.toNat:Int)<1)then true else decide ((y2.toNat:Int)>4)then
      some (LO.ret false)
     else
      some (LO.again (w64 (s1+1)))
    else
     some (LO.out ()):Int->Option (LO (Int) (Unit) _)) 0 fun o3=>
  za (Qj fu zq (x.1.parts,x.2.1)) fun y4=>
  some (!y4)
def zq(fu:Nat):zh×zg×Bool->Option Bool:=QL (kv fu) fu
def kD(fu:Nat)(x:zh):Option Bool:=
 za (zq fu ((⟨x.lead,x.parts,x.combs⟩:zh),(⟨0,false⟩:zg),false)) fun y1=>
 some (!y1)
def rF(fu:Nat)(x:List zh):Option Int:=
 zR fu (fun(s1:Int)=>
   bif decide (s1<(x.length:Int))then
    za (geti x s1) fun y2=>
    za (kD fu (⟨y2.lead,y2.parts,y2.combs⟩:zh)) fun y3=>
    bif y3 then
     some (LO.ret s1)
    else
     some (LO.again (w64 (s1+1)))
   else
    some (LO.out ()):Int->Option (LO (Int) (Unit) _)) 0 fun o4=>
 some (-1)
def Qu(fu:Nat)(x:List zh):Option Bool:=
 za (rF fu x) fun y1=>
 some (decide (y1>=0))
def Aw(fu:Nat)(Z0:List zh->Option Int)(x:List zh):Option Int:=
 zR fu (fun(s1:Int×Int)=>
   bif decide (s1.2<(x.length:Int))then
    za (geti x s1.2) fun y2=>
    zR fu (fun(s3:Int×Int)=>
      bif decide (s3.2<(y2.parts.length:Int))then
       za (geti y2.parts s3.2) fun y4=>
       zR fu (fun(s5:Int×Int)=>
         bif decide (s5.2<(y4.simples.length:Int))then
          za (geti y4.simples s5.2) fun y6=>
          za (Z0 y6.list) fun y7=>
          some (LO.again (w64 (s5.1+y7),w64 (s5.2+1)))
         else
          some (LO.out s5.1):Int×Int->Option (LO (Int×Int) (Int) _)) (s3.1,0) fun o8=>
       some (LO.again (o8,w64 (s3.2+1)))
      else
       some (LO.out s3.1):Int×Int->Option (LO (Int×Int) (Int) _)) (s1.1,0) fun o9=>
    some (LO.again (o9,w64 (s1.2+1)))
   else
    some (LO.out s1.1):Int×Int->Option (LO (Int×Int) (Int) _)) ((x.length:Int),0) fun o10=>
 some o10
def Z0(fu:Nat):List zh->Option Int:=QL (Aw fu) fu
def Fv(fu:Nat)(x:List zh):Option Int:=
 za (zH (!((x.length:Int)==0)) (Qu fu x) (default:Bool)) fun y1=>
 bif bif (x.length:Int)==0 then true else y1 then
  some 8
 else
  za (Z0 fu x) fun y2=>
  bif decide (y2>64)then
   some 4
  else
   some 0
def Um(x:zm):Option Bool:=
 some (bif bif bif bif bif bif x.kind==0 then x.name==[]else false then x.num==0 else false then(x.list.length:Int)==0 else false then x.decl.name==[]else false then(x.decl.value.length:Int)==0 else false then !x.decl.important else false)
def dm(x:Int):Option Int:=
 bif x==2 then
  some 22
 else
  zU (X:=Bool) (
    bif x==19 then
     some (LX.out (x==19))
    else
     bif x==21 then
      some (LX.out (x==21))
     else
      some (LX.out (x==23))) fun j1=>
  bif j1 then
   some (wu8 (x+1))
  else
   some 0
def Lu(fu:Nat)(Xf:List ze×Int->Option Zd)(x:List ze×Int):Option Zd:=
 zR fu (fun(s1:Int×Zd)=>
   bif decide (s1.1<(x.1.length:Int))then
    zU (X:=Int×Zd) (
      za (geti x.1 s1.1) fun y2=>
      za (dm y2.token.kind) fun y3=>
      zU (X:=Zd) (
        bif bif bif x.2 != 0 then y2.token.kind==x.2 else false then true else bif y3==0 then decide ((y2.list.length:Int)>0)else false then
         some (LX.out (⟨s1.2.depth,w64 (s1.2.tokens+1),true⟩:Zd))
        else
         some (LX.out (⟨s1.2.depth,w64 (s1.2.tokens+1),s1.2.bad⟩:Zd))) fun j4=>
      bif y3==0 then
       some (LX.out (s1.1,j4))
      else
       za (Xf (y2.list,y3)) fun y5=>
       some (LX.out (s1.1,(⟨if w64 (y5.depth+1)>j4.depth then w64 (y5.depth+1)else j4.depth,w64 (w64 (j4.tokens+y5.tokens)+1),bif j4.bad then true else y5.bad⟩:Zd)))) fun j6=>
    some (LO.again (w64 (j6.1+1),j6.2))
   else
    some (LO.out s1.2):Int×Zd->Option (LO (Int×Zd) (Zd) _)) (0,(⟨0,0,false⟩:Zd)) fun o7=>
 some o7
def Xf(fu:Nat):List ze×Int->Option Zd:=QL (Lu fu) fu
def QE(fu:Nat)(x:List ze):Option Int:=
 za (Xf fu (x,0)) fun y1=>
 bif decide (y1.depth>16)then
  some 20
 else
  bif decide (y1.tokens>1500)then
   some 4
  else
   bif y1.bad then
    some 8
   else
    some 0
def Lm(fu:Nat)(x:List ze):Option (Int×Int):=
 za (QE fu x) fun y1=>
 bif y1 != 0 then
  some (0,y1)
 else
  za (Xf fu (x,0)) fun y2=>
  some (y2.depth,0)
def Rv(fu:Nat)(Qn:List ze×List zt->Option (List zt))(x:List ze×List zt):Option (List zt):=
 zR fu (fun(s1:Int×List zt)=>
   bif decide (s1.1<(x.1.length:Int))then
    zU (X:=Int×List zt) (
      za (geti x.1 s1.1) fun y2=>
      need (zI s1.2.length 1 56)<|
      za (dm y2.token.kind) fun y3=>
      bif y3 != 0 then
       za (Qn (y2.list,s1.2++[y2.token])) fun y4=>
       need (zI y4.length 1 56)<|
       some (LX.out (s1.1,y4++[(⟨y3,[],0,[],false⟩:zt)]))
      else
       some (LX.out (s1.1,s1.2++[y2.token]))) fun j5=>
    some (LO.again (w64 (j5.1+1),j5.2))
   else
    some (LO.out s1.2):Int×List zt->Option (LO (Int×List zt) (List zt) _)) (0,x.2) fun o6=>
 some o6
def Qn(fu:Nat):List ze×List zt->Option (List zt):=QL (Rv fu) fu
def Ym(fu:Nat)(x:List ze):Option (List zt):=
 zR fu (fun(s1:Int×List zt)=>
   bif decide (s1.1<(x.length:Int))then
    zU (X:=Int×List zt) (
      za (geti x s1.1) fun y2=>
      need (zI s1.2.length 1 56)<|
      za (dm y2.token.kind) fun y3=>
      bif y3 != 0 then
       za (Qn fu (y2.list,s1.2++[y2.token])) fun y4=>
       need (zI y4.length 1 56)<|
       some (LX.out (s1.1,y4++[(⟨y3,[],0,[],false⟩:zt)]))
      else
       some (LX.out (s1.1,s1.2++[y2.token]))) fun j5=>
    some (LO.again (w64 (j5.1+1),j5.2))
   else
    some (LO.out s1.2):Int×List zt->Option (LO (Int×List zt) (List zt) _)) (0,[]) fun o6=>
 some o6
def Js(fu:Nat)(x:List ze):Option (List zt×Int):=
 za (QE fu x) fun y1=>
 bif y1 != 0 then
  some ([],y1)
 else
  za (Ym fu x) fun y2=>
  some (y2,0)
def stringslite_HasPrefix(x:Str×Str):Option Bool:=
 need (decide (0<=(x.2.length:Int))&&decide ((x.2.length:Int)<=(x.1.length:Int))|| !(decide ((x.1.length:Int)>=(x.2.length:Int))))<|
 some (bif decide ((x.1.length:Int)>=(x.2.length:Int))then List.take x.2.length x.1==x.2 else false)
def strings_HasPrefix(x:Str×Str):Option Bool:=
 za (stringslite_HasPrefix (x.1,x.2)) fun y1=>
 some y1
def BB(fu:Nat)(x:Str):Option Bool:=
 za (zH (!(bif x==[]then true else decide ((x.length:Int)>64))) (strings_IndexByte (x,0)) (default:Int)) fun y1=>
 bif bif bif x==[]then true else decide ((x.length:Int)>64)then true else decide (y1>=0)then
  some false
 else
  za (strings_HasPrefix (x,[45,45])) fun y2=>
  bif y2 then
   some (!(x==[45,45]))
  else
   za (ZH fu x) fun y3=>
   some (x==y3)
def stringslite_TrimPrefix(x:Str×Str):Option Str:=
 za (stringslite_HasPrefix (x.1,x.2)) fun y1=>
 bif y1 then
  need (decide (0<=(x.2.length:Int))&&decide ((x.2.length:Int)<=(x.1.length:Int)))<|
  some (List.drop x.2.length x.1)
 else
  some x.1
def strings_TrimPrefix(x:Str×Str):Option Str:=
 za (stringslite_TrimPrefix (x.1,x.2)) fun y1=>
 some y1
def Bi(x:Int):Option Bool:=
 some (bif decide (48<=x)then decide (x<=57)else false)
def wm(x:Str):Option Bool:=
 za (strings_TrimPrefix (x,[45])) fun y1=>
 za (zH (!(y1==[])) (geti y1 0) 0) fun y2=>
 za (zH (!(y1==[])) (Bi (y2.toNat:Int)) (default:Bool)) fun y3=>
 some (bif !(y1==[])then y3 else false)
def Su(x:Int):Option Bool:=
 some (bif bif decide (97<=ibOr IntKind.u8 x 32)then decide (ibOr IntKind.u8 x 32<=122)else false then decide (x<128)else false)
def Mm(x:Int):Option Bool:=
 za (Su x) fun y1=>
 za (zH (!y1) (Bi x) (default:Bool)) fun y2=>
 some (bif bif bif bif y1 then true else y2 then true else x==95 then true else x==45 then true else decide (x>=128))
def strings_Contains(x:Str×Str):Option Bool:=
 za (Ti (x.1,x.2)) fun y1=>
 some (decide (y1>=0))
def Mr(x:zt):Option Bool:=
 need (Yc x.text.length x.unit.length)<|
 za (strings_IndexByte (x.text++x.unit,0)) fun y1=>
 zU (X:=Bool×Bool×Bool×Bool×Bool) (
   zU (X:=Bool×Bool×Bool×Bool×Bool×Bool) (
     bif x.kind==1 then
      some (LX.out (false,false,false,false,decide (y1<0),x.kind==1))
     else
      bif x.kind==2 then
       some (LX.out (false,false,false,false,decide (y1<0),x.kind==2))
      else
       some (LX.out (false,false,false,false,decide (y1<0),x.kind==3))) fun j2=>
   bif j2.2.2.2.2.2 then
    some (LX.out (true,j2.2.1,j2.2.2.1,j2.2.2.2.1,bif j2.2.2.2.2.1 then !(x.text==[])else false))
   else
    bif x.kind==4 then
     za (zH (!x.flag&&(bif j2.2.2.2.2.1 then !(x.text==[])else false)) (wm x.text) (default:Bool)) fun y3=>
     za (zH (y3&&(!x.flag&&(bif j2.2.2.2.2.1 then !(x.text==[])else false))) (strings_HasPrefix (x.text,[45,45])) (default:Bool)) fun y4=>
     some (LX.out (true,j2.2.1,j2.2.2.1,true,bif bif j2.2.2.2.2.1 then !(x.text==[])else false then bif bif x.flag then true else bif y3 then !y4 else false then true else x.text==[45]else false))
    else
     zU (X:=Bool×Bool×Bool×Bool×Bool×Bool) (
       bif x.kind==5 then
        some (LX.out (j2.1,j2.2.1,j2.2.2.1,j2.2.2.2.1,j2.2.2.2.2.1,x.kind==5))
       else
        some (LX.out (j2.1,j2.2.1,j2.2.2.1,j2.2.2.2.1,j2.2.2.2.2.1,x.kind==7))) fun j5=>
     bif j5.2.2.2.2.2 then
      some (LX.out (true,j5.2.1,j5.2.2.1,j5.2.2.2.1,j5.2.2.2.2.1))
     else
      bif x.kind==9 then
       za (zH (bif j5.2.2.2.2.1 then(x.text.length:Int)==1 else false) (geti x.text 0) 0) fun y6=>
       za (zH (bif j5.2.2.2.2.1 then(x.text.length:Int)==1 else false) (Mm (y6.toNat:Int)) (default:Bool)) fun y7=>
       za (zH (bif bif bif j5.2.2.2.2.1 then(x.text.length:Int)==1 else false then !y7 else false then true else x.text==[45]) (strings_Contains ([32,9,10,12,13,34,39,58,59,44,91,93,40,41,123,125],x.text)) (default:Bool)) fun y8=>
       some (LX.out (true,j5.2.1,j5.2.2.1,j5.2.2.2.1,bif bif bif bif j5.2.2.2.2.1 then(x.text.length:Int)==1 else false then !y7 else false then true else x.text==[45]then !y8 else false))
      else
       zU (X:=Bool×Bool×Bool×Bool×Bool) (
         bif x.kind==10 then
          some (LX.out (j5.2.1,j5.2.2.1,j5.2.2.2.1,j5.2.2.2.2.1,x.kind==10))
         else
          bif x.kind==11 then
           some (LX.out (j5.2.1,j5.2.2.1,j5.2.2.2.1,j5.2.2.2.2.1,x.kind==11))
          else
           some (LX.out (j5.2.1,j5.2.2.1,j5.2.2.2.1,j5.2.2.2.2.1,x.kind==12))) fun j9=>
       bif j9.2.2.2.2 then
        some (LX.out (j5.1,x.kind==12,true,x.kind != 11,bif bif bif bif j9.2.2.2.1 then decide (x.num>=(-1000000000000))else false then decide (x.num<=1000000000000)else false then bif !x.flag then true else Int.tmod x.num 1000==0 else false then bif !(x.kind==12)then true else !(x.unit==[])else false))
       else
        some (LX.out (j5.1,j9.1,j9.2.1,j9.2.2.1,bif decide (x.kind>=13)then decide (x.kind<=24)else false))) fun j10=>
 some (bif bif bif bif j10.2.2.2.2 then bif j10.1 then true else x.text==[]else false then bif j10.2.1 then true else x.unit==[]else false then bif j10.2.2.1 then true else x.num==0 else false then bif j10.2.2.2.1 then true else !x.flag else false)
def um(x:(Int×Int)×List zt):Option Bool:=
 za (zH (decide (x.1.1<(x.2.length:Int))) (geti x.2 x.1.1) (default:zt)) fun y1=>
 some (bif decide (x.1.1<(x.2.length:Int))then y1.kind==x.1.2 else false)
def qO(fu:Nat)(x:Str×Str):Option Bool:=
 za (ZH fu x.1) fun y1=>
 za (ZH fu x.2) fun y2=>
 some (y1==y2)
def Gt(fu:Nat)(x:List zt):Option Int:=
 za (geti x 0) fun y1=>
 bif bif y1.kind==9 then y1.text==[92]else false then
  za (um ((1,13),x)) fun y2=>
  bif !y2 then
   some 0
  else
   some 2
 else
  za (zH (y1.kind==2) (qO fu (y1.text,[117,114,108])) (default:Bool)) fun y3=>
  bif bif y1.kind==2 then y3 else false then
   zU (X:=Int) (
     za (um ((1,13),x)) fun y4=>
     bif y4 then
      some (LX.out 2)
     else
      some (LX.out 1)) fun j5=>
   za (um ((j5,5),x)) fun y6=>
   bif !y6 then
    some 0
   else
    some (w64 (j5+1))
  else
   some 1
def Jt(fu:Nat)(x:List zt):Option Int:=
 bif decide ((x.length:Int)>1500)then
  some 4
 else
  zR fu (fun(s1:Int)=>
    bif decide (s1<(x.length:Int))then
     za (geti x s1) fun y2=>
     za (Mr y2) fun y3=>
     need (decide (0<=s1)&&decide (s1<=(x.length:Int))|| !(!(!y3)))<|
     za (zH (!(!y3)) (Gt fu (List.drop s1.toNat x)) (default:Int)) fun y4=>
     bif bif !y3 then true else y4==0 then
      some (LO.ret 8)
     else
      some (LO.again (w64 (s1+1)))
    else
     some (LO.out ()):Int->Option (LO (Int) (Unit) _)) 0 fun o5=>
  some 0
def Me(x:ze×Int):Option Bool:=
 some (x.1.token.kind==x.2)
def JD(fu:Nat)(zV:List ze->Option Bool)(x:ze):Option Bool:=
 za (Me ((⟨x.token,x.list⟩:ze),20)) fun y1=>
 za (zH (!y1) (Me ((⟨x.token,x.list⟩:ze),22)) (default:Bool)) fun y2=>
 za (zH (!(bif y1 then true else y2)) (Me ((⟨x.token,x.list⟩:ze),24)) (default:Bool)) fun y3=>
 za (zH (!(bif bif y1 then true else y2 then true else y3)) (zV x.list) (default:Bool)) fun y4=>
 some (bif bif bif y1 then true else y2 then true else y3 then true else y4)
def IG(fu:Nat)(zV:List ze->Option Bool)(x:List ze):Option Int:=
 zR fu (fun(s1:Int)=>
   bif decide (s1<(x.length:Int))then
    za (geti x s1) fun y2=>
    za (JD fu zV (⟨y2.token,y2.list⟩:ze)) fun y3=>
    bif y3 then
     some (LO.ret s1)
    else
     some (LO.again (w64 (s1+1)))
   else
    some (LO.out ()):Int->Option (LO (Int) (Unit) _)) 0 fun o4=>
 some (-1)
def QW(fu:Nat)(zV:List ze->Option Bool)(x:List ze):Option Bool:=
 za (IG fu zV x) fun y1=>
 some (decide (y1>=0))
def Xv(fu:Nat)(zV:List ze->Option Bool)(x:List ze):Option Bool:=
 za (QW fu zV x) fun y1=>
 some y1
def zV(fu:Nat):List ze->Option Bool:=QL (Xv fu) fu
def Ur(x:ze):Option Bool:=
 za (Me ((⟨x.token,x.list⟩:ze),9)) fun y1=>
 some (bif y1 then x.token.text==[33]else false)
def IC(x:ze):Option Bool:=
 za (Me ((⟨x.token,x.list⟩:ze),17)) fun y1=>
 za (zH (!y1) (Ur (⟨x.token,x.list⟩:ze)) (default:Bool)) fun y2=>
 some (bif y1 then true else y2)
def pF(fu:Nat)(x:List ze):Option Int:=
 zR fu (fun(s1:Int)=>
   bif decide (s1<(x.length:Int))then
    za (geti x s1) fun y2=>
    za (IC (⟨y2.token,y2.list⟩:ze)) fun y3=>
    bif y3 then
     some (LO.ret s1)
    else
     some (LO.again (w64 (s1+1)))
   else
    some (LO.out ()):Int->Option (LO (Int) (Unit) _)) 0 fun o4=>
 some (-1)
def Qv(fu:Nat)(x:List ze):Option Bool:=
 za (pF fu x) fun y1=>
 some (decide (y1>=0))
def Pj(fu:Nat)(x:zQ):Option Int:=
 za (Js fu x.value) fun y1=>
 za (BB fu x.name) fun y2=>
 za (zH (!(bif !y2 then true else y1.2 != 0)) (Jt fu y1.1) (default:Int)) fun y3=>
 za (zH (!(bif bif !y2 then true else y1.2 != 0 then true else y3 != 0)) (zV fu x.value) (default:Bool)) fun y4=>
 bif bif bif bif !y2 then true else y1.2 != 0 then true else y3 != 0 then true else y4 then
  some 8
 else
  za (Qv fu x.value) fun y5=>
  bif y5 then
   some 8
  else
   za (zH ((x.value.length:Int)==0) (strings_HasPrefix (x.name,[45,45])) (default:Bool)) fun y6=>
   za (zH (decide ((x.value.length:Int)>0)&& !(bif (x.value.length:Int)==0 then !y6 else false)) (geti x.value 0) (default:ze)) fun y7=>
   za (zH (decide ((x.value.length:Int)>0)&& !(bif (x.value.length:Int)==0 then !y6 else false)) (Me ((⟨y7.token,y7.list⟩:ze),13)) (default:Bool)) fun y8=>
   za (zH (!y8&&(decide ((x.value.length:Int)>0)&& !(bif (x.value.length:Int)==0 then !y6 else false))) (geti x.value (w64 ((x.value.length:Int) - 1))) (default:ze)) fun y9=>
   za (zH (!y8&&(decide ((x.value.length:Int)>0)&& !(bif (x.value.length:Int)==0 then !y6 else false))) (Me ((⟨y9.token,y9.list⟩:ze),13)) (default:Bool)) fun y10=>
   bif bif bif (x.value.length:Int)==0 then !y6 else false then true else bif decide ((x.value.length:Int)>0)then bif y8 then true else y10 else false then
    some 8
   else
    some 0
def Bv(fu:Nat)(Qr:zm->Option Int)(x:zm):Option Int:=
 zU (X:=Int) (
   bif bif x.kind==5 then true else x.kind==6 then
    some (LX.out 1)
   else
    some (LX.out 0)) fun j1=>
 zR fu (fun(s2:Int×Int)=>
   bif decide (s2.2<(x.list.length:Int))then
    za (geti x.list s2.2) fun y3=>
    za (Qr (⟨y3.kind,y3.name,y3.num,y3.decl,y3.list⟩:zm)) fun y4=>
    some (LO.again (if y4>s2.1 then y4 else s2.1,w64 (s2.2+1)))
   else
    some (LO.out s2.1):Int×Int->Option (LO (Int×Int) (Int) _)) (j1,0) fun o5=>
 some o5
def Qr(fu:Nat):zm->Option Int:=QL (Bv fu) fu
def jg(x:zm):Option Bool:=
 some (bif bif bif bif x.name==[]then x.num==0 else false then x.decl.name==[]else false then(x.decl.value.length:Int)==0 else false then !x.decl.important else false)
def slices_Index_string(fu:Nat)(x:List Str×Str):Option Int:=
 zR fu (fun(s1:Int)=>
   bif decide (s1<(x.1.length:Int))then
    za (geti x.1 s1) fun y2=>
    bif x.2==y2 then
     some (LO.ret s1)
    else
     some (LO.again (w64 (s1+1)))
   else
    some (LO.out ()):Int->Option (LO (Int) (Unit) _)) 0 fun o3=>
 some (-1)
def slices_Contains_string(fu:Nat)(x:List Str×Str):Option Bool:=
 za (slices_Index_string fu (x.1,x.2)) fun y1=>
 some (decide (y1>=0))
def Au(fu:Nat)(x:Str):Option Bool:=
 za (slices_Contains_string fu ([[],[97,110,100],[111,114],[110,111,116],[111,110,108,121]],x)) fun y1=>
 za (zH (bif !y1 then decide ((x.length:Int)<=64)else false) (ZH fu x) (default:Str)) fun y2=>
 za (zH (bif bif !y1 then decide ((x.length:Int)<=64)else false then y2==x else false) (strings_IndexByte (x,0)) (default:Int)) fun y3=>
 some (bif bif bif !y1 then decide ((x.length:Int)<=64)else false then y2==x else false then decide (y3<0)else false)
def Tu(fu:Nat)(x:List Int):Option Int:=
 zR fu (fun(s1:Int)=>
   bif decide (s1<(x.length:Int))then
    za (geti x s1) fun y2=>
    bif bif decide (y2<(-1000000000000))then true else decide (y2>1000000000000)then
     some (LO.ret 8)
    else
     some (LO.again (w64 (s1+1)))
   else
    some (LO.out ()):Int->Option (LO (Int) (Unit) _)) 0 fun o3=>
 some 0
def Uu(fu:Nat)(x:Int):Option Int:=
 za (Tu fu [x]) fun y1=>
 some y1
def Ot(fu:Nat)(x:zm):Option Bool:=
 za (zH (!(x.kind != 1)) (jg (⟨x.kind,x.name,x.num,x.decl,x.list⟩:zm)) (default:Bool)) fun y1=>
 bif bif bif x.kind != 1 then true else !y1 then true else(x.list.length:Int)==0 then
  some false
 else
  zR fu (fun(s2:Int)=>
    bif decide (s2<(x.list.length:Int))then
     zU (X:=Int) (
       za (geti x.list s2) fun y3=>
       za (zH (!(decide ((y3.list.length:Int)>0))) (jg (⟨y3.kind,[],0,y3.decl,y3.list⟩:zm)) (default:Bool)) fun y4=>
       bif bif decide ((y3.list.length:Int)>0)then true else !y4 then
        some (LX.ret (LO.ret false))
       else
        bif y3.kind==4 then
         za (zH (!(bif decide (s2>0)then true else y3.num != 0)) (Au fu y3.name) (default:Bool)) fun y5=>
         bif bif bif decide (s2>0)then true else y3.num != 0 then true else !y5 then
          some (LX.ret (LO.ret false))
         else
          some (LX.out s2)
        else
         zU (X:=Bool) (
           bif y3.kind==5 then
            some (LX.out (y3.kind==5))
           else
            some (LX.out (y3.kind==6))) fun j6=>
         bif j6 then
          za (zH (!(bif !(y3.name==[])then true else decide (y3.num<0))) (Uu fu y3.num) (default:Int)) fun y7=>
          bif bif bif !(y3.name==[])then true else decide (y3.num<0)then true else y7 != 0 then
           some (LX.ret (LO.ret false))
          else
           some (LX.out s2)
         else
          some (LX.ret (LO.ret false))) fun j8=>
     some (LO.again (w64 (j8+1)))
    else
     some (LO.out ()):Int->Option (LO (Int) (Unit) _)) 0 fun o9=>
  some true
def CB(x:zm):Option Bool:=
 za (zH (decide ((x.list.length:Int)>0)) (geti x.list 0) (default:zm)) fun y1=>
 some (bif decide ((x.list.length:Int)>0)then y1.kind==4 else false)
def KA(fu:Nat)(x:zm):Option Bool:=
 bif x.kind==3 then
  za (jg (⟨x.kind,x.name,x.num,x.decl,x.list⟩:zm)) fun y1=>
  za (zH (bif y1 then(x.list.length:Int)==1 else false) (geti x.list 0) (default:zm)) fun y2=>
  za (zH (bif y1 then(x.list.length:Int)==1 else false) (Ot fu (⟨y2.kind,y2.name,y2.num,y2.decl,y2.list⟩:zm)) (default:Bool)) fun y3=>
  za (zH (bif bif y1 then(x.list.length:Int)==1 else false then y3 else false) (geti x.list 0) (default:zm)) fun y4=>
  za (zH (bif bif y1 then(x.list.length:Int)==1 else false then y3 else false) (CB (⟨y4.kind,y4.name,y4.num,y4.decl,y4.list⟩:zm)) (default:Bool)) fun y5=>
  some (bif bif bif y1 then(x.list.length:Int)==1 else false then y3 else false then y5 else false)
 else
  za (Ot fu (⟨x.kind,x.name,x.num,x.decl,x.list⟩:zm)) fun y6=>
  some y6
def pE(fu:Nat)(x:zm):Option Bool:=
 za (KA fu (⟨x.kind,x.name,x.num,x.decl,x.list⟩:zm)) fun y1=>
 some (!y1)
def UF(fu:Nat)(x:List zm):Option Int:=
 zR fu (fun(s1:Int)=>
   bif decide (s1<(x.length:Int))then
    za (geti x s1) fun y2=>
    za (pE fu (⟨y2.kind,y2.name,y2.num,y2.decl,y2.list⟩:zm)) fun y3=>
    bif y3 then
     some (LO.ret s1)
    else
     some (LO.again (w64 (s1+1)))
   else
    some (LO.out ()):Int->Option (LO (Int) (Unit) _)) 0 fun o4=>
 some (-1)
def sF(fu:Nat)(x:List zm):Option Bool:=
 za (UF fu x) fun y1=>
 some (decide (y1>=0))
def Wn(fu:Nat)(x:zm):Option Int:=
 za (zH (bif bif x.kind==2 then decide ((x.list.length:Int)>0)else false then decide ((x.list.length:Int)<=64)else false) (sF fu x.list) (default:Bool)) fun y1=>
 za (jg (⟨x.kind,x.name,x.num,x.decl,x.list⟩:zm)) fun y2=>
 bif bif !y2 then true else bif !(bif x.kind==1 then(x.list.length:Int)==0 else false)then !(bif bif bif x.kind==2 then decide ((x.list.length:Int)>0)else false then decide ((x.list.length:Int)<=64)else false then !y1 else false)else false then
  some 8
 else
  some 0
def tu(fu:Nat)(Eg:zm->Option Int)(x:zm):Option Int:=
 bif x.kind==7 then
  za (Lm fu x.decl.value) fun y1=>
  some (w64 (y1.1+1))
 else
  bif x.kind==8 then
   some 1
  else
   zR fu (fun(s2:Int×Int)=>
     bif decide (s2.2<(x.list.length:Int))then
      za (geti x.list s2.2) fun y3=>
      za (Eg (⟨y3.kind,y3.name,y3.num,y3.decl,y3.list⟩:zm)) fun y4=>
      zU (X:=Int×Int) (
        bif bif y3.kind != 7 then y3.kind != 8 else false then
         some (LX.out (s2.1,w64 (y4+1)))
        else
         some (LX.out (s2.1,y4))) fun j5=>
      some (LO.again (if j5.2>j5.1 then j5.2 else j5.1,w64 (s2.2+1)))
     else
      some (LO.out s2.1):Int×Int->Option (LO (Int×Int) (Int) _)) (0,0) fun o6=>
   some o6
def Eg(fu:Nat):zm->Option Int:=QL (tu fu) fu
def Es(x:zm):Option Bool:=
 some (bif x.kind==7 then true else x.kind==8)
def Bu(fu:Nat)(Dg:zm×Int->Option ((Int×Bool)×Int))(x:zm×Int):Option ((Int×Bool)×Int):=
 bif decide (w64 (x.2+1)>1500)then
  some ((0,false),w64 (x.2+1))
 else
  bif x.1.kind==7 then
   za (Lm fu x.1.decl.value) fun y1=>
   za (zH (bif bif bif (x.1.list.length:Int)==0 then x.1.name==[]else false then x.1.num==0 else false then y1.2==0 else false) (Pj fu x.1.decl) (default:Int)) fun y2=>
   some ((w64 (y1.1+1),bif bif bif bif (x.1.list.length:Int)==0 then x.1.name==[]else false then x.1.num==0 else false then y1.2==0 else false then y2==0 else false),w64 (x.2+1))
  else
   bif x.1.kind==8 then
    za (zH ((x.1.list.length:Int)==0) (jg (⟨x.1.kind,x.1.name,x.1.num,x.1.decl,x.1.list⟩:zm)) (default:Bool)) fun y3=>
    some ((1,bif (x.1.list.length:Int)==0 then y3 else false),w64 (x.2+1))
   else
    zU (X:=Bool) (
      bif x.1.kind==3 then
       some (LX.out (x.1.kind==3))
      else
       bif x.1.kind==1 then
        some (LX.out (x.1.kind==1))
       else
        some (LX.out (x.1.kind==2))) fun j4=>
    bif j4 then
     za (jg (⟨x.1.kind,x.1.name,x.1.num,x.1.decl,x.1.list⟩:zm)) fun y5=>
     bif bif bif !y5 then true else bif x.1.kind==3 then(x.1.list.length:Int) != 1 else false then true else bif x.1.kind != 3 then decide ((x.1.list.length:Int)<2)else false then
      some ((0,false),w64 (x.2+1))
     else
      zR fu (fun(s6:(Int×Int)×Int)=>
        bif decide (s6.1.2<(x.1.list.length:Int))then
         za (geti x.1.list s6.1.2) fun y7=>
         za (Dg ((⟨y7.kind,y7.name,y7.num,y7.decl,y7.list⟩:zm),s6.2)) fun y8=>
         bif !y8.1.2 then
          some (LO.ret ((0,false),y8.2))
         else
          zU (X:=Int×Int) (
            za (Es (⟨y7.kind,y7.name,y7.num,y7.decl,y7.list⟩:zm)) fun y9=>
            bif !y9 then
             some (LX.out (s6.1.1,w64 (y8.1.1+1)))
            else
             some (LX.out (s6.1.1,y8.1.1))) fun j10=>
          some (LO.again ((if j10.2>j10.1 then j10.2 else j10.1,w64 (s6.1.2+1)),y8.2))
        else
         some (LO.out (s6.1.1,s6.2)):(Int×Int)×Int->Option (LO ((Int×Int)×Int) (Int×Int) _)) ((0,0),w64 (x.2+1)) fun o11=>
      some ((o11.1,true),o11.2)
    else
     some ((0,false),w64 (x.2+1))
def Dg(fu:Nat):zm×Int->Option ((Int×Bool)×Int):=QL (Bu fu) fu
def Qe(fu:Nat)(x:zm):Option Int:=
 za (Dg fu ((⟨x.kind,x.name,x.num,x.decl,x.list⟩:zm),0)) fun y1=>
 bif bif !y1.1.2 then true else decide (y1.1.1>16)then
  some 8
 else
  some 0
def wu(fu:Nat)(Fg:List zA->Option zK)(x:List zA):Option zK:=
 zR fu (fun(s1:Int×zK)=>
   bif decide (s1.1<(x.length:Int))then
    za (geti x s1.1) fun y2=>
    za (Fg y2.rules) fun y3=>
    za (QJ fu y2.names) fun y4=>
    zU (X:=(Int×Bool)×zK×zK) (
      bif y2.kind==1 then
       za (Z5 fu y2.selectors) fun y5=>
       za (zH (!(bif y3.bad then true else y4)) (Fv fu y2.selectors) (default:Int)) fun y6=>
       za (zH (!(bif bif bif y3.bad then true else y4 then true else y6 != 0 then true else decide ((y2.decls.length:Int)>32))) (Um (⟨y2.cond.kind,y2.cond.name,y2.cond.num,y2.cond.decl,y2.cond.list⟩:zm)) (default:Bool)) fun y7=>
       zR fu (fun(s8:(Bool×Int)×zK)=>
         bif decide (s8.1.2<(y2.decls.length:Int))then
          za (geti y2.decls s8.1.2) fun y9=>
          za (Lm fu y9.value) fun y10=>
          za (zH (!(bif s8.1.1 then true else y10.2 != 0)) (Pj fu y9) (default:Int)) fun y11=>
          some (LO.again ((bif bif s8.1.1 then true else y10.2 != 0 then true else y11 != 0,w64 (s8.1.2+1)),(⟨s8.2.rules,if y10.1>s8.2.depth then y10.1 else s8.2.depth,s8.2.bad⟩:zK)))
         else
          some (LO.out (s8.1.1,s8.2)):(Bool×Int)×zK->Option (LO ((Bool×Int)×zK) (Bool×zK) _)) ((bif bif bif bif bif y3.bad then true else y4 then true else y6 != 0 then true else decide ((y2.decls.length:Int)>32)then true else !y7 then true else decide (w64 ((y2.names.length:Int)+(y2.rules.length:Int))>0),0),y3) fun o12=>
       some (LX.out ((y5,o12.1),(⟨w64 (s1.2.rules+w64 (y3.rules+1)),s1.2.depth,s1.2.bad⟩:zK),o12.2))
      else
       bif y2.kind==2 then
        za (Qr fu (⟨y2.cond.kind,y2.cond.name,y2.cond.num,y2.cond.decl,y2.cond.list⟩:zm)) fun y13=>
        za (zH (!(bif bif bif y3.bad then true else y4 then true else decide (w64 ((y2.selectors.length:Int)+(y2.decls.length:Int))>0)then true else decide ((y2.names.length:Int)>0))) (Wn fu (⟨y2.cond.kind,y2.cond.name,y2.cond.num,y2.cond.decl,y2.cond.list⟩:zm)) (default:Int)) fun y14=>
        some (LX.out ((y13,bif bif bif bif y3.bad then true else y4 then true else decide (w64 ((y2.selectors.length:Int)+(y2.decls.length:Int))>0)then true else decide ((y2.names.length:Int)>0)then true else y14 != 0),(⟨w64 (s1.2.rules+w64 (y3.rules+1)),s1.2.depth,s1.2.bad⟩:zK),y3))
       else
        bif y2.kind==3 then
         za (Eg fu (⟨y2.cond.kind,y2.cond.name,y2.cond.num,y2.cond.decl,y2.cond.list⟩:zm)) fun y15=>
         za (zH (!(bif bif bif y3.bad then true else y4 then true else decide (w64 ((y2.selectors.length:Int)+(y2.decls.length:Int))>0)then true else decide ((y2.names.length:Int)>0))) (Qe fu (⟨y2.cond.kind,y2.cond.name,y2.cond.num,y2.cond.decl,y2.cond.list⟩:zm)) (default:Int)) fun y16=>
         some (LX.out ((y15,bif bif bif bif y3.bad then true else y4 then true else decide (w64 ((y2.selectors.length:Int)+(y2.decls.length:Int))>0)then true else decide ((y2.names.length:Int)>0)then true else y16 != 0),(⟨w64 (s1.2.rules+w64 (y3.rules+1)),s1.2.depth,s1.2.bad⟩:zK),y3))
        else
         bif y2.kind==4 then
          za (zH (!(bif bif bif y3.bad then true else y4 then true else decide (w64 ((y2.selectors.length:Int)+(y2.decls.length:Int))>0)then true else decide ((y2.names.length:Int)>1))) (Um (⟨y2.cond.kind,y2.cond.name,y2.cond.num,y2.cond.decl,y2.cond.list⟩:zm)) (default:Bool)) fun y17=>
          some (LX.out ((0,bif bif bif bif y3.bad then true else y4 then true else decide (w64 ((y2.selectors.length:Int)+(y2.decls.length:Int))>0)then true else decide ((y2.names.length:Int)>1)then true else !y17),(⟨w64 (s1.2.rules+w64 (y3.rules+1)),s1.2.depth,s1.2.bad⟩:zK),y3))
         else
          bif y2.kind==5 then
           za (zH (!(bif bif bif bif bif y3.bad then true else y4 then true else decide (w64 ((y2.selectors.length:Int)+(y2.decls.length:Int))>0)then true else decide ((y2.names.length:Int)<1)then true else decide ((y2.names.length:Int)>64)then true else decide ((y2.rules.length:Int)>0))) (Um (⟨y2.cond.kind,y2.cond.name,y2.cond.num,y2.cond.decl,y2.cond.list⟩:zm)) (default:Bool)) fun y18=>
           some (LX.out ((0,bif bif bif bif bif bif y3.bad then true else y4 then true else decide (w64 ((y2.selectors.length:Int)+(y2.decls.length:Int))>0)then true else decide ((y2.names.length:Int)<1)then true else decide ((y2.names.length:Int)>64)then true else decide ((y2.rules.length:Int)>0)then true else !y18),(⟨w64 (s1.2.rules+w64 (y3.rules+1)),s1.2.depth,s1.2.bad⟩:zK),(⟨y3.rules,(-1),y3.bad⟩:zK)))
          else
           some (LX.out ((0,true),(⟨w64 (s1.2.rules+w64 (y3.rules+1)),s1.2.depth,s1.2.bad⟩:zK),y3))) fun j19=>
    some (LO.again (w64 (s1.1+1),(⟨j19.2.1.rules,if j19.1.1>(if w64 (j19.2.2.depth+1)>j19.2.1.depth then w64 (j19.2.2.depth+1)else j19.2.1.depth)then j19.1.1 else if w64 (j19.2.2.depth+1)>j19.2.1.depth then w64 (j19.2.2.depth+1)else j19.2.1.depth,bif j19.2.1.bad then true else j19.1.2⟩:zK)))
   else
    some (LO.out s1.2):Int×zK->Option (LO (Int×zK) (zK) _)) (0,(⟨0,0,false⟩:zK)) fun o20=>
 some o20
def Fg(fu:Nat):List zA->Option zK:=QL (wu fu) fu
def Hu(fu:Nat)(x:List zA):Option Int:=
 za (Fg fu x) fun y1=>
 bif bif bif y1.bad then true else decide (y1.rules>64)then true else decide (y1.depth>16)then
  some 8
 else
  some 0
def og(fu:Nat)(x:Zi):Option Int:=
 za (Hu fu x.rules) fun y1=>
 some y1
def Fu(fu:Nat)(x:zZ):Option Int:=
 bif bif bif decide ((x.sheets.length:Int)>8)then true else decide (x.next<0)then true else decide (x.next>1000)then
  some 8
 else
  zR fu (fun(s1:Int×Int)=>
    bif decide (s1.2<(x.sheets.length:Int))then
     za (geti x.sheets s1.2) fun y2=>
     za (zH (!(bif bif bif bif decide (y2.number<s1.1)then true else decide (y2.number>=x.next)then true else decide (y2.origin<1)then true else decide (y2.origin>3)then true else decide ((y2.site.length:Int)>64))) (og fu y2.sheet) (default:Int)) fun y3=>
     bif bif bif bif bif bif decide (y2.number<s1.1)then true else decide (y2.number>=x.next)then true else decide (y2.origin<1)then true else decide (y2.origin>3)then true else decide ((y2.site.length:Int)>64)then true else y3 != 0 then
      some (LO.ret 8)
     else
      some (LO.again (w64 (y2.number+1),w64 (s1.2+1)))
    else
     some (LO.out ()):Int×Int->Option (LO (Int×Int) (Unit) _)) (0,0) fun o4=>
  some 0
def Qc(fu:Nat)(x:zb):Option zb:=
 zR fu (fun(s1:zb)=>
   need (decide (0<=s1.at_)&&decide (s1.at_<=(s1.s.length:Int)))<|
   za (strings_HasPrefix (List.drop s1.at_.toNat s1.s,[47,42])) fun y2=>
   bif y2 then
    need (decide (0<=w64 (s1.at_+2))&&decide (w64 (s1.at_+2)<=(s1.s.length:Int)))<|
    za (Ti (List.drop (w64 (s1.at_+2)).toNat s1.s,[42,47])) fun y3=>
    bif decide (y3<0)then
     some (LO.ret (⟨s1.s,(s1.s.length:Int)⟩:zb))
    else
     some (LO.again (⟨s1.s,w64 (s1.at_+w64 (y3+4))⟩:zb))
   else
    some (LO.out s1):zb->Option (LO (zb) (zb) _)) x fun o4=>
 some o4
def zu(x:Int×zb):Option Int:=
 bif decide (w64 (x.2.at_+x.1)<(x.2.s.length:Int))then
  za (geti x.2.s (w64 (x.2.at_+x.1))) fun y1=>
  some (w64 (y1.toNat:Int))
 else
  some (-1)
def Ci(x:Int):Option Bool:=
 some (bif bif x==32 then true else x==9 then true else x==10)
def qg(fu:Nat)(x:zb):Option zb:=
 zR fu (fun(s1:zb)=>
   za (zu (0,s1)) fun y2=>
   za (Ci y2) fun y3=>
   bif y3 then
    some (LO.again (⟨s1.s,w64 (s1.at_+1)⟩:zb))
   else
    some (LO.out s1):zb->Option (LO (zb) (zb) _)) x fun o4=>
 some o4
def Q3(x:Int):Option (List UInt8):=
 bif decide (wu32 x<=2047)then
  za (qK (ibOr IntKind.u8 192 (wu8 (Pe IntKind.i32 x 6)))) fun y1=>
  za (qK (ibOr IntKind.u8 128 (Re IntKind.u8 (wu8 x) 63))) fun y2=>
  need (zI 0 2 1)<|
  some [y1,y2]
 else
  zU (X:=Bool) (
    bif decide (wu32 x<55296)then
     some (LX.out (decide (wu32 x<55296)))
    else
     some (LX.out (bif decide (57343<wu32 x)then decide (wu32 x<=65535)else false))) fun j3=>
  bif j3 then
   za (qK (ibOr IntKind.u8 224 (wu8 (Pe IntKind.i32 x 12)))) fun y4=>
   za (qK (ibOr IntKind.u8 128 (Re IntKind.u8 (wu8 (Pe IntKind.i32 x 6)) 63))) fun y5=>
   za (qK (ibOr IntKind.u8 128 (Re IntKind.u8 (wu8 x) 63))) fun y6=>
   need (zI 0 3 1)<|
   some [y4,y5,y6]
  else
   bif bif decide (wu32 x>65535)then decide (wu32 x<=1114111)else false then
    za (qK (ibOr IntKind.u8 240 (wu8 (Pe IntKind.i32 x 18)))) fun y7=>
    za (qK (ibOr IntKind.u8 128 (Re IntKind.u8 (wu8 (Pe IntKind.i32 x 12)) 63))) fun y8=>
    za (qK (ibOr IntKind.u8 128 (Re IntKind.u8 (wu8 (Pe IntKind.i32 x 6)) 63))) fun y9=>
    za (qK (ibOr IntKind.u8 128 (Re IntKind.u8 (wu8 x) 63))) fun y10=>
    need (zI 0 4 1)<|
    some [y7,y8,y9,y10]
   else
    need (zI 0 3 1)<|
    some [(239:UInt8),(191:UInt8),(189:UInt8)]
def Dw(x:Int):Option (List UInt8):=
 bif decide (wu32 x<=127)then
  za (qK (wu8 x)) fun y1=>
  need (zI 0 1 1)<|
  some [y1]
 else
  za (Q3 x) fun y2=>
  some y2
def Wj(x:Int×Int×Int):Option Bool:=
 some (bif decide (x.2.1<=x.1)then decide (x.1<=x.2.2)else false)
def ng(x:Int):Option Bool:=
 za (Wj (x,48,57)) fun y1=>
 some y1
def Dj(x:Int):Option Int:=
 za (ng x) fun y1=>
 bif y1 then
  some (w64 (x - 48))
 else
  za (zH (x != (-1)) (Wj (ibOr IntKind.i64 x 32,97,102)) (default:Bool)) fun y2=>
  bif bif bif bif x != (-1)then y2 else false then decide (x>64)else false then decide (x<128)else false then
   some (w64 (w64 (ibOr IntKind.i64 x 32 - 97)+10))
  else
   some (-1)
def wF(fu:Nat)(x:zb):Option (zb×List UInt8):=
 za (zu (0,(⟨x.s,w64 (x.at_+1)⟩:zb))) fun y1=>
 bif y1==(-1)then
  za (Dw 65533) fun y2=>
  some ((⟨x.s,w64 (x.at_+1)⟩:zb),y2)
 else
  za (Dj y1) fun y3=>
  bif decide (y3<0)then
   za (qK (wu8 y1)) fun y4=>
   need (zI 0 1 1)<|
   some ((⟨x.s,w64 (w64 (x.at_+1)+1)⟩:zb),[y4])
  else
   zR fu (fun(s5:(Int×Int)×zb)=>
     bif decide (s5.1.2<6)then
      za (zu (0,s5.2)) fun y6=>
      za (Dj y6) fun y7=>
      bif decide (y7<0)then
       some (LO.out (s5.1.1,s5.2))
      else
       some (LO.again ((ibOr IntKind.i64 (Dx IntKind.i64 s5.1.1 4) y7,w64 (s5.1.2+1)),(⟨s5.2.s,w64 (s5.2.at_+1)⟩:zb)))
     else
      some (LO.out (s5.1.1,s5.2)):(Int×Int)×zb->Option (LO ((Int×Int)×zb) (Int×zb) _)) ((0,0),(⟨x.s,w64 (x.at_+1)⟩:zb)) fun o8=>
   zU (X:=Int×zb) (
     za (zu (0,o8.2)) fun y9=>
     za (Ci y9) fun y10=>
     bif y10 then
      some (LX.out (o8.1,(⟨o8.2.s,w64 (o8.2.at_+1)⟩:zb)))
     else
      some (LX.out (o8.1,o8.2))) fun j11=>
   zU (X:=Int) (
     bif j11.1==0 then
      some (LX.out 65533)
     else
      some (LX.out j11.1)) fun j12=>
   za (Dw (w32 j12)) fun y13=>
   some (j11.2,y13)
def Q4(x:Int×List UInt8):Option (List UInt8):=
 bif decide (wu32 x.1<=2047)then
  za (qK (ibOr IntKind.u8 192 (wu8 (Pe IntKind.i32 x.1 6)))) fun y1=>
  za (qK (ibOr IntKind.u8 128 (Re IntKind.u8 (wu8 x.1) 63))) fun y2=>
  need (zI x.2.length 2 1)<|
  some (x.2++[y1,y2])
 else
  zU (X:=Bool×List UInt8) (
    bif decide (wu32 x.1<55296)then
     some (LX.out (decide (wu32 x.1<55296),x.2))
    else
     some (LX.out (bif decide (57343<wu32 x.1)then decide (wu32 x.1<=65535)else false,x.2))) fun j3=>
  bif j3.1 then
   za (qK (ibOr IntKind.u8 224 (wu8 (Pe IntKind.i32 x.1 12)))) fun y4=>
   za (qK (ibOr IntKind.u8 128 (Re IntKind.u8 (wu8 (Pe IntKind.i32 x.1 6)) 63))) fun y5=>
   za (qK (ibOr IntKind.u8 128 (Re IntKind.u8 (wu8 x.1) 63))) fun y6=>
   need (zI j3.2.length 3 1)<|
   some (j3.2++[y4,y5,y6])
  else
   bif bif decide (wu32 x.1>65535)then decide (wu32 x.1<=1114111)else false then
    za (qK (ibOr IntKind.u8 240 (wu8 (Pe IntKind.i32 x.1 18)))) fun y7=>
    za (qK (ibOr IntKind.u8 128 (Re IntKind.u8 (wu8 (Pe IntKind.i32 x.1 12)) 63))) fun y8=>
    za (qK (ibOr IntKind.u8 128 (Re IntKind.u8 (wu8 (Pe IntKind.i32 x.1 6)) 63))) fun y9=>
    za (qK (ibOr IntKind.u8 128 (Re IntKind.u8 (wu8 x.1) 63))) fun y10=>
    need (zI j3.2.length 4 1)<|
    some (j3.2++[y7,y8,y9,y10])
   else
    need (zI j3.2.length 3 1)<|
    some (j3.2++[(239:UInt8),(191:UInt8),(189:UInt8)])
def Cw(x:Int×List UInt8):Option (List UInt8):=
 bif decide (wu32 x.1<=127)then
  za (qK (wu8 x.1)) fun y1=>
  need (zI x.2.length 1 1)<|
  some (x.2++[y1])
 else
  za (Q4 (x.1,x.2)) fun y2=>
  some y2
def Z4(fu:Nat)(x:zb×List UInt8):Option (zb×List UInt8):=
 za (zu (0,(⟨x.1.s,w64 (x.1.at_+1)⟩:zb))) fun y1=>
 bif y1==(-1)then
  za (Cw (65533,x.2)) fun y2=>
  some ((⟨x.1.s,w64 (x.1.at_+1)⟩:zb),y2)
 else
  za (Dj y1) fun y3=>
  bif decide (y3<0)then
   za (qK (wu8 y1)) fun y4=>
   need (zI x.2.length 1 1)<|
   some ((⟨x.1.s,w64 (w64 (x.1.at_+1)+1)⟩:zb),x.2++[y4])
  else
   zR fu (fun(s5:(Int×Int)×zb)=>
     bif decide (s5.1.2<6)then
      za (zu (0,s5.2)) fun y6=>
      za (Dj y6) fun y7=>
      bif decide (y7<0)then
       some (LO.out (s5.1.1,s5.2))
      else
       some (LO.again ((ibOr IntKind.i64 (Dx IntKind.i64 s5.1.1 4) y7,w64 (s5.1.2+1)),(⟨s5.2.s,w64 (s5.2.at_+1)⟩:zb)))
     else
      some (LO.out (s5.1.1,s5.2)):(Int×Int)×zb->Option (LO ((Int×Int)×zb) (Int×zb) _)) ((0,0),(⟨x.1.s,w64 (x.1.at_+1)⟩:zb)) fun o8=>
   zU (X:=Int×zb×List UInt8) (
     za (zu (0,o8.2)) fun y9=>
     za (Ci y9) fun y10=>
     bif y10 then
      some (LX.out (o8.1,(⟨o8.2.s,w64 (o8.2.at_+1)⟩:zb),x.2))
     else
      some (LX.out (o8.1,o8.2,x.2))) fun j11=>
   zU (X:=Int×List UInt8) (
     bif j11.1==0 then
      some (LX.out (65533,j11.2.2))
     else
      some (LX.out (j11.1,j11.2.2))) fun j12=>
   za (Cw (w32 j12.1,j12.2)) fun y13=>
   some (j11.2.1,y13)
def rE(fu:Nat)(x:zb):Option (zt×zb):=
 za (zu (0,x)) fun y1=>
 zR fu (fun(s2:zb×zt×List UInt8)=>
   za (zu (0,s2.1)) fun y3=>
   bif y3==(-1)then
    some (LO.out (s2.1,s2.2.1,s2.2.2))
   else
    bif y3==y1 then
     some (LO.out ((⟨s2.1.s,w64 (s2.1.at_+1)⟩:zb),s2.2.1,s2.2.2))
    else
     bif y3==10 then
      some (LO.ret ((⟨6,[],0,[],false⟩:zt),s2.1))
     else
      za (zH (y3==92) (zu (1,s2.1)) (default:Int)) fun y4=>
      za (zH (!(y4==(-1))&&y3==92) (zu (1,s2.1)) (default:Int)) fun y5=>
      bif bif y3==92 then bif y4==(-1)then true else y5==10 else false then
       some (LO.again ((⟨s2.1.s,if(s2.1.s.length:Int)<w64 (s2.1.at_+2)then(s2.1.s.length:Int)else w64 (s2.1.at_+2)⟩:zb),s2.2.1,s2.2.2))
      else
       bif y3==92 then
        za (Z4 fu (s2.1,s2.2.2)) fun y6=>
        some (LO.again (y6.1,s2.2.1,y6.2))
       else
        za (qK (wu8 y3)) fun y7=>
        need (zI s2.2.2.length 1 1)<|
        some (LO.again ((⟨s2.1.s,w64 (s2.1.at_+1)⟩:zb),s2.2.1,s2.2.2++[y7])):zb×zt×List UInt8->Option (LO (zb×zt×List UInt8) (zb×zt×List UInt8) _)) ((⟨x.s,w64 (x.at_+1)⟩:zb),(⟨0,[],0,[],false⟩:zt),[]) fun o8=>
 some ((⟨5,o8.2.2,0,[],false⟩:zt),o8.1)
def Tm(x:Int):Option Bool:=
 za (Wj (ibOr IntKind.i64 x 32,97,122)) fun y1=>
 some (bif bif bif bif y1 then decide (x<128)else false then decide (x>64)else false then true else x==95 then true else decide (x>=128))
def Wu(x:Int):Option Bool:=
 za (Tm x) fun y1=>
 za (zH (!y1) (ng x) (default:Bool)) fun y2=>
 some (bif bif y1 then true else y2 then true else x==45)
def Zw(x:Int×zb):Option Bool:=
 za (zu (x.1,x.2)) fun y1=>
 za (zH (y1==92) (zu (w64 (x.1+1),x.2)) (default:Int)) fun y2=>
 some (bif y1==92 then y2 != 10 else false)
def qB(x:Int×zb):Option Bool:=
 za (zu (x.1,x.2)) fun y1=>
 bif y1 != 45 then
  za (zu (x.1,x.2)) fun y2=>
  za (Tm y2) fun y3=>
  za (zH (!y3) (Zw (x.1,x.2)) (default:Bool)) fun y4=>
  some (bif y3 then true else y4)
 else
  za (zu (w64 (x.1+1),x.2)) fun y5=>
  za (Tm y5) fun y6=>
  za (zH (!y6) (zu (w64 (x.1+1),x.2)) (default:Int)) fun y7=>
  za (zH (!(bif y6 then true else y7==45)) (Zw (w64 (x.1+1),x.2)) (default:Bool)) fun y8=>
  some (bif bif y6 then true else y7==45 then true else y8)
def qD(fu:Nat)(x:zb):Option (Str×zb):=
 zR fu (fun(s1:zb×List UInt8)=>
   za (zu (0,s1.1)) fun y2=>
   za (Wu y2) fun y3=>
   bif y3 then
    za (qK (wu8 y2)) fun y4=>
    need (zI s1.2.length 1 1)<|
    some (LO.again ((⟨s1.1.s,w64 (s1.1.at_+1)⟩:zb),s1.2++[y4]))
   else
    za (zH (y2 != (-1)) (Zw (0,s1.1)) (default:Bool)) fun y5=>
    bif bif y2 != (-1)then y5 else false then
     za (Z4 fu (s1.1,s1.2)) fun y6=>
     some (LO.again (y6.1,y6.2))
    else
     some (LO.ret (s1.2,s1.1)):zb×List UInt8->Option (LO (zb×List UInt8) (Unit) _)) (x,[]) fun o7=>
 none
def uE(x:zb):Option Bool:=
 zU (X:=Int) (
   za (zu (0,x)) fun y1=>
   bif bif y1==43 then true else y1==45 then
    some (LX.out 1)
   else
    some (LX.out 0)) fun j2=>
 zU (X:=Int) (
   za (zu (j2,x)) fun y3=>
   bif y3==46 then
    some (LX.out (w64 (j2+1)))
   else
    some (LX.out j2)) fun j4=>
 za (zu (j4,x)) fun y5=>
 za (ng y5) fun y6=>
 some y6
def qC(fu:Nat)(x:zb):Option zb:=
 zR fu (fun(s1:zb)=>
   za (zu (0,s1)) fun y2=>
   za (ng y2) fun y3=>
   bif y3 then
    some (LO.again (⟨s1.s,w64 (s1.at_+1)⟩:zb))
   else
    some (LO.out s1):zb->Option (LO (zb) (zb) _)) x fun o4=>
 some o4
def RF(fu:Nat)(x:zb):Option (Bool×zb):=
 zU (X:=zb) (
   za (zu (0,x)) fun y1=>
   bif bif y1==43 then true else y1==45 then
    some (LX.out (⟨x.s,w64 (x.at_+1)⟩:zb))
   else
    some (LX.out x)) fun j2=>
 za (qC fu j2) fun y3=>
 zU (X:=Bool×zb) (
   za (zu (0,y3)) fun y4=>
   za (zH (y4==46) (zu (1,y3)) (default:Int)) fun y5=>
   za (zH (y4==46) (ng y5) (default:Bool)) fun y6=>
   bif bif y4==46 then y6 else false then
    za (qC fu (⟨y3.s,w64 (y3.at_+1)⟩:zb)) fun y7=>
    some (LX.out (false,y7))
   else
    some (LX.out (true,y3))) fun j8=>
 zU (X:=Bool×zb) (
   za (zu (0,j8.2)) fun y9=>
   za (zH (!(y9==101)) (zu (0,j8.2)) (default:Int)) fun y10=>
   bif bif y9==101 then true else y10==69 then
    zU (X:=(Bool×Int)×zb) (
      za (zu (1,j8.2)) fun y11=>
      bif bif y11==43 then true else y11==45 then
       some (LX.out ((j8.1,2),j8.2))
      else
       some (LX.out ((j8.1,1),j8.2))) fun j12=>
    za (zu (j12.1.2,j12.2)) fun y13=>
    za (ng y13) fun y14=>
    bif y14 then
     za (qC fu (⟨j12.2.s,w64 (j12.2.at_+j12.1.2)⟩:zb)) fun y15=>
     some (LX.out (false,y15))
    else
     some (LX.out (j12.1.1,j12.2))
   else
    some (LX.out (j8.1,j8.2))) fun j16=>
 some (j16.1,j16.2)
def SE(fu:Nat)(x:Str):Option Int:=
 za (geti x 0) fun y1=>
 za (Vk (x,[43,45])) fun y2=>
 zU (X:=Str×Int) (
   za (Lr (y2,[101,69])) fun y3=>
   bif decide (y3>=0)then
    need (decide (0<=w64 (y3+1))&&decide (w64 (y3+1)<=(y2.length:Int)))<|
    za (Vk (List.drop (w64 (y3+1)).toNat y2,[43,45])) fun y4=>
    need (decide (y4.length<=maxLen))<|
    zR fu (fun(s5:Int×Int)=>
      bif decide (s5.2<(y4.length:Int))then
       need (decide (0<=s5.2)&&decide (s5.2<(y4.length:Int)))<|
       za y4[s5.2.toNat]? fun y6=>
       some (LO.again (if 1048576<w64 (w64 (10*s5.1)+w64 (wu8 ((y6.toNat:Int) - 48)))then 1048576 else w64 (w64 (10*s5.1)+w64 (wu8 ((y6.toNat:Int) - 48))),w64 (s5.2+1)))
      else
       some (LO.out s5.1):Int×Int->Option (LO (Int×Int) (Int) _)) (0,0) fun o7=>
    zU (X:=Str×Int×Int) (
      za (geti y2 (w64 (y3+1))) fun y8=>
      bif (y8.toNat:Int)==45 then
       some (LX.out (y2,3,w64 (0 - o7)))
      else
       some (LX.out (y2,3,o7))) fun j9=>
    need (decide (0<=y3)&&decide (y3<=(j9.1.length:Int)))<|
    some (LX.out (List.take y3.toNat j9.1,w64 (j9.2.1+j9.2.2)))
   else
    some (LX.out (y2,3))) fun j10=>
 za (cutF (j10.1,[46])) fun y11=>
 need (Yc y11.1.length y11.2.1.length)<|
 zU (X:=Str×Int) (
   bif decide (w64 (j10.2 - (y11.2.1.length:Int))<0)then
    need (decide (0<=(if w64 (((y11.1++y11.2.1).length:Int)+w64 (j10.2 - (y11.2.1.length:Int)))>0 then w64 (((y11.1++y11.2.1).length:Int)+w64 (j10.2 - (y11.2.1.length:Int)))else 0))&&decide ((if w64 (((y11.1++y11.2.1).length:Int)+w64 (j10.2 - (y11.2.1.length:Int)))>0 then w64 (((y11.1++y11.2.1).length:Int)+w64 (j10.2 - (y11.2.1.length:Int)))else 0)<=((y11.1++y11.2.1).length:Int)))<|
    some (LX.out (List.take (if w64 (((y11.1++y11.2.1).length:Int)+w64 (j10.2 - (y11.2.1.length:Int)))>0 then w64 (((y11.1++y11.2.1).length:Int)+w64 (j10.2 - (y11.2.1.length:Int)))else 0).toNat (y11.1++y11.2.1),w64 (j10.2 - (y11.2.1.length:Int))))
   else
    some (LX.out (y11.1++y11.2.1,w64 (j10.2 - (y11.2.1.length:Int))))) fun j12=>
 need (decide (j12.1.length<=maxLen))<|
 zR fu (fun(s13:Int×Int)=>
   bif decide (s13.2<(j12.1.length:Int))then
    need (decide (0<=s13.2)&&decide (s13.2<(j12.1.length:Int)))<|
    za j12.1[s13.2.toNat]? fun y14=>
    some (LO.again (if 1000000000000<w64 (w64 (10*s13.1)+w64 (wu8 ((y14.toNat:Int) - 48)))then 1000000000000 else w64 (w64 (10*s13.1)+w64 (wu8 ((y14.toNat:Int) - 48))),w64 (s13.2+1)))
   else
    some (LO.out s13.1):Int×Int->Option (LO (Int×Int) (Int) _)) (0,0) fun o15=>
 zR fu (fun(s16:Int×Int)=>
   bif bif bif decide (s16.1>0)then decide (s16.2>0)else false then decide (s16.2<1000000000000)else false then
    some (LO.again (w64 (s16.1 - 1),if 1000000000000<w64 (10*s16.2)then 1000000000000 else w64 (10*s16.2)))
   else
    some (LO.out s16.2):Int×Int->Option (LO (Int×Int) (Int) _)) (j12.2,o15) fun o17=>
 zU (X:=Int) (
   bif (y1.toNat:Int)==45 then
    some (LX.out (w64 (0 - o17)))
   else
    some (LX.out o17)) fun j18=>
 some j18
def NF(fu:Nat)(x:zb):Option (zt×zb):=
 za (RF fu x) fun y1=>
 need (decide (0<=x.at_)&&(decide (x.at_<=y1.2.at_)&&decide (y1.2.at_<=(y1.2.s.length:Int))))<|
 za (SE fu (List.drop x.at_.toNat (List.take y1.2.at_.toNat y1.2.s))) fun y2=>
 zU (X:=zb×zt×zt) (
   za (qB (0,y1.2)) fun y3=>
   bif y3 then
    za (qD fu y1.2) fun y4=>
    some (LX.out (y4.2,(⟨0,[],0,[],false⟩:zt),(⟨12,[],y2,y4.1,y1.1⟩:zt)))
   else
    za (zu (0,y1.2)) fun y5=>
    bif y5==37 then
     some (LX.out ((⟨y1.2.s,w64 (y1.2.at_+1)⟩:zb),(⟨0,[],0,[],false⟩:zt),(⟨11,[],y2,[],false⟩:zt)))
    else
     some (LX.out (y1.2,(⟨0,[],0,[],false⟩:zt),(⟨10,[],y2,[],y1.1⟩:zt)))) fun j6=>
 some (j6.2.2,j6.1)
def QI(fu:Nat)(x:zb):Option (zt×zb):=
 zR fu (fun(s1:zb×zt)=>
   za (zu (0,s1.1)) fun y2=>
   bif y2==(-1)then
    some (LO.ret ((⟨8,[],0,[],false⟩:zt),s1.1))
   else
    za (Zw (0,s1.1)) fun y3=>
    bif y3 then
     za (wF fu s1.1) fun y4=>
     some (LO.again (y4.1,s1.2))
    else
     za (geti s1.1.s (w64 (w64 (s1.1.at_+1) - 1))) fun y5=>
     bif (y5.toNat:Int)==41 then
      some (LO.ret ((⟨8,[],0,[],false⟩:zt),(⟨s1.1.s,w64 (s1.1.at_+1)⟩:zb)))
     else
      some (LO.again ((⟨s1.1.s,w64 (s1.1.at_+1)⟩:zb),s1.2)):zb×zt->Option (LO (zb×zt) (Unit) _)) (x,(⟨0,[],0,[],false⟩:zt)) fun o6=>
 none
def TE(fu:Nat)(x:zb):Option (zt×zb):=
 za (qg fu x) fun y1=>
 zR fu (fun(s2:zb×zt×List UInt8)=>
   za (zu (0,s2.1)) fun y3=>
   zU (X:=Int×zb×zt×List UInt8) (
     za (Ci y3) fun y4=>
     bif y4 then
      za (qg fu s2.1) fun y5=>
      za (zu (0,y5)) fun y6=>
      bif bif y6 != 41 then y6 != (-1)else false then
       za (QI fu y5) fun y7=>
       some (LX.ret (LO.ret (y7.1,y7.2)))
      else
       some (LX.out (y6,y5,s2.2.1,s2.2.2))
     else
      some (LX.out (y3,s2.1,s2.2.1,s2.2.2))) fun j8=>
   bif j8.1==(-1)then
    some (LO.ret ((⟨7,j8.2.2.2,0,[],false⟩:zt),j8.2.1))
   else
    bif j8.1==41 then
     some (LO.ret ((⟨7,j8.2.2.2,0,[],false⟩:zt),(⟨j8.2.1.s,w64 (j8.2.1.at_+1)⟩:zb)))
    else
     za (zH (!(bif bif bif bif j8.1==34 then true else j8.1==39 then true else j8.1==40 then true else decide (j8.1<=8)then true else j8.1==11)) (Wj (j8.1,14,31)) (default:Bool)) fun y9=>
     bif bif bif bif bif bif bif j8.1==34 then true else j8.1==39 then true else j8.1==40 then true else decide (j8.1<=8)then true else j8.1==11 then true else y9 then true else j8.1==127 then
      za (QI fu j8.2.1) fun y10=>
      some (LO.ret (y10.1,y10.2))
     else
      bif j8.1 != 92 then
       za (qK (wu8 j8.1)) fun y11=>
       need (zI j8.2.2.2.length 1 1)<|
       some (LO.again ((⟨j8.2.1.s,w64 (j8.2.1.at_+1)⟩:zb),j8.2.2.1,j8.2.2.2++[y11]))
      else
       za (Zw (0,j8.2.1)) fun y12=>
       bif y12 then
        za (Z4 fu (j8.2.1,j8.2.2.2)) fun y13=>
        some (LO.again (y13.1,j8.2.2.1,y13.2))
       else
        za (QI fu j8.2.1) fun y14=>
        some (LO.ret (y14.1,y14.2)):zb×zt×List UInt8->Option (LO (zb×zt×List UInt8) (Unit) _)) (y1,(⟨0,[],0,[],false⟩:zt),[]) fun o15=>
 none
def YE(fu:Nat)(x:zb):Option (zt×zb):=
 za (qD fu x) fun y1=>
 za (zu (0,y1.2)) fun y2=>
 bif y2 != 40 then
  some ((⟨1,y1.1,0,[],false⟩:zt),y1.2)
 else
  zU (X:=zb×zt) (
    za (qO fu (y1.1,[117,114,108])) fun y3=>
    bif y3 then
     za (qg fu (⟨y1.2.s,w64 (y1.2.at_+1)⟩:zb)) fun y4=>
     za (zu (0,y4)) fun y5=>
     bif bif y5 != 34 then y5 != 39 else false then
      za (TE fu (⟨y1.2.s,w64 (y1.2.at_+1)⟩:zb)) fun y6=>
      some (LX.ret (y6.1,y6.2))
     else
      some (LX.out ((⟨y1.2.s,w64 (y1.2.at_+1)⟩:zb),(⟨0,[],0,[],false⟩:zt)))
    else
     some (LX.out ((⟨y1.2.s,w64 (y1.2.at_+1)⟩:zb),(⟨0,[],0,[],false⟩:zt)))) fun j7=>
  some ((⟨2,y1.1,0,[],false⟩:zt),j7.1)
def jE(fu:Nat)(x:zb):Option (zt×zb):=
 za (zu (0,x)) fun y1=>
 need (decide (0<=x.at_)&&decide (x.at_<=(x.s.length:Int)))<|
 za (Ci y1) fun y2=>
 bif y2 then
  za (qg fu x) fun y3=>
  some ((⟨13,[],0,[],false⟩:zt),y3)
 else
  bif bif y1==34 then true else y1==39 then
   za (rE fu x) fun y4=>
   some (y4.1,y4.2)
  else
   za (zH (y1==35) (zu (1,x)) (default:Int)) fun y5=>
   za (zH (y1==35) (Wu y5) (default:Bool)) fun y6=>
   za (zH (!y6&&y1==35) (Zw (1,x)) (default:Bool)) fun y7=>
   bif bif y1==35 then bif y6 then true else y7 else false then
    za (qB (1,x)) fun y8=>
    za (qD fu (⟨x.s,w64 (x.at_+1)⟩:zb)) fun y9=>
    some ((⟨4,y9.1,0,[],y8⟩:zt),y9.2)
   else
    za (uE x) fun y10=>
    bif y10 then
     za (NF fu x) fun y11=>
     some (y11.1,y11.2)
    else
     za (strings_HasPrefix (List.drop x.at_.toNat x.s,[45,45,62])) fun y12=>
     bif y12 then
      some ((⟨15,[],0,[],false⟩:zt),(⟨x.s,w64 (x.at_+3)⟩:zb))
     else
      za (strings_HasPrefix (List.drop x.at_.toNat x.s,[60,33,45,45])) fun y13=>
      bif y13 then
       some ((⟨14,[],0,[],false⟩:zt),(⟨x.s,w64 (x.at_+4)⟩:zb))
      else
       za (zH (y1==64) (qB (1,x)) (default:Bool)) fun y14=>
       bif bif y1==64 then y14 else false then
        za (qD fu (⟨x.s,w64 (x.at_+1)⟩:zb)) fun y15=>
        some ((⟨3,y15.1,0,[],false⟩:zt),y15.2)
       else
        za (qB (0,x)) fun y16=>
        bif y16 then
         za (YE fu x) fun y17=>
         some (y17.1,y17.2)
        else
         za (strings_IndexByte ([58,59,44,91,93,40,41,123,125],wu8 y1)) fun y18=>
         bif decide (y18>=0)then
          some ((⟨wu8 (16+wu8 y18),[],0,[],false⟩:zt),(⟨x.s,w64 (x.at_+1)⟩:zb))
         else
          need (decide (1<=((List.drop x.at_.toNat x.s).length:Int)))<|
          some ((⟨9,List.take 1 (List.drop x.at_.toNat x.s),0,[],false⟩:zt),(⟨x.s,w64 (x.at_+1)⟩:zb))
def xD(x:(zt×Int×Int)×List zt):Option (List zt):=
 need (zI x.2.length 1 56)<|
 some (x.2++[x.1.1])
def fB(fu:Nat)(x:Str):Option (Int×List zt):=
 za (jk x) fun y1=>
 bif y1.2 != 0 then
  some (y1.2,[])
 else
  za (Qc fu (⟨y1.1,0⟩:zb)) fun y2=>
  zR fu (fun(s3:Int×List zt×zb)=>
    bif decide (s3.2.2.at_<(y1.1.length:Int))then
     bif decide (w64 (s3.1+1)>1500)then
      some (LO.ret (4,s3.2.1))
     else
      za (jE fu s3.2.2) fun y4=>
      za (xD ((y4.1,s3.2.2.at_,y4.2.at_),s3.2.1)) fun y5=>
      za (Qc fu y4.2) fun y6=>
      some (LO.again (w64 (s3.1+1),y5,y6))
    else
     some (LO.out (s3.2.1,s3.2.2)):Int×List zt×zb->Option (LO (Int×List zt×zb) (List zt×zb) _)) (0,[],y2) fun o7=>
  some (0,o7.1)
def Ei(fu:Nat)(x:Str):Option (List zt×Int):=
 za (fB fu x) fun y1=>
 bif y1.1 != 0 then
  some ([],y1.1)
 else
  some (y1.2,0)
def Ut(x:List ze):Option Int:=
 bif (x.length:Int)==0 then
  some 0
 else
  za (geti x 0) fun y1=>
  some y1.token.kind
def mE(fu:Nat)(x:Int×List UInt8):Option Int:=
 zR fu (fun(s1:Int)=>
   bif decide (s1<(x.2.length:Int))then
    need (decide (0<=s1)&&decide (s1<(x.2.length:Int)))<|
    za x.2[s1.toNat]? fun y2=>
    bif x.1==(y2.toNat:Int)then
     some (LO.ret s1)
    else
     some (LO.again (w64 (s1+1)))
   else
    some (LO.out ()):Int->Option (LO (Int) (Unit) _)) 0 fun o3=>
 some (-1)
def VF(fu:Nat)(x:Int×List UInt8):Option Bool:=
 za (mE fu (x.1,x.2)) fun y1=>
 some (decide (y1>=0))
def lC(fu:Nat)(x:ze×List UInt8):Option Bool:=
 za (VF fu (x.1.token.kind,x.2)) fun y1=>
 some y1
def oF(fu:Nat)(x:List ze×List UInt8):Option Int:=
 zR fu (fun(s1:Int)=>
   bif decide (s1<(x.1.length:Int))then
    za (geti x.1 s1) fun y2=>
    za (lC fu ((⟨y2.token,y2.list⟩:ze),x.2)) fun y3=>
    bif y3 then
     some (LO.ret s1)
    else
     some (LO.again (w64 (s1+1)))
   else
    some (LO.out ()):Int->Option (LO (Int) (Unit) _)) 0 fun o4=>
 some (-1)
def XB(fu:Nat)(x:List ze×List UInt8):Option (List ze×List ze):=
 za (oF fu (x.1,x.2)) fun y1=>
 bif decide (y1<0)then
  some (x.1,[])
 else
  need (decide (0<=y1)&&decide (y1<=(x.1.length:Int)))<|
  need (decide (0<=y1)&&decide (y1<=(x.1.length:Int)))<|
  some (List.take y1.toNat x.1,List.drop y1.toNat x.1)
def Zb(x:Int×zk):Option zt:=
 bif decide (w64 (x.2.at_+x.1)<(x.2.v.length:Int))then
  za (geti x.2.v (w64 (x.2.at_+x.1))) fun y1=>
  some y1.token
 else
  some (⟨0,[],0,[],false⟩:zt)
def Ze(fu:Nat)(x:zk):Option (Bool×zk):=
 zR fu (fun(s1:zk)=>
   za (Zb (0,s1)) fun y2=>
   bif y2.kind==13 then
    some (LO.again (⟨s1.v,w64 (s1.at_+1)⟩:zk))
   else
    some (LO.out s1):zk->Option (LO (zk) (zk) _)) x fun o3=>
 some (decide (o3.at_>x.at_),o3)
def qd(x:Str×zk):Option (Bool×zk):=
 za (Zb (0,x.2)) fun y1=>
 bif bif y1.kind != 9 then true else !(y1.text==x.1)then
  some (false,x.2)
 else
  some (true,(⟨x.2.v,w64 (x.2.at_+1)⟩:zk))
def Tw(fu:Nat)(x:zk):Option (Int×zk):=
 zR fu (fun(s1:Int×zk)=>
   bif decide (s1.1<3)then
    need (decide (0<=s1.1)&&(decide (s1.1<=w64 (s1.1+1))&&decide (w64 (s1.1+1)<=3)))<|
    za (qd (List.drop s1.1.toNat (List.take (w64 (s1.1+1)).toNat ([62,43,126]:Str)),s1.2)) fun y2=>
    bif y2.1 then
     za (Ze fu y2.2) fun y3=>
     some (LO.ret (wu8 (2+wu8 s1.1),y3.2))
    else
     some (LO.again (w64 (s1.1+1),y2.2))
   else
    some (LO.out s1.2):Int×zk->Option (LO (Int×zk) (zk) _)) (0,x) fun o4=>
 some (0,o4)
def Sw(x:Int×zk):Option (List ze):=
 za (geti x.2.v (w64 (x.2.at_+x.1))) fun y1=>
 some y1.list
def qf(x:zk):Option Bool:=
 some (x.at_==(x.v.length:Int))
def MC(fu:Nat)(x:List ze):Option (zy×Bool):=
 za (Ze fu (⟨x,0⟩:zk)) fun y1=>
 za (Zb (0,y1.2)) fun y2=>
 za (ZH fu y2.text) fun y3=>
 za (Zb (0,y1.2)) fun y4=>
 bif y4.kind != 1 then
  some ((⟨3,y3,0,[],false,(⟨0,0⟩:VAnb),false,[]⟩:zy),false)
 else
  za (Ze fu (⟨y1.2.v,w64 (y1.2.at_+1)⟩:zk)) fun y5=>
  za (qf y5.2) fun y6=>
  bif y6 then
   some ((⟨3,y3,0,[],false,(⟨0,0⟩:VAnb),false,[]⟩:zy),true)
  else
   zU (X:=(Int×Str×Int×Str×Bool×Int×Int×Bool)×zk×(Int×Str×Int×Str×Bool×Int×Int×Bool)) (
     za (qd ([61],y5.2)) fun y7=>
     bif y7.1 then
      some (LX.out ((0,[],0,[],false,0,0,false),y7.2,(3,y3,1,[],false,0,0,false)))
     else
      za (Zb (0,y7.2)) fun y8=>
      za (Ti ([126,124,94,36,42],y8.text)) fun y9=>
      bif bif y8.kind != 9 then true else decide (y9<0)then
       some (LX.ret ((⟨3,y3,0,[],false,(⟨0,0⟩:VAnb),false,[]⟩:zy),false))
      else
       za (qd ([61],(⟨y7.2.v,w64 (y7.2.at_+1)⟩:zk))) fun y10=>
       bif !y10.1 then
        some (LX.ret ((⟨3,y3,0,[],false,(⟨0,0⟩:VAnb),false,[]⟩:zy),false))
       else
        some (LX.out ((0,[],0,[],false,0,0,false),y10.2,(3,y3,wu8 (2+wu8 y9),[],false,0,0,false)))) fun j11=>
   za (Ze fu j11.2.1) fun y12=>
   za (Zb (0,y12.2)) fun y13=>
   bif bif y13.kind != 1 then y13.kind != 5 else false then
    some ((⟨j11.2.2.1,j11.2.2.2.1,j11.2.2.2.2.1,j11.2.2.2.2.2.1,j11.2.2.2.2.2.2.1,(⟨j11.2.2.2.2.2.2.2.1,j11.2.2.2.2.2.2.2.2.1⟩:VAnb),j11.2.2.2.2.2.2.2.2.2,[]⟩:zy),false)
   else
    za (Ze fu (⟨y12.2.v,w64 (y12.2.at_+1)⟩:zk)) fun y14=>
    za (Zb (0,y14.2)) fun y15=>
    bif y15.kind==1 then
     za (Ze fu (⟨y14.2.v,w64 (y14.2.at_+1)⟩:zk)) fun y16=>
     za (qO fu (y15.text,[105])) fun y17=>
     za (qf y16.2) fun y18=>
     za (zH (!y17&&y18) (qO fu (y15.text,[115])) (default:Bool)) fun y19=>
     some ((⟨j11.2.2.1,j11.2.2.2.1,j11.2.2.2.2.1,y13.text,y17,(⟨j11.2.2.2.2.2.2.2.1,j11.2.2.2.2.2.2.2.2.1⟩:VAnb),j11.2.2.2.2.2.2.2.2.2,[]⟩:zy),bif y18 then bif y17 then true else y19 else false)
    else
     za (qf y14.2) fun y20=>
     some ((⟨j11.2.2.1,j11.2.2.2.1,j11.2.2.2.2.1,y13.text,j11.2.2.2.2.2.2.1,(⟨j11.2.2.2.2.2.2.2.1,j11.2.2.2.2.2.2.2.2.1⟩:VAnb),j11.2.2.2.2.2.2.2.2.2,[]⟩:zy),y20)
def Jn(x:Unit):Option (List Str):=
 some [[108,105,110,107],[118,105,115,105,116,101,100],[97,110,121,45,108,105,110,107],[114,111,111,116],[101,109,112,116,121],[110,116,104,45,99,104,105,108,100],[110,116,104,45,108,97,115,116,45,99,104,105,108,100],[105,115],[119,104,101,114,101],[110,111,116],[104,97,115]]
def LC(fu:Nat)(x:Str):Option (zy×Bool):=
 za (ZH fu x) fun y1=>
 bif y1==[102,105,114,115,116,45,99,104,105,108,100]then
  some ((⟨9,[],0,[],false,(⟨0,1⟩:VAnb),false,[]⟩:zy),true)
 else
  bif y1==[108,97,115,116,45,99,104,105,108,100]then
   some ((⟨10,[],0,[],false,(⟨0,1⟩:VAnb),false,[]⟩:zy),true)
  else
   za (Jn ()) fun y2=>
   za (ZH fu x) fun y3=>
   za (slices_Index_string fu (y2,y3)) fun y4=>
   some ((⟨wu8 (4+wu8 (if 0>y4 then 0 else y4)),[],0,[],false,(⟨0,0⟩:VAnb),false,[]⟩:zy),bif decide (y4>=0)then decide (y4<5)else false)
def oC(fu:Nat)(x:ze):Option Bool:=
 za (zH (x.token.kind==1) (qO fu (x.token.text,[111,102])) (default:Bool)) fun y1=>
 some (bif x.token.kind==1 then y1 else false)
def mF(fu:Nat)(x:List ze):Option Int:=
 zR fu (fun(s1:Int)=>
   bif decide (s1<(x.length:Int))then
    za (geti x s1) fun y2=>
    za (oC fu (⟨y2.token,y2.list⟩:ze)) fun y3=>
    bif y3 then
     some (LO.ret s1)
    else
     some (LO.again (w64 (s1+1)))
   else
    some (LO.out ()):Int->Option (LO (Int) (Unit) _)) 0 fun o4=>
 some (-1)
def bB(fu:Nat)(zF:List ze×zg×Bool×Bool->Option (List zh×Bool))(x:zy×List ze×zg):Option (zy×Bool):=
 za (mF fu x.2.1) fun y1=>
 zU (X:=List ze×zy×(Int×Str×Int×Str×Bool×Int×Int×Bool)) (
   bif decide (y1>=0)then
    za (Q9 (x.2.2,x.1.kind)) fun y2=>
    need (decide (0<=w64 (y1+1))&&decide (w64 (y1+1)<=(x.2.1.length:Int)))<|
    za (zF (List.drop (w64 (y1+1)).toNat x.2.1,y2.1,false,false)) fun y3=>
    bif bif !y2.2 then true else !y3.2 then
     some (LX.ret ((⟨x.1.kind,x.1.name,x.1.op,x.1.value,x.1.fold,x.1.anb,x.1.of_,x.1.list⟩:zy),false))
    else
     need (decide (0<=y1)&&decide (y1<=(x.2.1.length:Int)))<|
     some (LX.out (List.take y1.toNat x.2.1,(⟨x.1.kind,x.1.name,x.1.op,x.1.value,x.1.fold,x.1.anb,true,y3.1⟩:zy),(0,[],0,[],false,0,0,false)))
   else
    some (LX.out (x.2.1,(⟨x.1.kind,x.1.name,x.1.op,x.1.value,x.1.fold,x.1.anb,x.1.of_,x.1.list⟩:zy),(0,[],0,[],false,0,0,false)))) fun j4=>
 za (Js fu j4.1) fun y5=>
 bif y5.2 != 0 then
  some ((⟨j4.2.1.kind,j4.2.1.name,j4.2.1.op,j4.2.1.value,j4.2.1.fold,j4.2.1.anb,j4.2.1.of_,j4.2.1.list⟩:zy),false)
 else
  za (Ky y5.1) fun y6=>
  some ((⟨j4.2.1.kind,j4.2.1.name,j4.2.1.op,j4.2.1.value,j4.2.1.fold,y6.1,j4.2.1.of_,j4.2.1.list⟩:zy),y6.2==0)
def CE(fu:Nat)(zF:List ze×zg×Bool×Bool->Option (List zh×Bool))(x:Str×List ze×zg):Option (zy×Bool):=
 za (Jn ()) fun y1=>
 za (ZH fu x.1) fun y2=>
 za (slices_Index_string fu (y1,y2)) fun y3=>
 bif decide (y3<5)then
  some ((⟨0,[],0,[],false,(⟨0,0⟩:VAnb),false,[]⟩:zy),false)
 else
  bif decide (wu8 (4+wu8 y3)<=10)then
   za (bB fu zF ((⟨wu8 (4+wu8 y3),[],0,[],false,(⟨0,0⟩:VAnb),false,[]⟩:zy),x.2.1,x.2.2)) fun y4=>
   some ((⟨y4.1.kind,y4.1.name,y4.1.op,y4.1.value,y4.1.fold,y4.1.anb,y4.1.of_,y4.1.list⟩:zy),y4.2)
  else
   za (Q9 (x.2.2,wu8 (4+wu8 y3))) fun y5=>
   bif !y5.2 then
    some ((⟨wu8 (4+wu8 y3),[],0,[],false,(⟨0,0⟩:VAnb),false,[]⟩:zy),false)
   else
    za (zF (x.2.1,y5.1,wu8 (4+wu8 y3)==14,decide (wu8 (4+wu8 y3)<=12))) fun y6=>
    some ((⟨wu8 (4+wu8 y3),[],0,[],false,(⟨0,0⟩:VAnb),false,y6.1⟩:zy),y6.2)
def KG(fu:Nat)(zF:List ze×zg×Bool×Bool->Option (List zh×Bool))(x:zg×zk):Option ((List zy×Bool)×zk):=
 zR fu (fun(s1:zk×List zy)=>
   za (Zb (1,s1.1)) fun y2=>
   zU (X:=Bool×zk×List zy×zy) (
     za (Zb (0,s1.1)) fun y3=>
     bif y3.kind==4 then
      some (LX.out (y3.flag,(⟨s1.1.v,w64 (s1.1.at_+1)⟩:zk),s1.2,(⟨1,y3.text,0,[],false,(⟨0,0⟩:VAnb),false,[]⟩:zy)))
     else
      bif bif y3.kind==9 then y3.text==[46]else false then
       some (LX.out (y2.kind==1,(⟨s1.1.v,w64 (s1.1.at_+2)⟩:zk),s1.2,(⟨2,y2.text,0,[],false,(⟨0,0⟩:VAnb),false,[]⟩:zy)))
      else
       bif y3.kind==19 then
        za (Sw (0,s1.1)) fun y4=>
        za (MC fu y4) fun y5=>
        some (LX.out (y5.2,(⟨s1.1.v,w64 (s1.1.at_+1)⟩:zk),s1.2,(⟨y5.1.kind,y5.1.name,y5.1.op,y5.1.value,y5.1.fold,y5.1.anb,y5.1.of_,y5.1.list⟩:zy)))
       else
        bif y3.kind==16 then
         zU (X:=Bool×zk×zy) (
           bif y2.kind==1 then
            za (LC fu y2.text) fun y6=>
            some (LX.out (y6.2,s1.1,(⟨y6.1.kind,y6.1.name,y6.1.op,y6.1.value,y6.1.fold,y6.1.anb,y6.1.of_,y6.1.list⟩:zy)))
           else
            bif y2.kind==2 then
             za (Sw (1,s1.1)) fun y7=>
             za (CE fu zF (y2.text,y7,x.1)) fun y8=>
             some (LX.out (y8.2,s1.1,(⟨y8.1.kind,y8.1.name,y8.1.op,y8.1.value,y8.1.fold,y8.1.anb,y8.1.of_,y8.1.list⟩:zy)))
            else
             some (LX.out (false,s1.1,(⟨0,[],0,[],false,(⟨0,0⟩:VAnb),false,[]⟩:zy)))) fun j9=>
         some (LX.out (j9.1,(⟨j9.2.1.v,w64 (j9.2.1.at_+2)⟩:zk),s1.2,(⟨j9.2.2.kind,j9.2.2.name,j9.2.2.op,j9.2.2.value,j9.2.2.fold,j9.2.2.anb,j9.2.2.of_,j9.2.2.list⟩:zy)))
        else
         some (LX.ret (LO.ret ((s1.2,true),s1.1)))) fun j10=>
   bif !j10.1 then
    some (LO.ret (([],false),j10.2.1))
   else
    need (zI j10.2.2.1.length 1 104)<|
    some (LO.again (j10.2.1,j10.2.2.1++[(⟨j10.2.2.2.kind,j10.2.2.2.name,j10.2.2.2.op,j10.2.2.2.value,j10.2.2.2.fold,j10.2.2.2.anb,j10.2.2.2.of_,j10.2.2.2.list⟩:zy)])):zk×List zy->Option (LO (zk×List zy) (Unit) _)) (x.2,[]) fun o11=>
 none
def NE(fu:Nat)(zF:List ze×zg×Bool×Bool->Option (List zh×Bool))(x:List ze×zg×Bool):Option (zh×Bool):=
 za (Ze fu (⟨x.1,0⟩:zk)) fun y1=>
 zU (X:=Int×zk×Int) (
   bif x.2.2 then
    za (Tw fu y1.2) fun y2=>
    bif y2.1==0 then
     some (LX.out (0,y2.2,1))
    else
     some (LX.out (0,y2.2,y2.1))
   else
    some (LX.out (0,y1.2,0))) fun j3=>
 zU (X:=Int×zk×Int) (
   some (LX.out (j3.1,j3.2.1,j3.2.2))) fun j4=>
 zR fu (fun(s5:Int×zk×Int×List zB×List UInt8)=>
   zU (X:=Int×zk×Int×List zB×List UInt8×Str) (
     za (Zb (0,s5.2.1)) fun y6=>
     bif y6.kind==1 then
      za (ZH fu y6.text) fun y7=>
      some (LX.out (s5.1,(⟨s5.2.1.v,w64 (s5.2.1.at_+1)⟩:zk),s5.2.2.1,s5.2.2.2.1,s5.2.2.2.2,y7))
     else
      za (qd ([42],s5.2.1)) fun y8=>
      bif y8.1 then
       some (LX.out (s5.1,y8.2,s5.2.2.1,s5.2.2.2.1,s5.2.2.2.2,[42]))
      else
       some (LX.out (s5.1,y8.2,s5.2.2.1,s5.2.2.2.1,s5.2.2.2.2,[]))) fun j9=>
   za (KG fu zF (x.2.1,j9.2.1)) fun y10=>
   za (zH (!(!y10.1.2)) (Ow fu (zq fu) ((⟨j9.2.2.2.2.2,y10.1.1⟩:zB),x.2.1)) (default:Bool)) fun y11=>
   bif bif !y10.1.2 then true else !y11 then
    some (LO.ret ((⟨j9.2.2.1,j9.2.2.2.1,j9.2.2.2.2.1⟩:zh),false))
   else
    need (zI j9.2.2.2.1.length 1 40)<|
    za (Ze fu y10.2) fun y12=>
    za (qf y12.2) fun y13=>
    bif y13 then
     some (LO.out (j9.1,y12.2,j9.2.2.1,j9.2.2.2.1++[(⟨j9.2.2.2.2.2,y10.1.1⟩:zB)],j9.2.2.2.2.1))
    else
     za (Tw fu y12.2) fun y14=>
     zU (X:=Int×Int×Int×List zB×List UInt8) (
       bif bif y14.1==0 then !y12.1 else false then
        some (LX.ret (LO.ret ((⟨j9.2.2.1,j9.2.2.2.1++[(⟨j9.2.2.2.2.2,y10.1.1⟩:zB)],j9.2.2.2.2.1⟩:zh),false)))
       else
        bif y14.1==0 then
         some (LX.out (1,j9.1,j9.2.2.1,j9.2.2.2.1++[(⟨j9.2.2.2.2.2,y10.1.1⟩:zB)],j9.2.2.2.2.1))
        else
         some (LX.out (y14.1,j9.1,j9.2.2.1,j9.2.2.2.1++[(⟨j9.2.2.2.2.2,y10.1.1⟩:zB)],j9.2.2.2.2.1))) fun j15=>
     za (qK j15.1) fun y16=>
     need (zI j15.2.2.2.2.length 1 1)<|
     some (LO.again (j15.2.1,y14.2,j15.2.2.1,j15.2.2.2.1,j15.2.2.2.2++[y16])):Int×zk×Int×List zB×List UInt8->Option (LO (Int×zk×Int×List zB×List UInt8) (Int×zk×Int×List zB×List UInt8) _)) (j4.1,j4.2.1,j4.2.2,[],[]) fun o17=>
 some ((⟨o17.2.2.1,o17.2.2.2.1,o17.2.2.2.2⟩:zh),decide ((o17.2.2.2.1.length:Int)<=64))
def vv(fu:Nat)(zF:List ze×zg×Bool×Bool->Option (List zh×Bool))(x:List ze×zg×Bool×Bool):Option (List zh×Bool):=
 zR fu (fun(s1:(Int×Int)×List zh)=>
   bif decide (s1.1.2<w64 ((x.1.length:Int)+1))then
    zU (X:=(Int×Int)×List zh) (
      za (zH (decide (s1.1.2<(x.1.length:Int))) (geti x.1 s1.1.2) (default:ze)) fun y2=>
      bif bif decide (s1.1.2<(x.1.length:Int))then y2.token.kind != 18 else false then
       some (LX.out ((s1.1.1,s1.1.2),s1.2))
      else
       zU (X:=List zh) (
         need (decide (0<=s1.1.1)&&(decide (s1.1.1<=s1.1.2)&&decide (s1.1.2<=(x.1.length:Int))))<|
         za (NE fu zF (List.drop s1.1.1.toNat (List.take s1.1.2.toNat x.1),x.2.1,x.2.2.1)) fun y3=>
         bif y3.2 then
          need (zI s1.2.length 1 56)<|
          some (LX.out (s1.2++[(⟨y3.1.lead,y3.1.parts,y3.1.combs⟩:zh)]))
         else
          bif !x.2.2.2 then
           some (LX.ret (LX.ret (LO.ret ([],false))))
          else
           some (LX.out s1.2)) fun j4=>
       some (LX.out ((w64 (s1.1.2+1),s1.1.2),j4))) fun j5=>
    some (LO.again ((j5.1.1,w64 (j5.1.2+1)),j5.2))
   else
    some (LO.out s1.2):(Int×Int)×List zh->Option (LO ((Int×Int)×List zh) (List zh) _)) ((0,0),[]) fun o6=>
 some (o6,true)
def zF(fu:Nat):List ze×zg×Bool×Bool->Option (List zh×Bool):=QL (vv fu) fu
def WA(fu:Nat)(x:List ze):Option (List zh×Int):=
 za (QE fu x) fun y1=>
 bif y1 != 0 then
  some ([],y1)
 else
  za (zF fu (x,(⟨0,false⟩:zg),false,false)) fun y2=>
  bif !y2.2 then
   some ([],12)
  else
   za (Z0 fu y2.1) fun y3=>
   bif decide (y3>64)then
    some ([],4)
   else
    some (y2.1,0)
def wE(fu:Nat)(x:List ze):Option (List ze):=
 bif x.isEmpty then
  both (
    some []) (
    need (zI 0 x.length 80)<|
    some x)
 else
  need (zI 0 x.length 80)<|
  some x
def Qh(fu:Nat)(x:List ze):Option (List ze):=need (zI 0 x.length 80) (some x)
theorem dV(fu:Nat)(x):Le (Qh fu x) (wE fu x):=by
 cases x with
 |nil=> intro y hy;show both (some []) (some [])=some y;unfold both;rw[Ma rfl];exact hy
 |cons a r=>exact .rfl
def Ku(fu:Nat)(QS:List ze->Option (List ze))(x:List ze):Option (List ze):=
 za (Qh fu x) fun y1=>
 zR fu (fun(s2:Int×List ze)=>
   bif decide (s2.1<(y1.length:Int))then
    need (decide (0<=s2.1)&&decide (s2.1<(s2.2.length:Int)))<|
    za s2.2[s2.1.toNat]? fun y3=>
    za (QS y3.list) fun y4=>
    need (decide (0<=s2.1)&&decide (s2.1<(s2.2.length:Int)))<|
    za s2.2[s2.1.toNat]? fun y5=>
    some (LO.again (w64 (s2.1+1),List.set s2.2 s2.1.toNat (⟨y5.token,y4⟩:ze)))
   else
    some (LO.out s2.2):Int×List ze->Option (LO (Int×List ze) (List ze) _)) (0,y1) fun o6=>
 some o6
def QS(fu:Nat):List ze->Option (List ze):=QL (Ku fu) fu
def Km(fu:Nat)(x:List ze×Int):Option (List (List ze)×Int):=
 za (QE fu x.1) fun y1=>
 bif y1 != 0 then
  some ([],y1)
 else
  bif bif decide (x.2<1)then true else decide (x.2>24)then
   some ([],2)
  else
   zR fu (fun(s2:(Int×Int)×List (List ze))=>
     bif decide (s2.1.2<(x.1.length:Int))then
      zU (X:=(Int×Int)×List (List ze)) (
        za (geti x.1 s2.1.2) fun y3=>
        bif y3.token.kind==x.2 then
         need (decide (0<=s2.1.1)&&(decide (s2.1.1<=s2.1.2)&&(decide (s2.1.2<=s2.1.2)&&decide (s2.1.2<=(x.1.length:Int))))&&decide (s2.1.2=s2.1.2))<|
         za (QS fu (List.drop s2.1.1.toNat (List.take s2.1.2.toNat x.1))) fun y4=>
         need (zI s2.2.length 1 24)<|
         some (LX.out ((w64 (s2.1.2+1),s2.1.2),s2.2++[y4]))
        else
         some (LX.out ((s2.1.1,s2.1.2),s2.2))) fun j5=>
      some (LO.again ((j5.1.1,w64 (j5.1.2+1)),j5.2))
     else
      some (LO.out (s2.1.1,s2.2)):(Int×Int)×List (List ze)->Option (LO ((Int×Int)×List (List ze)) (Int×List (List ze)) _)) ((0,0),[]) fun o6=>
   need (decide (0<=o6.1)&&decide (o6.1<=(x.1.length:Int)))<|
   za (QS fu (List.drop o6.1.toNat x.1)) fun y7=>
   need (zI o6.2.length 1 24)<|
   some (o6.2++[y7],0)
def Cm(fu:Nat)(x:List ze):Option (List ze):=
 zR fu (fun(s1:List ze)=>
   za (zH (decide ((s1.length:Int)>0)) (geti s1 0) (default:ze)) fun y2=>
   za (zH (decide ((s1.length:Int)>0)) (Me ((⟨y2.token,y2.list⟩:ze),13)) (default:Bool)) fun y3=>
   bif bif decide ((s1.length:Int)>0)then y3 else false then
    need (decide (1<=(s1.length:Int)))<|
    some (LO.again (List.drop 1 s1))
   else
    some (LO.out s1):List ze->Option (LO (List ze) (List ze) _)) x fun o4=>
 some o4
def Om(fu:Nat)(x:List ze):Option (List ze):=
 zR fu (fun(s1:List ze)=>
   za (zH (decide ((s1.length:Int)>0)) (geti s1 (w64 ((s1.length:Int) - 1))) (default:ze)) fun y2=>
   za (zH (decide ((s1.length:Int)>0)) (Me ((⟨y2.token,y2.list⟩:ze),13)) (default:Bool)) fun y3=>
   bif bif decide ((s1.length:Int)>0)then y3 else false then
    need (decide (0<=w64 ((s1.length:Int) - 1))&&decide (w64 ((s1.length:Int) - 1)<=(s1.length:Int)))<|
    some (LO.again (List.take (w64 ((s1.length:Int) - 1)).toNat s1))
   else
    some (LO.out s1):List ze->Option (LO (List ze) (List ze) _)) x fun o4=>
 some o4
def Nu(x:Int×List ze):Option Bool:=
 za (geti x.2 x.1) fun y1=>
 some (y1.token.kind==13)
def ol(fu:Nat)(x:List ze):Option (List ze×Int):=
 za (QE fu x) fun y1=>
 bif y1 != 0 then
  some ([],y1)
 else
  zR fu (fun(s2:Int)=>
    za (zH (decide (s2<(x.length:Int))) (Nu (s2,x)) (default:Bool)) fun y3=>
    bif bif decide (s2<(x.length:Int))then y3 else false then
     some (LO.again (w64 (s2+1)))
    else
     some (LO.out s2):Int->Option (LO (Int) (Int) _)) 0 fun o4=>
  zR fu (fun(s5:Int)=>
    za (zH (decide (o4<s5)) (Nu (w64 (s5 - 1),x)) (default:Bool)) fun y6=>
    bif bif decide (o4<s5)then y6 else false then
     some (LO.again (w64 (s5 - 1)))
    else
     some (LO.out s5):Int->Option (LO (Int) (Int) _)) (x.length:Int) fun o7=>
  need (decide (0<=o4)&&(decide (o4<=o7)&&(decide (o7<=o7)&&decide (o7<=(x.length:Int))))&&decide (o7=o7))<|
  za (QS fu (List.drop o4.toNat (List.take o7.toNat x))) fun y8=>
  some (y8,0)
def lq(fu:Nat)(x:List ze):Option (zQ×Bool):=
 za (Cm fu x) fun y1=>
 za (Om fu y1) fun y2=>
 za (zH (!((y2.length:Int)==0)) (geti y2 0) (default:ze)) fun y3=>
 za (zH (!((y2.length:Int)==0)) (Me ((⟨y3.token,y3.list⟩:ze),1)) (default:Bool)) fun y4=>
 bif bif (y2.length:Int)==0 then true else !y4 then
  some ((⟨[],[],false⟩:zQ),false)
 else
  za (geti y2 0) fun y5=>
  zU (X:=List ze×(Str×Bool)×(Str×Bool)) (
    za (strings_HasPrefix (y5.token.text,[45,45])) fun y6=>
    bif !y6 then
     za (ZH fu y5.token.text) fun y7=>
     some (LX.out (y2,([],false),(y7,false)))
    else
     some (LX.out (y2,([],false),(y5.token.text,false)))) fun j8=>
  need (decide (1<=(j8.1.length:Int)))<|
  za (Cm fu (List.drop 1 j8.1)) fun y9=>
  za (zH (!((y9.length:Int)==0)) (geti y9 0) (default:ze)) fun y10=>
  za (zH (!((y9.length:Int)==0)) (Me ((⟨y10.token,y10.list⟩:ze),16)) (default:Bool)) fun y11=>
  bif bif (y9.length:Int)==0 then true else !y11 then
   some ((⟨[],[],false⟩:zQ),false)
  else
   need (decide (1<=(y9.length:Int)))<|
   za (Cm fu (List.drop 1 y9)) fun y12=>
   zU (X:=List ze×(Str×Bool)×(Str×Bool)) (
     za (zH (decide (w64 ((y12.length:Int) - 1)>0)) (geti y12 (w64 ((y12.length:Int) - 1))) (default:ze)) fun y13=>
     za (zH (decide (w64 ((y12.length:Int) - 1)>0)) (Me ((⟨y13.token,y13.list⟩:ze),1)) (default:Bool)) fun y14=>
     za (zH (bif decide (w64 ((y12.length:Int) - 1)>0)then y14 else false) (geti y12 (w64 ((y12.length:Int) - 1))) (default:ze)) fun y15=>
     za (zH (bif decide (w64 ((y12.length:Int) - 1)>0)then y14 else false) (qO fu (y15.token.text,[105,109,112,111,114,116,97,110,116])) (default:Bool)) fun y16=>
     bif bif bif decide (w64 ((y12.length:Int) - 1)>0)then y14 else false then y16 else false then
      need (decide (0<=w64 ((y12.length:Int) - 1))&&decide (w64 ((y12.length:Int) - 1)<=(y12.length:Int)))<|
      za (Om fu (List.take (w64 ((y12.length:Int) - 1)).toNat y12)) fun y17=>
      za (zH (decide ((y17.length:Int)>0)) (geti y17 (w64 ((y17.length:Int) - 1))) (default:ze)) fun y18=>
      za (zH (decide ((y17.length:Int)>0)) (Ur (⟨y18.token,y18.list⟩:ze)) (default:Bool)) fun y19=>
      bif bif decide ((y17.length:Int)>0)then y19 else false then
       need (decide (0<=w64 ((y17.length:Int) - 1))&&decide (w64 ((y17.length:Int) - 1)<=(y17.length:Int)))<|
       za (Om fu (List.take (w64 ((y17.length:Int) - 1)).toNat y17)) fun y20=>
       some (LX.out (y20,(j8.2.1.1,j8.2.1.2),(j8.2.2.1,true)))
      else
       some (LX.out (y12,(j8.2.1.1,j8.2.1.2),(j8.2.2.1,j8.2.2.2)))
     else
      some (LX.out (y12,(j8.2.1.1,j8.2.1.2),(j8.2.2.1,j8.2.2.2)))) fun j21=>
   za (ol fu j21.1) fun y22=>
   za (zH (!(y22.2 != 0)) (Pj fu (⟨j21.2.2.1,y22.1,j21.2.2.2⟩:zQ)) (default:Int)) fun y23=>
   bif bif y22.2 != 0 then true else y23 != 0 then
    some ((⟨[],[],false⟩:zQ),false)
   else
    some ((⟨j21.2.2.1,y22.1,j21.2.2.2⟩:zQ),true)
def Ny(fu:Nat)(x:List ze):Option (List zQ×Int):=
 za (Km fu (x,17)) fun y1=>
 bif y1.2 != 0 then
  some ([],y1.2)
 else
  zR fu (fun(s2:Int×List zQ)=>
    bif decide (s2.1<(y1.1.length:Int))then
     zU (X:=Int×List zQ) (
       za (geti y1.1 s2.1) fun y3=>
       za (lq fu y3) fun y4=>
       bif bif y4.2 then decide ((s2.2.length:Int)<32)else false then
        need (zI s2.2.length 1 48)<|
        some (LX.out (s2.1,s2.2++[y4.1]))
       else
        some (LX.out (s2.1,s2.2))) fun j5=>
     some (LO.again (w64 (j5.1+1),j5.2))
    else
     some (LO.out s2.2):Int×List zQ->Option (LO (Int×List zQ) (List zQ) _)) (0,[]) fun o6=>
  some (o6,0)
def YB(fu:Nat)(x:List ze×List ze):Option (zA×Bool):=
 za (WA fu x.1) fun y1=>
 bif y1.2 != 0 then
  some ((⟨0,[],[],(⟨0,[],0,(⟨[],[],false⟩:zQ),[]⟩:zm),[],[]⟩:zA),false)
 else
  za (Ny fu x.2) fun y2=>
  some ((⟨1,y1.1,y2.1,(⟨0,[],0,(⟨[],[],false⟩:zQ),[]⟩:zm),[],[]⟩:zA),y2.2==0)
def QZ(fu:Nat)(x:List Str):Option Int:=
 zR fu (fun(s1:Int)=>
   bif decide (s1<(x.length:Int))then
    need (decide (0<=s1)&&decide (s1<(x.length:Int)))<|
    za x[s1.toNat]? fun y2=>
    za (Av y2) fun y3=>
    bif y3 then
     some (LO.ret s1)
    else
     some (LO.again (w64 (s1+1)))
   else
    some (LO.out ()):Int->Option (LO (Int) (Unit) _)) 0 fun o4=>
 some (-1)
def Ql(fu:Nat)(x:List Str):Option Bool:=
 za (QZ fu x) fun y1=>
 some (decide (y1>=0))
def nC(fu:Nat)(x:List Str):Option Bool:=
 za (zH (bif decide ((x.length:Int)>0)then decide ((x.length:Int)<=16)else false) (Ql fu x) (default:Bool)) fun y1=>
 some (bif bif decide ((x.length:Int)>0)then decide ((x.length:Int)<=16)else false then !y1 else false)
def VA(fu:Nat)(x:List ze):Option (List Str×Bool):=
 za (ol fu x) fun y1=>
 bif bif y1.2 != 0 then true else Int.tmod (y1.1.length:Int) 2==0 then
  some ([],false)
 else
  zR fu (fun(s2:Int×List Str)=>
    bif decide (s2.1<(y1.1.length:Int))then
     zU (X:=Int×List Str) (
       za (geti y1.1 s2.1) fun y3=>
       bif Int.tmod s2.1 2==1 then
        bif bif y3.token.kind != 9 then true else !(y3.token.text==[46])then
         some (LX.ret (LO.ret ([],false)))
        else
         some (LX.out (s2.1,s2.2))
       else
        bif y3.token.kind != 1 then
         some (LX.ret (LO.ret ([],false)))
        else
         need (zI s2.2.length 1 16)<|
         some (LX.out (s2.1,s2.2++[y3.token.text]))) fun j4=>
     some (LO.again (w64 (j4.1+1),j4.2))
    else
     some (LO.out s2.2):Int×List Str->Option (LO (Int×List Str) (List Str) _)) (0,[]) fun o5=>
  za (nC fu o5) fun y6=>
  some (o5,y6)
def Gu(fu:Nat)(x:List ze×Bool):Option (zA×Bool):=
 za (Km fu (x.1,18)) fun y1=>
 bif bif y1.2 != 0 then true else decide ((y1.1.length:Int)>64)then
  some ((⟨0,[],[],(⟨0,[],0,(⟨[],[],false⟩:zQ),[]⟩:zm),[],[]⟩:zA),false)
 else
  zU (X:=(Int×Int×Str×Int×Str×Bool)×(Int×Int×Str×Int×Str×Bool)) (
    bif x.2 then
     za (ol fu x.1) fun y2=>
     bif (y2.1.length:Int)==0 then
      some (LX.ret ((⟨4,[],[],(⟨0,[],0,(⟨[],[],false⟩:zQ),[]⟩:zm),[],[]⟩:zA),true))
     else
      some (LX.out ((0,0,[],0,[],false),(4,0,[],0,[],false)))
    else
     some (LX.out ((0,0,[],0,[],false),(5,0,[],0,[],false)))) fun j3=>
  zR fu (fun(s4:Int×(Int×Int×Str×Int×Str×Bool)×(Int×Int×Str×Int×Str×Bool)×List (List Str))=>
    bif decide (s4.1<(y1.1.length:Int))then
     za (geti y1.1 s4.1) fun y5=>
     za (VA fu y5) fun y6=>
     bif !y6.2 then
      some (LO.ret ((⟨0,[],[],(⟨0,[],0,(⟨[],[],false⟩:zQ),[]⟩:zm),[],[]⟩:zA),false))
     else
      need (zI s4.2.2.2.length 1 24)<|
      some (LO.again (w64 (s4.1+1),(s4.2.1.1,s4.2.1.2.1,s4.2.1.2.2.1,s4.2.1.2.2.2.1,s4.2.1.2.2.2.2.1,s4.2.1.2.2.2.2.2),(s4.2.2.1.1,s4.2.2.1.2.1,s4.2.2.1.2.2.1,s4.2.2.1.2.2.2.1,s4.2.2.1.2.2.2.2.1,s4.2.2.1.2.2.2.2.2),s4.2.2.2++[y6.1]))
    else
     some (LO.out ((s4.2.1.1,s4.2.1.2.1,s4.2.1.2.2.1,s4.2.1.2.2.2.1,s4.2.1.2.2.2.2.1,s4.2.1.2.2.2.2.2),(s4.2.2.1.1,s4.2.2.1.2.1,s4.2.2.1.2.2.1,s4.2.2.1.2.2.2.1,s4.2.2.1.2.2.2.2.1,s4.2.2.1.2.2.2.2.2),s4.2.2.2)):Int×(Int×Int×Str×Int×Str×Bool)×(Int×Int×Str×Int×Str×Bool)×List (List Str)->Option (LO (Int×(Int×Int×Str×Int×Str×Bool)×(Int×Int×Str×Int×Str×Bool)×List (List Str)) ((Int×Int×Str×Int×Str×Bool)×(Int×Int×Str×Int×Str×Bool)×List (List Str)) _)) (0,(j3.1.1,j3.1.2.1,j3.1.2.2.1,j3.1.2.2.2.1,j3.1.2.2.2.2.1,j3.1.2.2.2.2.2),(j3.2.1,j3.2.2.1,j3.2.2.2.1,j3.2.2.2.2.1,j3.2.2.2.2.2.1,j3.2.2.2.2.2.2),[]) fun o7=>
  some ((⟨o7.2.1.1,[],[],(⟨o7.2.1.2.1,o7.2.1.2.2.1,o7.2.1.2.2.2.1,(⟨o7.2.1.2.2.2.2.1,[],o7.2.1.2.2.2.2.2⟩:zQ),[]⟩:zm),o7.2.2,[]⟩:zA),bif !x.2 then true else(o7.2.2.length:Int)==1)
def Zz(x:zo):Option Int:=
 bif (x.v.length:Int)==0 then
  some 0
 else
  za (geti x.v 0) fun y1=>
  some y1.token.kind
def ZA(x:zo):Option (ze×zo):=
 za (geti x.v 0) fun y1=>
 need (decide (1<=(x.v.length:Int)))<|
 some ((⟨y1.token,y1.list⟩:ze),(⟨List.drop 1 x.v⟩:zo))
def zN(fu:Nat)(x:zo):Option (Bool×zo):=
 zR fu (fun(s1:zo)=>
   za (Zz s1) fun y2=>
   bif y2==13 then
    za (ZA s1) fun y3=>
    some (LO.again y3.2)
   else
    some (LO.out s1):zo->Option (LO (zo) (zo) _)) x fun o4=>
 some (decide ((o4.v.length:Int)<(x.v.length:Int)),o4)
def qj(fu:Nat)(x:List Str×zo):Option (Str×zo):=
 zR fu (fun(s1:Int×zo)=>
   bif decide (s1.1<(x.1.length:Int))then
    za (geti x.1 s1.1) fun y2=>
    za (Zz s1.2) fun y3=>
    za (zH (y3==1) (geti s1.2.v 0) (default:ze)) fun y4=>
    za (zH (y3==1) (qO fu (y4.token.text,y2)) (default:Bool)) fun y5=>
    bif bif y3==1 then y5 else false then
     za (ZA s1.2) fun y6=>
     some (LO.ret (y2,y6.2))
    else
     some (LO.again (w64 (s1.1+1),s1.2))
   else
    some (LO.out s1.2):Int×zo->Option (LO (Int×zo) (zo) _)) (0,x.2) fun o7=>
 some ([],o7)
def Xw(fu:Nat)(x:zo):Option ((zm×Bool)×zo):=
 za (Zz x) fun y1=>
 bif y1 != 21 then
  some (((⟨0,[],0,(⟨[],[],false⟩:zQ),[]⟩:zm),false),x)
 else
  za (ZA x) fun y2=>
  za (zN fu (⟨y2.1.list⟩:zo)) fun y3=>
  zU (X:=(Int×Str×Int×Str×Bool)×zo×(Int×Str×Int×Str×Bool)) (
    za (qj fu ([[109,105,110,45,119,105,100,116,104],[109,97,120,45,119,105,100,116,104]],y3.2)) fun y4=>
    bif y4.1==[]then
     some (LX.ret (((⟨5,[],0,(⟨[],[],false⟩:zQ),[]⟩:zm),false),y2.2))
    else
     bif y4.1==[109,97,120,45,119,105,100,116,104]then
      some (LX.out ((0,[],0,[],false),y4.2,(6,[],0,[],false)))
     else
      some (LX.out ((0,[],0,[],false),y4.2,(5,[],0,[],false)))) fun j5=>
  za (zN fu j5.2.1) fun y6=>
  za (Zz y6.2) fun y7=>
  bif y7 != 16 then
   some (((⟨j5.2.2.1,j5.2.2.2.1,j5.2.2.2.2.1,(⟨j5.2.2.2.2.2.1,[],j5.2.2.2.2.2.2⟩:zQ),[]⟩:zm),false),y2.2)
  else
   za (ZA y6.2) fun y8=>
   za (zN fu y8.2) fun y9=>
   za (Zz y9.2) fun y10=>
   za (zH (y10 != 12) (Zz y9.2) (default:Int)) fun y11=>
   bif bif y10 != 12 then y11 != 10 else false then
    some (((⟨j5.2.2.1,j5.2.2.2.1,j5.2.2.2.2.1,(⟨j5.2.2.2.2.2.1,[],j5.2.2.2.2.2.2⟩:zQ),[]⟩:zm),false),y2.2)
   else
    za (ZA y9.2) fun y12=>
    za (zN fu y12.2) fun y13=>
    za (zH (y12.1.token.kind==12) (qO fu (y12.1.token.unit,[112,120])) (default:Bool)) fun y14=>
    za (zH (bif bif bif y12.1.token.kind==12 then y14 else false then true else bif y12.1.token.kind==10 then y12.1.token.num==0 else false then decide (y12.1.token.num>=0)else false) (Uu fu y12.1.token.num) (default:Int)) fun y15=>
    some (((⟨j5.2.2.1,j5.2.2.2.1,y12.1.token.num,(⟨j5.2.2.2.2.2.1,[],j5.2.2.2.2.2.2⟩:zQ),[]⟩:zm),bif bif bif bif bif y12.1.token.kind==12 then y14 else false then true else bif y12.1.token.kind==10 then y12.1.token.num==0 else false then decide (y12.1.token.num>=0)else false then y15==0 else false then(y13.2.v.length:Int)==0 else false),y2.2)
def nE(fu:Nat)(x:zo):Option ((zm×Bool)×zo):=
 za (zN fu x) fun y1=>
 za (qj fu ([[110,111,116],[111,110,108,121]],y1.2)) fun y2=>
 za (zN fu y2.2) fun y3=>
 zU (X:=zo×(Int×Str×Int×Str×Bool)×(Int×Str×Int×Str×Bool)×List zm) (
   za (Zz y3.2) fun y4=>
   bif y4==1 then
    za (ZA y3.2) fun y5=>
    za (ZH fu y5.1.token.text) fun y6=>
    za (Au fu y6) fun y7=>
    bif !y7 then
     some (LX.ret (((⟨1,[],0,(⟨[],[],false⟩:zQ),[]⟩:zm),false),y5.2))
    else
     need (zI 0 1 104)<|
     some (LX.out (y5.2,(0,[],0,[],false),(1,[],0,[],false),[(⟨4,y6,0,(⟨[],[],false⟩:zQ),[]⟩:zm)]))
   else
    za (Xw fu y3.2) fun y8=>
    bif bif !y8.1.2 then true else !(y2.1==[])then
     some (LX.ret (((⟨1,[],0,(⟨[],[],false⟩:zQ),[]⟩:zm),false),y8.2))
    else
     need (zI 0 1 104)<|
     some (LX.out (y8.2,(0,[],0,[],false),(1,[],0,[],false),[(⟨y8.1.1.kind,y8.1.1.name,y8.1.1.num,y8.1.1.decl,y8.1.1.list⟩:zm)]))) fun j9=>
 za (zN fu j9.1) fun y10=>
 zR fu (fun(s11:zo×(Int×Str×Int×Str×Bool)×(Int×Str×Int×Str×Bool)×List zm)=>
   bif decide ((s11.1.v.length:Int)>0)then
    za (qj fu ([[97,110,100]],s11.1)) fun y12=>
    bif y12.1==[]then
     some (LO.ret (((⟨s11.2.2.1.1,s11.2.2.1.2.1,s11.2.2.1.2.2.1,(⟨s11.2.2.1.2.2.2.1,[],s11.2.2.1.2.2.2.2⟩:zQ),s11.2.2.2⟩:zm),false),y12.2))
    else
     za (zN fu y12.2) fun y13=>
     za (Xw fu y13.2) fun y14=>
     bif !y14.1.2 then
      some (LO.ret (((⟨s11.2.2.1.1,s11.2.2.1.2.1,s11.2.2.1.2.2.1,(⟨s11.2.2.1.2.2.2.1,[],s11.2.2.1.2.2.2.2⟩:zQ),s11.2.2.2⟩:zm),false),y14.2))
     else
      need (zI s11.2.2.2.length 1 104)<|
      za (zN fu y14.2) fun y15=>
      some (LO.again (y15.2,(s11.2.1.1,s11.2.1.2.1,s11.2.1.2.2.1,s11.2.1.2.2.2.1,s11.2.1.2.2.2.2),(s11.2.2.1.1,s11.2.2.1.2.1,s11.2.2.1.2.2.1,s11.2.2.1.2.2.2.1,s11.2.2.1.2.2.2.2),s11.2.2.2++[(⟨y14.1.1.kind,y14.1.1.name,y14.1.1.num,y14.1.1.decl,y14.1.1.list⟩:zm)]))
   else
    some (LO.out (s11.1,(s11.2.1.1,s11.2.1.2.1,s11.2.1.2.2.1,s11.2.1.2.2.2.1,s11.2.1.2.2.2.2),(s11.2.2.1.1,s11.2.2.1.2.1,s11.2.2.1.2.2.1,s11.2.2.1.2.2.2.1,s11.2.2.1.2.2.2.2),s11.2.2.2)):zo×(Int×Str×Int×Str×Bool)×(Int×Str×Int×Str×Bool)×List zm->Option (LO (zo×(Int×Str×Int×Str×Bool)×(Int×Str×Int×Str×Bool)×List zm) (zo×(Int×Str×Int×Str×Bool)×(Int×Str×Int×Str×Bool)×List zm) _)) (y10.2,(j9.2.1.1,j9.2.1.2.1,j9.2.1.2.2.1,j9.2.1.2.2.2.1,j9.2.1.2.2.2.2),(j9.2.2.1.1,j9.2.2.1.2.1,j9.2.2.1.2.2.1,j9.2.2.1.2.2.2.1,j9.2.2.1.2.2.2.2),j9.2.2.2) fun o16=>
 zU (X:=(Int×Str×Int×Str×Bool)×(Int×Str×Int×Str×Bool×List zm)) (
   bif y2.1==[110,111,116]then
    some (LX.out ((o16.2.1.1,o16.2.1.2.1,o16.2.1.2.2.1,o16.2.1.2.2.2.1,o16.2.1.2.2.2.2),(3,[],0,[],false,[(⟨o16.2.2.1.1,o16.2.2.1.2.1,o16.2.2.1.2.2.1,(⟨o16.2.2.1.2.2.2.1,[],o16.2.2.1.2.2.2.2⟩:zQ),o16.2.2.2⟩:zm)])))
   else
    some (LX.out ((o16.2.1.1,o16.2.1.2.1,o16.2.1.2.2.1,o16.2.1.2.2.2.1,o16.2.1.2.2.2.2),(o16.2.2.1.1,o16.2.2.1.2.1,o16.2.2.1.2.2.1,o16.2.2.1.2.2.2.1,o16.2.2.1.2.2.2.2,o16.2.2.2)))) fun j17=>
 some (((⟨j17.2.1,j17.2.2.1,j17.2.2.2.1,(⟨j17.2.2.2.2.1,[],j17.2.2.2.2.2.1⟩:zQ),j17.2.2.2.2.2.2⟩:zm),true),o16.1)
def Pt(fu:Nat)(x:List ze):Option (zm×Int):=
 za (Km fu (x,18)) fun y1=>
 bif y1.2 != 0 then
  some ((⟨0,[],0,(⟨[],[],false⟩:zQ),[]⟩:zm),y1.2)
 else
  zU (X:=Int×Str×Int×Str×Bool) (
    bif (y1.1.length:Int)==1 then
     za (zN fu (⟨x⟩:zo)) fun y2=>
     bif (y2.2.v.length:Int)==0 then
      some (LX.ret ((⟨1,[],0,(⟨[],[],false⟩:zQ),[]⟩:zm),0))
     else
      some (LX.out (0,[],0,[],false))
    else
     some (LX.out (0,[],0,[],false))) fun j3=>
  bif decide ((y1.1.length:Int)>64)then
   some ((⟨0,[],0,(⟨[],[],false⟩:zQ),[]⟩:zm),4)
  else
   zR fu (fun(s4:Int×(Int×Str×Int×Str×Bool)×List zm)=>
     bif decide (s4.1<(y1.1.length:Int))then
      za (geti y1.1 s4.1) fun y5=>
      za (nE fu (⟨y5⟩:zo)) fun y6=>
      zU (X:=(Int×Str×Int×Str×Bool)×List zm×zm) (
        bif !y6.1.2 then
         some (LX.out ((s4.2.1.1,s4.2.1.2.1,s4.2.1.2.2.1,s4.2.1.2.2.2.1,s4.2.1.2.2.2.2),s4.2.2,(⟨3,[],0,(⟨[],[],false⟩:zQ),[(⟨1,[],0,(⟨[],[],false⟩:zQ),[(⟨4,[97,108,108],0,(⟨[],[],false⟩:zQ),[]⟩:zm)]⟩:zm)]⟩:zm)))
        else
         some (LX.out ((s4.2.1.1,s4.2.1.2.1,s4.2.1.2.2.1,s4.2.1.2.2.2.1,s4.2.1.2.2.2.2),s4.2.2,(⟨y6.1.1.kind,y6.1.1.name,y6.1.1.num,y6.1.1.decl,y6.1.1.list⟩:zm)))) fun j7=>
      need (zI j7.2.1.length 1 104)<|
      some (LO.again (w64 (s4.1+1),(j7.1.1,j7.1.2.1,j7.1.2.2.1,j7.1.2.2.2.1,j7.1.2.2.2.2),j7.2.1++[(⟨j7.2.2.kind,j7.2.2.name,j7.2.2.num,j7.2.2.decl,j7.2.2.list⟩:zm)]))
     else
      some (LO.out ((s4.2.1.1,s4.2.1.2.1,s4.2.1.2.2.1,s4.2.1.2.2.2.1,s4.2.1.2.2.2.2),s4.2.2)):Int×(Int×Str×Int×Str×Bool)×List zm->Option (LO (Int×(Int×Str×Int×Str×Bool)×List zm) ((Int×Str×Int×Str×Bool)×List zm) _)) (0,(2,[],0,[],false),[]) fun o8=>
   some ((⟨o8.1.1,o8.1.2.1,o8.1.2.2.1,(⟨o8.1.2.2.2.1,[],o8.1.2.2.2.2⟩:zQ),o8.2⟩:zm),0)
def Cz(fu:Nat)(x:List ze):Option (zQ×Bool×Int):=
 za (QE fu x) fun y1=>
 bif y1 != 0 then
  some ((⟨[],[],false⟩:zQ),false,y1)
 else
  za (lq fu x) fun y2=>
  some (y2.1,y2.2,0)
def Q7(fu:Nat)(zY:zo->Option ((zm×Bool)×zo))(x:zo):Option ((zm×Bool)×zo):=
 za (Zz x) fun y1=>
 bif y1==2 then
  za (ZA x) fun y2=>
  some (((⟨8,[],0,(⟨[],[],false⟩:zQ),[]⟩:zm),true),y2.2)
 else
  bif y1==21 then
   za (ZA x) fun y3=>
   za (Cz fu y3.1.list) fun y4=>
   bif bif y4.2.2==0 then y4.2.1 else false then
    some (((⟨7,[],0,y4.1,[]⟩:zm),true),y3.2)
   else
    za (zY (⟨y3.1.list⟩:zo)) fun y5=>
    bif y5.1.2 then
     some (((⟨y5.1.1.kind,y5.1.1.name,y5.1.1.num,y5.1.1.decl,y5.1.1.list⟩:zm),true),y3.2)
    else
     some (((⟨8,[],0,(⟨[],[],false⟩:zQ),[]⟩:zm),true),y3.2)
  else
   some (((⟨8,[],0,(⟨[],[],false⟩:zQ),[]⟩:zm),false),x)
def iw(fu:Nat)(zY:zo->Option ((zm×Bool)×zo))(x:zo):Option ((zm×Bool)×zo):=
 za (zN fu x) fun y1=>
 za (qj fu ([[110,111,116]],y1.2)) fun y2=>
 bif !(y2.1==[])then
  za (zN fu y2.2) fun y3=>
  za (Q7 fu zY y3.2) fun y4=>
  za (zN fu y4.2) fun y5=>
  some (((⟨3,[],0,(⟨[],[],false⟩:zQ),[(⟨y4.1.1.kind,y4.1.1.name,y4.1.1.num,y4.1.1.decl,y4.1.1.list⟩:zm)]⟩:zm),bif bif y4.1.2 then y3.1 else false then(y5.2.v.length:Int)==0 else false),y5.2)
 else
  za (Q7 fu zY y2.2) fun y6=>
  bif !y6.1.2 then
   some (((⟨y6.1.1.kind,y6.1.1.name,y6.1.1.num,y6.1.1.decl,y6.1.1.list⟩:zm),false),y6.2)
  else
   za (zN fu y6.2) fun y7=>
   bif (y7.2.v.length:Int)==0 then
    some (((⟨y6.1.1.kind,y6.1.1.name,y6.1.1.num,y6.1.1.decl,y6.1.1.list⟩:zm),true),y7.2)
   else
    zR fu (fun(s8:Bool×zo×(Int×Str×Int×Str×Bool)×(Int×Str×Int×Str×Bool)×List zm)=>
      bif decide ((s8.2.1.v.length:Int)>0)then
       za (qj fu ([[97,110,100],[111,114]],s8.2.1)) fun y9=>
       bif bif bif (bif y9.1==[97,110,100]then 1 else bif y9.1==[111,114]then 2 else(0:Int))==0 then true else !s8.1 then true else bif s8.2.2.2.1.1 != 0 then s8.2.2.2.1.1 != (bif y9.1==[97,110,100]then 1 else bif y9.1==[111,114]then 2 else(0:Int))else false then
        some (LO.ret (((⟨s8.2.2.2.1.1,s8.2.2.2.1.2.1,s8.2.2.2.1.2.2.1,(⟨s8.2.2.2.1.2.2.2.1,[],s8.2.2.2.1.2.2.2.2⟩:zQ),s8.2.2.2.2⟩:zm),false),y9.2))
       else
        za (zN fu y9.2) fun y10=>
        za (Q7 fu zY y10.2) fun y11=>
        bif bif !y10.1 then true else !y11.1.2 then
         some (LO.ret (((⟨bif y9.1==[97,110,100]then 1 else bif y9.1==[111,114]then 2 else(0:Int),s8.2.2.2.1.2.1,s8.2.2.2.1.2.2.1,(⟨s8.2.2.2.1.2.2.2.1,[],s8.2.2.2.1.2.2.2.2⟩:zQ),s8.2.2.2.2⟩:zm),false),y11.2))
        else
         need (zI s8.2.2.2.2.length 1 104)<|
         za (zN fu y11.2) fun y12=>
         some (LO.again (y12.1,y12.2,(s8.2.2.1.1,s8.2.2.1.2.1,s8.2.2.1.2.2.1,s8.2.2.1.2.2.2.1,s8.2.2.1.2.2.2.2),(bif y9.1==[97,110,100]then 1 else bif y9.1==[111,114]then 2 else(0:Int),s8.2.2.2.1.2.1,s8.2.2.2.1.2.2.1,s8.2.2.2.1.2.2.2.1,s8.2.2.2.1.2.2.2.2),s8.2.2.2.2++[(⟨y11.1.1.kind,y11.1.1.name,y11.1.1.num,y11.1.1.decl,y11.1.1.list⟩:zm)]))
      else
       some (LO.out (s8.2.1,(s8.2.2.1.1,s8.2.2.1.2.1,s8.2.2.1.2.2.1,s8.2.2.1.2.2.2.1,s8.2.2.1.2.2.2.2),(s8.2.2.2.1.1,s8.2.2.2.1.2.1,s8.2.2.2.1.2.2.1,s8.2.2.2.1.2.2.2.1,s8.2.2.2.1.2.2.2.2),s8.2.2.2.2)):Bool×zo×(Int×Str×Int×Str×Bool)×(Int×Str×Int×Str×Bool)×List zm->Option (LO (Bool×zo×(Int×Str×Int×Str×Bool)×(Int×Str×Int×Str×Bool)×List zm) (zo×(Int×Str×Int×Str×Bool)×(Int×Str×Int×Str×Bool)×List zm) _)) (y7.1,y7.2,(0,[],0,[],false),(0,[],0,[],false),[(⟨y6.1.1.kind,y6.1.1.name,y6.1.1.num,y6.1.1.decl,y6.1.1.list⟩:zm)]) fun o13=>
    some (((⟨o13.2.2.1.1,o13.2.2.1.2.1,o13.2.2.1.2.2.1,(⟨o13.2.2.1.2.2.2.1,[],o13.2.2.1.2.2.2.2⟩:zQ),o13.2.2.2⟩:zm),true),o13.1)
def zY(fu:Nat):zo->Option ((zm×Bool)×zo):=QL (iw fu) fu
def Ov(fu:Nat)(x:List ze):Option (zm×Int):=
 za (QE fu x) fun y1=>
 bif y1 != 0 then
  some ((⟨0,[],0,(⟨[],[],false⟩:zQ),[]⟩:zm),y1)
 else
  za (zY fu (⟨x⟩:zo)) fun y2=>
  za (zH (!(!y2.1.2)) (Qe fu (⟨y2.1.1.kind,y2.1.1.name,y2.1.1.num,y2.1.1.decl,y2.1.1.list⟩:zm)) (default:Int)) fun y3=>
  bif bif !y2.1.2 then true else y3 != 0 then
   some ((⟨0,[],0,(⟨[],[],false⟩:zQ),[]⟩:zm),12)
  else
   some ((⟨y2.1.1.kind,y2.1.1.name,y2.1.1.num,y2.1.1.decl,y2.1.1.list⟩:zm),0)
def DF(fu:Nat)(x:(Bool×Str×List ze)×zx):Option ((zA×Bool)×zx):=
 zU (X:=Bool×zx×(Int×Int×Str×Int×Str×Bool)×zA) (
   bif bif !x.1.1 then false else false then
    none
   else
    bif bif x.1.1 then x.1.2.1==[108,97,121,101,114]else false then
     za (Gu fu (x.1.2.2,false)) fun y1=>
     some (LX.out (y1.2,x.2,(0,0,[],0,[],false),(⟨y1.1.kind,y1.1.selectors,y1.1.decls,(⟨y1.1.cond.kind,y1.1.cond.name,y1.1.cond.num,y1.1.cond.decl,y1.1.cond.list⟩:zm),y1.1.names,y1.1.rules⟩:zA)))
    else
     bif bif bif x.1.1 then x.1.2.1==[109,101,100,105,97]else false then false else false then
      za (Pt fu x.1.2.2) fun y2=>
      some (LX.out (y2.2==0,x.2,(0,0,[],0,[],false),(⟨2,[],[],(⟨y2.1.kind,y2.1.name,y2.1.num,y2.1.decl,y2.1.list⟩:zm),[],[]⟩:zA)))
     else
      bif bif bif x.1.1 then x.1.2.1==[115,117,112,112,111,114,116,115]else false then false else false then
       za (Ov fu x.1.2.2) fun y3=>
       some (LX.out (y3.2==0,x.2,(0,0,[],0,[],false),(⟨3,[],[],(⟨y3.1.kind,y3.1.name,y3.1.num,y3.1.decl,y3.1.list⟩:zm),[],[]⟩:zA)))
      else
       some (LX.out (false,x.2,(0,0,[],0,[],false),(⟨0,[],[],(⟨0,[],0,(⟨[],[],false⟩:zQ),[]⟩:zm),[],[]⟩:zA)))) fun j4=>
 bif !j4.1 then
  some (((⟨0,[],[],(⟨0,[],0,(⟨[],[],false⟩:zQ),[]⟩:zm),[],[]⟩:zA),false),j4.2.1)
 else
  bif bif bif j4.2.2.2.kind==2 then true else j4.2.2.2.kind==3 then true else j4.2.2.2.kind==4 then
   none
  else
   some (((⟨j4.2.2.2.kind,j4.2.2.2.selectors,j4.2.2.2.decls,(⟨j4.2.2.2.cond.kind,j4.2.2.2.cond.name,j4.2.2.2.cond.num,j4.2.2.2.cond.decl,j4.2.2.2.cond.list⟩:zm),j4.2.2.2.names,j4.2.2.2.rules⟩:zA),true),(⟨w64 (j4.2.1.room - 1),j4.2.1.constructs⟩:zx))
def UE(fu:Nat)(zX:(List ze×Bool)×zx->Option (List zA×zx))(x:(Bool×Str×List ze×ze)×zx):Option ((zA×Bool)×zx):=
 zU (X:=Bool×zx×(Int×Int×Str×Int×Str×Bool)×zA) (
   bif bif !x.1.1 then true else false then
    za (YB fu (x.1.2.2.1,x.1.2.2.2.list)) fun y1=>
    some (LX.out (y1.2,x.2,(0,0,[],0,[],false),(⟨y1.1.kind,y1.1.selectors,y1.1.decls,(⟨y1.1.cond.kind,y1.1.cond.name,y1.1.cond.num,y1.1.cond.decl,y1.1.cond.list⟩:zm),y1.1.names,y1.1.rules⟩:zA)))
   else
    bif bif x.1.1 then x.1.2.1==[108,97,121,101,114]else false then
     za (Gu fu (x.1.2.2.1,true)) fun y2=>
     some (LX.out (y2.2,x.2,(0,0,[],0,[],false),(⟨y2.1.kind,y2.1.selectors,y2.1.decls,(⟨y2.1.cond.kind,y2.1.cond.name,y2.1.cond.num,y2.1.cond.decl,y2.1.cond.list⟩:zm),y2.1.names,y2.1.rules⟩:zA)))
    else
     bif bif bif x.1.1 then x.1.2.1==[109,101,100,105,97]else false then true else false then
      za (Pt fu x.1.2.2.1) fun y3=>
      some (LX.out (y3.2==0,x.2,(0,0,[],0,[],false),(⟨2,[],[],(⟨y3.1.kind,y3.1.name,y3.1.num,y3.1.decl,y3.1.list⟩:zm),[],[]⟩:zA)))
     else
      bif bif bif x.1.1 then x.1.2.1==[115,117,112,112,111,114,116,115]else false then true else false then
       za (Ov fu x.1.2.2.1) fun y4=>
       some (LX.out (y4.2==0,x.2,(0,0,[],0,[],false),(⟨3,[],[],(⟨y4.1.kind,y4.1.name,y4.1.num,y4.1.decl,y4.1.list⟩:zm),[],[]⟩:zA)))
      else
       some (LX.out (false,x.2,(0,0,[],0,[],false),(⟨0,[],[],(⟨0,[],0,(⟨[],[],false⟩:zQ),[]⟩:zm),[],[]⟩:zA)))) fun j5=>
 bif !j5.1 then
  some (((⟨0,[],[],(⟨0,[],0,(⟨[],[],false⟩:zQ),[]⟩:zm),[],[]⟩:zA),false),j5.2.1)
 else
  zU (X:=zx×(Int×Int×Str×Int×Str×Bool)×zA) (
    bif bif bif j5.2.2.2.kind==2 then true else j5.2.2.2.kind==3 then true else j5.2.2.2.kind==4 then
     za (zX ((x.1.2.2.2.list,false),(⟨w64 (j5.2.1.room - 1),j5.2.1.constructs⟩:zx))) fun y6=>
     some (LX.out (y6.2,(j5.2.2.1.1,j5.2.2.1.2.1,j5.2.2.1.2.2.1,j5.2.2.1.2.2.2.1,j5.2.2.1.2.2.2.2.1,j5.2.2.1.2.2.2.2.2),(⟨j5.2.2.2.kind,j5.2.2.2.selectors,j5.2.2.2.decls,(⟨j5.2.2.2.cond.kind,j5.2.2.2.cond.name,j5.2.2.2.cond.num,j5.2.2.2.cond.decl,j5.2.2.2.cond.list⟩:zm),j5.2.2.2.names,y6.1⟩:zA)))
    else
     some (LX.out ((⟨w64 (j5.2.1.room - 1),j5.2.1.constructs⟩:zx),(j5.2.2.1.1,j5.2.2.1.2.1,j5.2.2.1.2.2.1,j5.2.2.1.2.2.2.1,j5.2.2.1.2.2.2.2.1,j5.2.2.1.2.2.2.2.2),(⟨j5.2.2.2.kind,j5.2.2.2.selectors,j5.2.2.2.decls,(⟨j5.2.2.2.cond.kind,j5.2.2.2.cond.name,j5.2.2.2.cond.num,j5.2.2.2.cond.decl,j5.2.2.2.cond.list⟩:zm),j5.2.2.2.names,j5.2.2.2.rules⟩:zA)))) fun j7=>
  some (((⟨j7.2.2.kind,j7.2.2.selectors,j7.2.2.decls,(⟨j7.2.2.cond.kind,j7.2.2.cond.name,j7.2.2.cond.num,j7.2.2.cond.decl,j7.2.2.cond.list⟩:zm),j7.2.2.names,j7.2.2.rules⟩:zA),true),j7.1)
def QN(fu:Nat)(zX:(List ze×Bool)×zx->Option (List zA×zx))(x:(List ze×Bool)×zx):Option (List zA×zx):=
 zR fu (fun(s1:List ze×zx×List zA)=>
   bif decide ((s1.1.length:Int)>0)then
    za (Ut s1.1) fun y2=>
    bif bif y2==13 then true else bif x.1.2 then bif y2==14 then true else y2==15 else false then
     need (decide (1<=(s1.1.length:Int)))<|
     some (LO.again (List.drop 1 s1.1,s1.2.1,s1.2.2))
    else
     zU (X:=List ze×zx×List zA) (
       bif x.1.2 then
        some (LX.out (s1.1,(⟨s1.2.1.room,w64 (s1.2.1.constructs+1)⟩:zx),s1.2.2))
       else
        some (LX.out (s1.1,s1.2.1,s1.2.2))) fun j3=>
     zU (X:=(List ze×Str)×zx×List zA×List UInt8) (
       bif y2==3 then
        za (geti j3.1 0) fun y4=>
        za (ZH fu y4.token.text) fun y5=>
        need (zI 1 1 1)<|
        need (decide (1<=(j3.1.length:Int)))<|
        some (LX.out ((List.drop 1 j3.1,y5),j3.2.1,j3.2.2,[(23:UInt8),(17:UInt8)]))
       else
        some (LX.out ((j3.1,[]),j3.2.1,j3.2.2,[(23:UInt8)]))) fun j6=>
     za (XB fu (j6.1.1,j6.2.2.2)) fun y7=>
     za (Ut y7.2) fun y8=>
     bif y8==23 then
      za (geti y7.2 0) fun y9=>
      zU (X:=List ze×zx×List zA) (
        bif decide ((y7.2.length:Int)>0)then
         need (decide (1<=(y7.2.length:Int)))<|
         some (LX.out (List.drop 1 y7.2,j6.2.1,j6.2.2.1))
        else
         some (LX.out (y7.2,j6.2.1,j6.2.2.1))) fun j10=>
      bif j10.2.1.room==0 then
       some (LO.again (j10.1,j10.2.1,j10.2.2))
      else
       za (UE fu zX ((y2==3,j6.1.2,y7.1,y9),j10.2.1)) fun y11=>
       bif y11.1.2 then
        need (zI j10.2.2.length 1 208)<|
        some (LO.again (j10.1,y11.2,j10.2.2++[(⟨y11.1.1.kind,y11.1.1.selectors,y11.1.1.decls,(⟨y11.1.1.cond.kind,y11.1.1.cond.name,y11.1.1.cond.num,y11.1.1.cond.decl,y11.1.1.cond.list⟩:zm),y11.1.1.names,y11.1.1.rules⟩:zA)]))
       else
        some (LO.again (j10.1,y11.2,j10.2.2))
     else
      zU (X:=List ze×zx×List zA) (
        bif decide ((y7.2.length:Int)>0)then
         need (decide (1<=(y7.2.length:Int)))<|
         some (LX.out (List.drop 1 y7.2,j6.2.1,j6.2.2.1))
        else
         some (LX.out (y7.2,j6.2.1,j6.2.2.1))) fun j12=>
      bif j12.2.1.room==0 then
       some (LO.again (j12.1,j12.2.1,j12.2.2))
      else
       za (DF fu ((y2==3,j6.1.2,y7.1),j12.2.1)) fun y13=>
       bif y13.1.2 then
        need (zI j12.2.2.length 1 208)<|
        some (LO.again (j12.1,y13.2,j12.2.2++[(⟨y13.1.1.kind,y13.1.1.selectors,y13.1.1.decls,(⟨y13.1.1.cond.kind,y13.1.1.cond.name,y13.1.1.cond.num,y13.1.1.cond.decl,y13.1.1.cond.list⟩:zm),y13.1.1.names,y13.1.1.rules⟩:zA)]))
       else
        some (LO.again (j12.1,y13.2,j12.2.2))
   else
    some (LO.out (s1.2.1,s1.2.2)):List ze×zx×List zA->Option (LO (List ze×zx×List zA) (zx×List zA) _)) (x.1.1,x.2,[]) fun o14=>
 some (o14.2,o14.1)
def zX(fu:Nat):(List ze×Bool)×zx->Option (List zA×zx):=QL (QN fu) fu
def Tt(fu:Nat)(x:Str):Option (List zA×Int):=
 za (Ei fu x) fun y1=>
 bif y1.2 != 0 then
  some ([],y1.2)
 else
  za (parseF y1.1) fun y2=>
  bif y2.2 != 0 then
   some ([],y2.2)
  else
   za (zX fu ((y2.1,true),(⟨64,0⟩:zx))) fun y3=>
   none
def Lj(fu:Nat)(x:Str):Option (Zi×Int):=
 za (Tt fu x) fun y1=>
 bif y1.2 != 0 then
  some ((⟨[]⟩:Zi),y1.2)
 else
  some ((⟨y1.1⟩:Zi),0)
def uu(fu:Nat)(x:Str):Option ((List zA×Int)×zx):=
 za (Ei fu x) fun y1=>
 bif y1.2 != 0 then
  none
 else
  za (parseF y1.1) fun y2=>
  bif y2.2 != 0 then
   none
  else
   za (zX fu ((y2.1,true),(⟨64,0⟩:zx))) fun y3=>
   some ((y3.1,0),y3.2)
def lm(fu:Nat)(x:Str):Option (Zi×Int):=
 za (uu fu x) fun y1=>
 bif y1.1.2 != 0 then
  some ((⟨[]⟩:Zi),y1.1.2)
 else
  some ((⟨y1.1.1⟩:Zi),0)
def yu(fu:Nat)(x:Str):Option (Zi×Int):=
 za (Ei fu x) fun y1=>
 bif !(y1.2==0)then
  za (Lj fu x) fun z1=>
  some z1
 else
  za (parseF y1.1) fun y2=>
  bif !(y2.2==0)then
   za (Lj fu x) fun z1=>
   some z1
  else
   za (lm fu x) fun z1=>
   some z1
def vE(fu:Nat)(x:List UInt8):Option (List UInt8):=
 bif x.isEmpty then
  both (
    some []) (
    need (zI 0 x.length 1)<|
    some x)
 else
  need (zI 0 x.length 1)<|
  some x
def Qi(fu:Nat)(x:List UInt8):Option (List UInt8):=need (zI 0 x.length 1) (some x)
theorem bV(fu:Nat)(x):Le (Qi fu x) (vE fu x):=by
 cases x with
 |nil=> intro y hy;show both (some []) (some [])=some y;unfold both;rw[Ma rfl];exact hy
 |cons a r=>exact .rfl
def YF(fu:Nat)(x:List zy):Option (List zy):=
 bif x.isEmpty then
  both (
    some []) (
    need (zI 0 x.length 104)<|
    some x)
 else
  need (zI 0 x.length 104)<|
  some x
def qR(fu:Nat)(x:List zy):Option (List zy):=need (zI 0 x.length 104) (some x)
theorem WW(fu:Nat)(x):Le (qR fu x) (YF fu x):=by
 cases x with
 |nil=> intro y hy;show both (some []) (some [])=some y;unfold both;rw[Ma rfl];exact hy
 |cons a r=>exact .rfl
def Qw(fu:Nat)(Zr:List zh->Option (List zh))(x:List zh):Option (List zh):=
 zR fu (fun(s1:Int×List zh)=>
   bif decide (s1.1<(x.length:Int))then
    za (geti x s1.1) fun y2=>
    za (Qi fu y2.combs) fun y3=>
    zR fu (fun(s4:Int×List zB)=>
      bif decide (s4.1<(y2.parts.length:Int))then
       za (geti y2.parts s4.1) fun y5=>
       za (qR fu y5.simples) fun y6=>
       zR fu (fun(s7:Int×List zy)=>
         bif decide (s7.1<(y6.length:Int))then
          need (decide (0<=s7.1)&&decide (s7.1<(s7.2.length:Int)))<|
          za s7.2[s7.1.toNat]? fun y8=>
          za (Zr y8.list) fun y9=>
          need (decide (0<=s7.1)&&decide (s7.1<(s7.2.length:Int)))<|
          za s7.2[s7.1.toNat]? fun y10=>
          some (LO.again (w64 (s7.1+1),List.set s7.2 s7.1.toNat (⟨y10.kind,y10.name,y10.op,y10.value,y10.fold,y10.anb,y10.of_,y9⟩:zy)))
         else
          some (LO.out s7.2):Int×List zy->Option (LO (Int×List zy) (List zy) _)) (0,y6) fun o11=>
       need (zI s4.2.length 1 40)<|
       some (LO.again (w64 (s4.1+1),s4.2++[(⟨y5.tag,o11⟩:zB)]))
      else
       some (LO.out s4.2):Int×List zB->Option (LO (Int×List zB) (List zB) _)) (0,[]) fun o12=>
    need (zI s1.2.length 1 56)<|
    some (LO.again (w64 (s1.1+1),s1.2++[(⟨y2.lead,o12,y3⟩:zh)]))
   else
    some (LO.out s1.2):Int×List zh->Option (LO (Int×List zh) (List zh) _)) (0,[]) fun o13=>
 some o13
def Zr(fu:Nat):List zh->Option (List zh):=QL (Qw fu) fu
def Yw(fu:Nat)(ZC:List ze->Option (List ze))(x:List ze):Option (List ze):=
 zR fu (fun(s1:Int×List ze)=>
   bif decide (s1.1<(x.length:Int))then
    za (geti x s1.1) fun y2=>
    za (ZC y2.list) fun y3=>
    need (zI s1.2.length 1 80)<|
    some (LO.again (w64 (s1.1+1),s1.2++[(⟨y2.token,y3⟩:ze)]))
   else
    some (LO.out s1.2):Int×List ze->Option (LO (Int×List ze) (List ze) _)) (0,[]) fun o4=>
 some o4
def ZC(fu:Nat):List ze->Option (List ze):=QL (Yw fu) fu
def rD(fu:Nat)(x:List zQ):Option (List zQ):=
 zR fu (fun(s1:Int×List zQ)=>
   bif decide (s1.1<(x.length:Int))then
    za (geti x s1.1) fun y2=>
    za (ZC fu y2.value) fun y3=>
    need (zI s1.2.length 1 48)<|
    some (LO.again (w64 (s1.1+1),s1.2++[(⟨y2.name,y3,y2.important⟩:zQ)]))
   else
    some (LO.out s1.2):Int×List zQ->Option (LO (Int×List zQ) (List zQ) _)) (0,[]) fun o4=>
 some o4
def Mw(fu:Nat)(Z6:zm->Option zm)(x:zm):Option zm:=
 za (ZC fu x.decl.value) fun y1=>
 zR fu (fun(s2:Int×List zm)=>
   bif decide (s2.1<(x.list.length:Int))then
    za (geti x.list s2.1) fun y3=>
    za (Z6 (⟨y3.kind,y3.name,y3.num,y3.decl,y3.list⟩:zm)) fun y4=>
    need (zI s2.2.length 1 104)<|
    some (LO.again (w64 (s2.1+1),s2.2++[(⟨y4.kind,y4.name,y4.num,y4.decl,y4.list⟩:zm)]))
   else
    some (LO.out s2.2):Int×List zm->Option (LO (Int×List zm) (List zm) _)) (0,[]) fun o5=>
 some (⟨x.kind,x.name,x.num,(⟨x.decl.name,y1,x.decl.important⟩:zQ),o5⟩:zm)
def Z6(fu:Nat):zm->Option zm:=QL (Mw fu) fu
def XF(fu:Nat)(x:List Str):Option (List Str):=
 bif x.isEmpty then
  both (
    some []) (
    need (zI 0 x.length 16)<|
    some x)
 else
  need (zI 0 x.length 16)<|
  some x
def slices_Clone_string(fu:Nat)(x:List Str):Option (List Str):=need (zI 0 x.length 16) (some x)
theorem VW(fu:Nat)(x):Le (slices_Clone_string fu x) (XF fu x):=by
 cases x with
 |nil=> intro y hy;show both (some []) (some [])=some y;unfold both;rw[Ma rfl];exact hy
 |cons a r=>exact .rfl
def Ew(fu:Nat)(Zy:List zA->Option (List zA))(x:List zA):Option (List zA):=
 zR fu (fun(s1:Int×List zA)=>
   bif decide (s1.1<(x.length:Int))then
    za (geti x s1.1) fun y2=>
    za (Zr fu y2.selectors) fun y3=>
    za (rD fu y2.decls) fun y4=>
    za (Z6 fu (⟨y2.cond.kind,y2.cond.name,y2.cond.num,y2.cond.decl,y2.cond.list⟩:zm)) fun y5=>
    zR fu (fun(s6:Int×List (List Str))=>
      bif decide (s6.1<(y2.names.length:Int))then
       za (geti y2.names s6.1) fun y7=>
       za (slices_Clone_string fu y7) fun y8=>
       need (zI s6.2.length 1 24)<|
       some (LO.again (w64 (s6.1+1),s6.2++[y8]))
      else
       some (LO.out s6.2):Int×List (List Str)->Option (LO (Int×List (List Str)) (List (List Str)) _)) (0,[]) fun o9=>
    za (Zy y2.rules) fun y10=>
    need (zI s1.2.length 1 208)<|
    some (LO.again (w64 (s1.1+1),s1.2++[(⟨y2.kind,y3,y4,(⟨y5.kind,y5.name,y5.num,y5.decl,y5.list⟩:zm),o9,y10⟩:zA)]))
   else
    some (LO.out s1.2):Int×List zA->Option (LO (Int×List zA) (List zA) _)) (0,[]) fun o11=>
 some o11
def Zy(fu:Nat):List zA->Option (List zA):=QL (Ew fu) fu
def Rt(fu:Nat)(x:zZ):Option zZ:=
 zR fu (fun(s1:Int×List qE)=>
   bif decide (s1.1<(x.sheets.length:Int))then
    za (geti x.sheets s1.1) fun y2=>
    za (Zy fu y2.sheet.rules) fun y3=>
    need (zI s1.2.length 1 56)<|
    some (LO.again (w64 (s1.1+1),s1.2++[(⟨y2.number,y2.origin,y2.site,(⟨y3⟩:Zi)⟩:qE)]))
   else
    some (LO.out s1.2):Int×List qE->Option (LO (Int×List qE) (List qE) _)) (0,[]) fun o4=>
 some (⟨o4,x.next⟩:zZ)
def Ls(fu:Nat)(x:zZ×Int×Str×Str):Option (zZ×Int×Int):=
 za (Fu fu x.1) fun y1=>
 bif y1 != 0 then
  some ((⟨[],0⟩:zZ),0,y1)
 else
  bif bif bif decide (x.2.1<1)then true else decide (x.2.1>3)then true else decide ((x.2.2.1.length:Int)>64)then
   some ((⟨[],0⟩:zZ),0,2)
  else
   bif bif (x.1.sheets.length:Int)==8 then true else x.1.next==1000 then
    some ((⟨[],0⟩:zZ),0,18)
   else
    za (yu fu x.2.2.2) fun y2=>
    bif y2.2 != 0 then
     some ((⟨[],0⟩:zZ),0,y2.2)
    else
     za (Rt fu x.1) fun y3=>
     need (decide (0<=(y3.sheets.length:Int))&&(decide ((y3.sheets.length:Int)<=(y3.sheets.length:Int))&&decide ((y3.sheets.length:Int)<=(y3.sheets.length:Int)))&&decide ((y3.sheets.length:Int)=(y3.sheets.length:Int)))<|
     need (zI (List.take y3.sheets.length y3.sheets).length 1 56)<|
     some ((⟨List.take y3.sheets.length y3.sheets++[(⟨x.1.next,x.2.1,x.2.2.1,y2.1⟩:qE)],w64 (y3.next+1)⟩:zZ),x.1.next,0)
def Ru(fu:Nat)(x:Unit):Option (zZ×Bool):=
 za (Ls fu ((⟨[],0⟩:zZ),3,[97],[98,123,125,99,123,125])) fun y1=>
 some (y1.1,bif y1.2.2==0 then y1.2.1==0 else false)
def UA(x:qE×Int):Option Bool:=
 some (x.1.number==x.2)
def TF(fu:Nat)(x:List qE×Int):Option Int:=
 zR fu (fun(s1:Int)=>
   bif decide (s1<(x.1.length:Int))then
    za (geti x.1 s1) fun y2=>
    za (UA (y2,x.2)) fun y3=>
    bif y3 then
     some (LO.ret s1)
    else
     some (LO.again (w64 (s1+1)))
   else
    some (LO.out ()):Int->Option (LO (Int) (Unit) _)) 0 fun o4=>
 some (-1)
def Tq(fu:Nat)(x:zZ×Int):Option (Int×Int):=
 za (Fu fu x.1) fun y1=>
 bif y1 != 0 then
  some (0,y1)
 else
  za (TF fu (x.1.sheets,x.2)) fun y2=>
  bif decide (y2<0)then
   some (0,6)
  else
   some (y2,0)
def Ir(fu:Nat)(x:zZ×Int):Option (qE×Int):=
 za (Tq fu (x.1,x.2)) fun y1=>
 bif y1.2 != 0 then
  some ((⟨0,0,[],(⟨[]⟩:Zi)⟩:qE),y1.2)
 else
  za (Rt fu x.1) fun y2=>
  za (geti y2.sheets y1.1) fun y3=>
  some (y3,0)
def Pm(fu:Nat)(x:zZ×Str×Int):Option (Zi×Int):=
 za (Ir fu (x.1,x.2.2)) fun y1=>
 bif y1.2 != 0 then
  some ((⟨[]⟩:Zi),y1.2)
 else
  bif !(y1.1.site==x.2.1)then
   some ((⟨[]⟩:Zi),24)
  else
   some (y1.1.sheet,0)
def Kj(fu:Nat)(x:Str):Option (zA×Int):=
 za (Tt fu x) fun y1=>
 bif y1.2 != 0 then
  some ((⟨0,[],[],(⟨0,[],0,(⟨[],[],false⟩:zQ),[]⟩:zm),[],[]⟩:zA),y1.2)
 else
  none
def jm(fu:Nat)(x:Str):Option (zA×Int):=
 za (uu fu x) fun y1=>
 bif y1.1.2 != 0 then
  some ((⟨0,[],[],(⟨0,[],0,(⟨[],[],false⟩:zQ),[]⟩:zm),[],[]⟩:zA),y1.1.2)
 else
  bif bif (y1.1.1.length:Int) != 1 then true else y1.2.constructs != 1 then
   some ((⟨0,[],[],(⟨0,[],0,(⟨[],[],false⟩:zQ),[]⟩:zm),[],[]⟩:zA),12)
  else
   za (geti y1.1.1 0) fun y2=>
   some ((⟨y2.kind,y2.selectors,y2.decls,(⟨y2.cond.kind,y2.cond.name,y2.cond.num,y2.cond.decl,y2.cond.list⟩:zm),y2.names,y2.rules⟩:zA),0)
def xu(fu:Nat)(x:Str):Option (zA×Int):=
 za (Ei fu x) fun y1=>
 bif !(y1.2==0)then
  za (Kj fu x) fun z1=>
  some z1
 else
  za (parseF y1.1) fun y2=>
  bif !(y2.2==0)then
   za (Kj fu x) fun z1=>
   some z1
  else
   za (jm fu x) fun z1=>
   some z1
def iD(fu:Nat)(x:zA):Option Int:=
 za (Hu fu [(⟨x.kind,x.selectors,x.decls,(⟨x.cond.kind,x.cond.name,x.cond.num,x.cond.decl,x.cond.list⟩:zm),x.names,x.rules⟩:zA)]) fun y1=>
 some y1
def dE(fu:Nat)(x:List zA):Option (List zA):=
 bif x.isEmpty then
  both (
    some []) (
    need (zI 0 x.length 208)<|
    some x)
 else
  need (zI 0 x.length 208)<|
  some x
def Fw(fu:Nat)(x:List zA):Option (List zA):=need (zI 0 x.length 208) (some x)
theorem VV(fu:Nat)(x):Le (Fw fu x) (dE fu x):=by
 cases x with
 |nil=> intro y hy;show both (some []) (some [])=some y;unfold both;rw[Ma rfl];exact hy
 |cons a r=>exact .rfl
def JG(fu:Nat)(x:List zh):Option (List zh):=
 bif x.isEmpty then
  both (
    some []) (
    need (zI 0 x.length 56)<|
    some x)
 else
  need (zI 0 x.length 56)<|
  some x
def QO(fu:Nat)(x:List zh):Option (List zh):=need (zI 0 x.length 56) (some x)
theorem dX(fu:Nat)(x):Le (QO fu x) (JG fu x):=by
 cases x with
 |nil=> intro y hy;show both (some []) (some [])=some y;unfold both;rw[Ma rfl];exact hy
 |cons a r=>exact .rfl
def CG(fu:Nat)(x:List zB):Option (List zB):=
 bif x.isEmpty then
  both (
    some []) (
    need (zI 0 x.length 40)<|
    some x)
 else
  need (zI 0 x.length 40)<|
  some x
def Qs(fu:Nat)(x:List zB):Option (List zB):=need (zI 0 x.length 40) (some x)
theorem IX(fu:Nat)(x):Le (Qs fu x) (CG fu x):=by
 cases x with
 |nil=> intro y hy;show both (some []) (some [])=some y;unfold both;rw[Ma rfl];exact hy
 |cons a r=>exact .rfl
def Iw(fu:Nat)(ZQ:List zh->Option (List zh))(x:List zh):Option (List zh):=
 za (QO fu x) fun y1=>
 zR fu (fun(s2:Int×List zh)=>
   bif decide (s2.1<(y1.length:Int))then
    need (decide (0<=s2.1)&&decide (s2.1<(s2.2.length:Int)))<|
    za s2.2[s2.1.toNat]? fun y3=>
    za (Qs fu y3.parts) fun y4=>
    za s2.2[s2.1.toNat]? fun y5=>
    za (Qi fu y5.combs) fun y6=>
    za s2.2[s2.1.toNat]? fun y7=>
    need (Nat.beq s2.1.toNat (List.take s2.1.toNat s2.2).length)<|
    need (Nat.beq s2.1.toNat (List.take s2.1.toNat s2.2).length)<|
    zR fu (fun(s8:Int×List zB)=>
      bif decide (s8.1<(y4.length:Int))then
       need (Nat.beq s2.1.toNat (List.take s2.1.toNat s2.2).length)<|
       need (decide (0<=s8.1)&&decide (s8.1<(s8.2.length:Int)))<|
       za s8.2[s8.1.toNat]? fun y9=>
       za (qR fu y9.simples) fun y10=>
       zR fu (fun(s11:Int×List zy)=>
         bif decide (s11.1<(y10.length:Int))then
          need (decide (0<=s11.1)&&decide (s11.1<(s11.2.length:Int)))<|
          za s11.2[s11.1.toNat]? fun y12=>
          za (ZQ y12.list) fun y13=>
          need (decide (0<=s11.1)&&decide (s11.1<(s11.2.length:Int)))<|
          za s11.2[s11.1.toNat]? fun y14=>
          some (LO.again (w64 (s11.1+1),List.set s11.2 s11.1.toNat (⟨y14.kind,y14.name,y14.op,y14.value,y14.fold,y14.anb,y14.of_,y13⟩:zy)))
         else
          some (LO.out s11.2):Int×List zy->Option (LO (Int×List zy) (List zy) _)) (0,y10) fun o15=>
       need (Nat.beq s2.1.toNat (List.take s2.1.toNat s2.2).length)<|
       need (decide (0<=s8.1)&&decide (s8.1<(s8.2.length:Int)))<|
       za s8.2[s8.1.toNat]? fun y16=>
       some (LO.again (w64 (s8.1+1),List.take s8.1.toNat s8.2++List.cons (⟨y16.tag,o15⟩:zB) (List.drop (s8.1.toNat+1) s8.2)))
      else
       some (LO.out s8.2):Int×List zB->Option (LO (Int×List zB) (List zB) _)) (0,y4) fun o17=>
    some (LO.again (w64 (s2.1+1),List.take s2.1.toNat s2.2++List.cons (⟨y7.lead,o17,y6⟩:zh) (List.drop (s2.1.toNat+1) s2.2)))
   else
    some (LO.out s2.2):Int×List zh->Option (LO (Int×List zh) (List zh) _)) (0,y1) fun o18=>
 some o18
def ZQ(fu:Nat):List zh->Option (List zh):=QL (Iw fu) fu
def fE(fu:Nat)(x:List zQ):Option (List zQ):=
 bif x.isEmpty then
  both (
    some []) (
    need (zI 0 x.length 48)<|
    some x)
 else
  need (zI 0 x.length 48)<|
  some x
def Gw(fu:Nat)(x:List zQ):Option (List zQ):=need (zI 0 x.length 48) (some x)
theorem WV(fu:Nat)(x):Le (Gw fu x) (fE fu x):=by
 cases x with
 |nil=> intro y hy;show both (some []) (some [])=some y;unfold both;rw[Ma rfl];exact hy
 |cons a r=>exact .rfl
def Tv(fu:Nat)(qA:List ze->Option (List ze))(x:List ze):Option (List ze):=
 za (Qh fu x) fun y1=>
 zR fu (fun(s2:Int×List ze)=>
   bif decide (s2.1<(y1.length:Int))then
    need (decide (0<=s2.1)&&decide (s2.1<(s2.2.length:Int)))<|
    za s2.2[s2.1.toNat]? fun y3=>
    za (qA y3.list) fun y4=>
    need (decide (0<=s2.1)&&decide (s2.1<(s2.2.length:Int)))<|
    za s2.2[s2.1.toNat]? fun y5=>
    some (LO.again (w64 (s2.1+1),List.set s2.2 s2.1.toNat (⟨y5.token,y4⟩:ze)))
   else
    some (LO.out s2.2):Int×List ze->Option (LO (Int×List ze) (List ze) _)) (0,y1) fun o6=>
 some o6
def qA(fu:Nat):List ze->Option (List ze):=QL (Tv fu) fu
def cB(fu:Nat)(x:List zQ):Option (List zQ):=
 za (Gw fu x) fun y1=>
 zR fu (fun(s2:Int×List zQ)=>
   bif decide (s2.1<(y1.length:Int))then
    need (decide (0<=s2.1)&&decide (s2.1<(s2.2.length:Int)))<|
    za s2.2[s2.1.toNat]? fun y3=>
    za (qA fu y3.value) fun y4=>
    need (decide (0<=s2.1)&&decide (s2.1<(s2.2.length:Int)))<|
    za s2.2[s2.1.toNat]? fun y5=>
    some (LO.again (w64 (s2.1+1),List.set s2.2 s2.1.toNat (⟨y5.name,y4,y5.important⟩:zQ)))
   else
    some (LO.out s2.2):Int×List zQ->Option (LO (Int×List zQ) (List zQ) _)) (0,y1) fun o6=>
 some o6
def iE(fu:Nat)(x:List zm):Option (List zm):=
 bif x.isEmpty then
  both (
    some []) (
    need (zI 0 x.length 104)<|
    some x)
 else
  need (zI 0 x.length 104)<|
  some x
def Hw(fu:Nat)(x:List zm):Option (List zm):=need (zI 0 x.length 104) (some x)
theorem nU(fu:Nat)(x):Le (Hw fu x) (iE fu x):=by
 cases x with
 |nil=> intro y hy;show both (some []) (some [])=some y;unfold both;rw[Ma rfl];exact hy
 |cons a r=>exact .rfl
def Jw(fu:Nat)(ZP:zm->Option zm)(x:zm):Option zm:=
 za (qA fu x.decl.value) fun y1=>
 za (Hw fu x.list) fun y2=>
 zR fu (fun(s3:Int×List zm)=>
   bif decide (s3.1<(y2.length:Int))then
    need (decide (0<=s3.1)&&decide (s3.1<(s3.2.length:Int)))<|
    za s3.2[s3.1.toNat]? fun y4=>
    za (ZP (⟨y4.kind,y4.name,y4.num,y4.decl,y4.list⟩:zm)) fun y5=>
    need (decide (0<=s3.1)&&decide (s3.1<(s3.2.length:Int)))<|
    za s3.2[s3.1.toNat]? fun y6=>
    some (LO.again (w64 (s3.1+1),List.set s3.2 s3.1.toNat (⟨y5.kind,y5.name,y5.num,y5.decl,y5.list⟩:zm)))
   else
    some (LO.out s3.2):Int×List zm->Option (LO (Int×List zm) (List zm) _)) (0,y2) fun o7=>
 some (⟨x.kind,x.name,x.num,(⟨x.decl.name,y1,x.decl.important⟩:zQ),o7⟩:zm)
def ZP(fu:Nat):zm->Option zm:=QL (Jw fu) fu
def BG(fu:Nat)(x:List (List Str)):Option (List (List Str)):=
 bif x.isEmpty then
  both (
    some []) (
    need (zI 0 x.length 24)<|
    some x)
 else
  need (zI 0 x.length 24)<|
  some x
def Qt(fu:Nat)(x:List (List Str)):Option (List (List Str)):=need (zI 0 x.length 24) (some x)
theorem GX(fu:Nat)(x):Le (Qt fu x) (BG fu x):=by
 cases x with
 |nil=> intro y hy;show both (some []) (some [])=some y;unfold both;rw[Ma rfl];exact hy
 |cons a r=>exact .rfl
def eu(fu:Nat)(QG:List zA->Option (List zA))(x:List zA):Option (List zA):=
 za (Fw fu x) fun y1=>
 zR fu (fun(s2:Int×List zA)=>
   bif decide (s2.1<(y1.length:Int))then
    need (decide (0<=s2.1)&&decide (s2.1<(s2.2.length:Int)))<|
    za s2.2[s2.1.toNat]? fun y3=>
    za (ZQ fu y3.selectors) fun y4=>
    za s2.2[s2.1.toNat]? fun y5=>
    za (cB fu y5.decls) fun y6=>
    za s2.2[s2.1.toNat]? fun y7=>
    za (ZP fu (⟨y7.cond.kind,y7.cond.name,y7.cond.num,y7.cond.decl,y7.cond.list⟩:zm)) fun y8=>
    za s2.2[s2.1.toNat]? fun y9=>
    za (QG y9.rules) fun y10=>
    za s2.2[s2.1.toNat]? fun y11=>
    za (List.set s2.2 s2.1.toNat (⟨y11.kind,y4,y11.decls,(⟨y11.cond.kind,y11.cond.name,y11.cond.num,y11.cond.decl,y11.cond.list⟩:zm),y11.names,y11.rules⟩:zA))[s2.1.toNat]? fun y12=>
    za (List.set (List.set s2.2 s2.1.toNat (⟨y11.kind,y4,y11.decls,(⟨y11.cond.kind,y11.cond.name,y11.cond.num,y11.cond.decl,y11.cond.list⟩:zm),y11.names,y11.rules⟩:zA)) s2.1.toNat (⟨y12.kind,y12.selectors,y6,(⟨y12.cond.kind,y12.cond.name,y12.cond.num,y12.cond.decl,y12.cond.list⟩:zm),y12.names,y12.rules⟩:zA))[s2.1.toNat]? fun y13=>
    za (List.set (List.set (List.set s2.2 s2.1.toNat (⟨y11.kind,y4,y11.decls,(⟨y11.cond.kind,y11.cond.name,y11.cond.num,y11.cond.decl,y11.cond.list⟩:zm),y11.names,y11.rules⟩:zA)) s2.1.toNat (⟨y12.kind,y12.selectors,y6,(⟨y12.cond.kind,y12.cond.name,y12.cond.num,y12.cond.decl,y12.cond.list⟩:zm),y12.names,y12.rules⟩:zA)) s2.1.toNat (⟨y13.kind,y13.selectors,y13.decls,(⟨y8.kind,y8.name,y8.num,y8.decl,y8.list⟩:zm),y13.names,y13.rules⟩:zA))[s2.1.toNat]? fun y14=>
    za (List.set (List.set (List.set (List.set s2.2 s2.1.toNat (⟨y11.kind,y4,y11.decls,(⟨y11.cond.kind,y11.cond.name,y11.cond.num,y11.cond.decl,y11.cond.list⟩:zm),y11.names,y11.rules⟩:zA)) s2.1.toNat (⟨y12.kind,y12.selectors,y6,(⟨y12.cond.kind,y12.cond.name,y12.cond.num,y12.cond.decl,y12.cond.list⟩:zm),y12.names,y12.rules⟩:zA)) s2.1.toNat (⟨y13.kind,y13.selectors,y13.decls,(⟨y8.kind,y8.name,y8.num,y8.decl,y8.list⟩:zm),y13.names,y13.rules⟩:zA)) s2.1.toNat (⟨y14.kind,y14.selectors,y14.decls,(⟨y14.cond.kind,y14.cond.name,y14.cond.num,y14.cond.decl,y14.cond.list⟩:zm),y14.names,y10⟩:zA))[s2.1.toNat]? fun y15=>
    za (Qt fu y15.names) fun y16=>
    za (List.set (List.set (List.set (List.set s2.2 s2.1.toNat (⟨y11.kind,y4,y11.decls,(⟨y11.cond.kind,y11.cond.name,y11.cond.num,y11.cond.decl,y11.cond.list⟩:zm),y11.names,y11.rules⟩:zA)) s2.1.toNat (⟨y12.kind,y12.selectors,y6,(⟨y12.cond.kind,y12.cond.name,y12.cond.num,y12.cond.decl,y12.cond.list⟩:zm),y12.names,y12.rules⟩:zA)) s2.1.toNat (⟨y13.kind,y13.selectors,y13.decls,(⟨y8.kind,y8.name,y8.num,y8.decl,y8.list⟩:zm),y13.names,y13.rules⟩:zA)) s2.1.toNat (⟨y14.kind,y14.selectors,y14.decls,(⟨y14.cond.kind,y14.cond.name,y14.cond.num,y14.cond.decl,y14.cond.list⟩:zm),y14.names,y10⟩:zA))[s2.1.toNat]? fun y17=>
    need (Nat.beq s2.1.toNat (List.take s2.1.toNat (List.set (List.set (List.set (List.set s2.2 s2.1.toNat (⟨y11.kind,y4,y11.decls,(⟨y11.cond.kind,y11.cond.name,y11.cond.num,y11.cond.decl,y11.cond.list⟩:zm),y11.names,y11.rules⟩:zA)) s2.1.toNat (⟨y12.kind,y12.selectors,y6,(⟨y12.cond.kind,y12.cond.name,y12.cond.num,y12.cond.decl,y12.cond.list⟩:zm),y12.names,y12.rules⟩:zA)) s2.1.toNat (⟨y13.kind,y13.selectors,y13.decls,(⟨y8.kind,y8.name,y8.num,y8.decl,y8.list⟩:zm),y13.names,y13.rules⟩:zA)) s2.1.toNat (⟨y14.kind,y14.selectors,y14.decls,(⟨y14.cond.kind,y14.cond.name,y14.cond.num,y14.cond.decl,y14.cond.list⟩:zm),y14.names,y10⟩:zA))).length)<|
    zR fu (fun(s18:Int×List (List Str))=>
      bif decide (s18.1<(y16.length:Int))then
       need (Nat.beq s2.1.toNat (List.take s2.1.toNat (List.set (List.set (List.set (List.set s2.2 s2.1.toNat (⟨y11.kind,y4,y11.decls,(⟨y11.cond.kind,y11.cond.name,y11.cond.num,y11.cond.decl,y11.cond.list⟩:zm),y11.names,y11.rules⟩:zA)) s2.1.toNat (⟨y12.kind,y12.selectors,y6,(⟨y12.cond.kind,y12.cond.name,y12.cond.num,y12.cond.decl,y12.cond.list⟩:zm),y12.names,y12.rules⟩:zA)) s2.1.toNat (⟨y13.kind,y13.selectors,y13.decls,(⟨y8.kind,y8.name,y8.num,y8.decl,y8.list⟩:zm),y13.names,y13.rules⟩:zA)) s2.1.toNat (⟨y14.kind,y14.selectors,y14.decls,(⟨y14.cond.kind,y14.cond.name,y14.cond.num,y14.cond.decl,y14.cond.list⟩:zm),y14.names,y10⟩:zA))).length)<|
       need (Nat.beq s2.1.toNat (List.take s2.1.toNat (List.set (List.set (List.set (List.set s2.2 s2.1.toNat (⟨y11.kind,y4,y11.decls,(⟨y11.cond.kind,y11.cond.name,y11.cond.num,y11.cond.decl,y11.cond.list⟩:zm),y11.names,y11.rules⟩:zA)) s2.1.toNat (⟨y12.kind,y12.selectors,y6,(⟨y12.cond.kind,y12.cond.name,y12.cond.num,y12.cond.decl,y12.cond.list⟩:zm),y12.names,y12.rules⟩:zA)) s2.1.toNat (⟨y13.kind,y13.selectors,y13.decls,(⟨y8.kind,y8.name,y8.num,y8.decl,y8.list⟩:zm),y13.names,y13.rules⟩:zA)) s2.1.toNat (⟨y14.kind,y14.selectors,y14.decls,(⟨y14.cond.kind,y14.cond.name,y14.cond.num,y14.cond.decl,y14.cond.list⟩:zm),y14.names,y10⟩:zA))).length)<|
       need (decide (0<=s18.1)&&decide (s18.1<(s18.2.length:Int)))<|
       za s18.2[s18.1.toNat]? fun y19=>
       za (slices_Clone_string fu y19) fun y20=>
       need (decide (0<=s18.1)&&decide (s18.1<(s18.2.length:Int)))<|
       za s18.2[s18.1.toNat]? fun y21=>
       some (LO.again (w64 (s18.1+1),List.take s18.1.toNat s18.2++List.cons y20 (List.drop (s18.1.toNat+1) s18.2)))
      else
       some (LO.out s18.2):Int×List (List Str)->Option (LO (Int×List (List Str)) (List (List Str)) _)) (0,y16) fun o22=>
    some (LO.again (w64 (s2.1+1),List.take s2.1.toNat (List.set (List.set (List.set (List.set s2.2 s2.1.toNat (⟨y11.kind,y4,y11.decls,(⟨y11.cond.kind,y11.cond.name,y11.cond.num,y11.cond.decl,y11.cond.list⟩:zm),y11.names,y11.rules⟩:zA)) s2.1.toNat (⟨y12.kind,y12.selectors,y6,(⟨y12.cond.kind,y12.cond.name,y12.cond.num,y12.cond.decl,y12.cond.list⟩:zm),y12.names,y12.rules⟩:zA)) s2.1.toNat (⟨y13.kind,y13.selectors,y13.decls,(⟨y8.kind,y8.name,y8.num,y8.decl,y8.list⟩:zm),y13.names,y13.rules⟩:zA)) s2.1.toNat (⟨y14.kind,y14.selectors,y14.decls,(⟨y14.cond.kind,y14.cond.name,y14.cond.num,y14.cond.decl,y14.cond.list⟩:zm),y14.names,y10⟩:zA))++List.cons (⟨y17.kind,y17.selectors,y17.decls,(⟨y17.cond.kind,y17.cond.name,y17.cond.num,y17.cond.decl,y17.cond.list⟩:zm),o22,y17.rules⟩:zA) (List.drop (s2.1.toNat+1) (List.set (List.set (List.set (List.set s2.2 s2.1.toNat (⟨y11.kind,y4,y11.decls,(⟨y11.cond.kind,y11.cond.name,y11.cond.num,y11.cond.decl,y11.cond.list⟩:zm),y11.names,y11.rules⟩:zA)) s2.1.toNat (⟨y12.kind,y12.selectors,y6,(⟨y12.cond.kind,y12.cond.name,y12.cond.num,y12.cond.decl,y12.cond.list⟩:zm),y12.names,y12.rules⟩:zA)) s2.1.toNat (⟨y13.kind,y13.selectors,y13.decls,(⟨y8.kind,y8.name,y8.num,y8.decl,y8.list⟩:zm),y13.names,y13.rules⟩:zA)) s2.1.toNat (⟨y14.kind,y14.selectors,y14.decls,(⟨y14.cond.kind,y14.cond.name,y14.cond.num,y14.cond.decl,y14.cond.list⟩:zm),y14.names,y10⟩:zA)))))
   else
    some (LO.out s2.2):Int×List zA->Option (LO (Int×List zA) (List zA) _)) (0,y1) fun o23=>
 some o23
def QG(fu:Nat):List zA->Option (List zA):=QL (eu fu) fu
def OC(fu:Nat)(x:Zi×zA×Int):Option (Zi×Int):=
 za (og fu x.1) fun y1=>
 za (zH (!(y1 != 0)) (iD fu (⟨x.2.1.kind,x.2.1.selectors,x.2.1.decls,(⟨x.2.1.cond.kind,x.2.1.cond.name,x.2.1.cond.num,x.2.1.cond.decl,x.2.1.cond.list⟩:zm),x.2.1.names,x.2.1.rules⟩:zA)) (default:Int)) fun y2=>
 bif bif y1 != 0 then true else y2 != 0 then
  some ((⟨[]⟩:Zi),8)
 else
  bif bif decide (x.2.2<0)then true else decide (x.2.2>(x.1.rules.length:Int))then
   some ((⟨[]⟩:Zi),2)
  else
   need (decide (0<=w64 ((x.1.rules.length:Int)+1))&&decide (w64 ((x.1.rules.length:Int)+1)<=w64 ((x.1.rules.length:Int)+1))&&decide (w64 ((x.1.rules.length:Int)+1)*208<=140737488355328)&&decide (w64 ((x.1.rules.length:Int)+1)<=9223372036854775807))<|
   need (decide (0<=x.2.2)&&(decide (x.2.2<=x.2.2)&&decide (x.2.2<=(x.1.rules.length:Int)))&&decide (x.2.2=x.2.2))<|
   need (decide ((List.take x.2.2.toNat x.1.rules).length<=(List.replicate (Int.toNat (w64 ((x.1.rules.length:Int)+1))) (⟨0,[],[],(⟨0,[],0,(⟨[],[],false⟩:zQ),[]⟩:zm),[],[]⟩:zA)).length))<|
   need (decide (0<=x.2.2)&&decide (x.2.2<((List.take x.2.2.toNat x.1.rules++List.drop (List.take x.2.2.toNat x.1.rules).length (List.replicate (Int.toNat (w64 ((x.1.rules.length:Int)+1))) (⟨0,[],[],(⟨0,[],0,(⟨[],[],false⟩:zQ),[]⟩:zm),[],[]⟩:zA))).length:Int)))<|
   za (List.take x.2.2.toNat x.1.rules++List.drop (List.take x.2.2.toNat x.1.rules).length (List.replicate (Int.toNat (w64 ((x.1.rules.length:Int)+1))) (⟨0,[],[],(⟨0,[],0,(⟨[],[],false⟩:zQ),[]⟩:zm),[],[]⟩:zA)))[x.2.2.toNat]? fun y3=>
   need (decide (0<=w64 (x.2.2+1))&&decide (w64 (x.2.2+1)<=((List.set (List.take x.2.2.toNat x.1.rules++List.drop (List.take x.2.2.toNat x.1.rules).length (List.replicate (Int.toNat (w64 ((x.1.rules.length:Int)+1))) (⟨0,[],[],(⟨0,[],0,(⟨[],[],false⟩:zQ),[]⟩:zm),[],[]⟩:zA))) x.2.2.toNat (⟨x.2.1.kind,x.2.1.selectors,x.2.1.decls,(⟨x.2.1.cond.kind,x.2.1.cond.name,x.2.1.cond.num,x.2.1.cond.decl,x.2.1.cond.list⟩:zm),x.2.1.names,x.2.1.rules⟩:zA)).length:Int)))<|
   need (decide (0<=x.2.2)&&decide (x.2.2<=(x.1.rules.length:Int)))<|
   need (decide ((List.drop x.2.2.toNat x.1.rules).length<=(List.set (List.take x.2.2.toNat x.1.rules++List.drop (List.take x.2.2.toNat x.1.rules).length (List.replicate (Int.toNat (w64 ((x.1.rules.length:Int)+1))) (⟨0,[],[],(⟨0,[],0,(⟨[],[],false⟩:zQ),[]⟩:zm),[],[]⟩:zA))) x.2.2.toNat (⟨x.2.1.kind,x.2.1.selectors,x.2.1.decls,(⟨x.2.1.cond.kind,x.2.1.cond.name,x.2.1.cond.num,x.2.1.cond.decl,x.2.1.cond.list⟩:zm),x.2.1.names,x.2.1.rules⟩:zA)).length - (w64 (x.2.2+1)).toNat)&&decide ((w64 (x.2.2+1)).toNat+((List.set (List.take x.2.2.toNat x.1.rules++List.drop (List.take x.2.2.toNat x.1.rules).length (List.replicate (Int.toNat (w64 ((x.1.rules.length:Int)+1))) (⟨0,[],[],(⟨0,[],0,(⟨[],[],false⟩:zQ),[]⟩:zm),[],[]⟩:zA))) x.2.2.toNat (⟨x.2.1.kind,x.2.1.selectors,x.2.1.decls,(⟨x.2.1.cond.kind,x.2.1.cond.name,x.2.1.cond.num,x.2.1.cond.decl,x.2.1.cond.list⟩:zm),x.2.1.names,x.2.1.rules⟩:zA)).length - (w64 (x.2.2+1)).toNat)<=(List.set (List.take x.2.2.toNat x.1.rules++List.drop (List.take x.2.2.toNat x.1.rules).length (List.replicate (Int.toNat (w64 ((x.1.rules.length:Int)+1))) (⟨0,[],[],(⟨0,[],0,(⟨[],[],false⟩:zQ),[]⟩:zm),[],[]⟩:zA))) x.2.2.toNat (⟨x.2.1.kind,x.2.1.selectors,x.2.1.decls,(⟨x.2.1.cond.kind,x.2.1.cond.name,x.2.1.cond.num,x.2.1.cond.decl,x.2.1.cond.list⟩:zm),x.2.1.names,x.2.1.rules⟩:zA)).length))<|
   za (og fu (⟨List.take (w64 (x.2.2+1)).toNat (List.set (List.take x.2.2.toNat x.1.rules++List.drop (List.take x.2.2.toNat x.1.rules).length (List.replicate (Int.toNat (w64 ((x.1.rules.length:Int)+1))) (⟨0,[],[],(⟨0,[],0,(⟨[],[],false⟩:zQ),[]⟩:zm),[],[]⟩:zA))) x.2.2.toNat (⟨x.2.1.kind,x.2.1.selectors,x.2.1.decls,(⟨x.2.1.cond.kind,x.2.1.cond.name,x.2.1.cond.num,x.2.1.cond.decl,x.2.1.cond.list⟩:zm),x.2.1.names,x.2.1.rules⟩:zA))++List.drop x.2.2.toNat x.1.rules++List.drop ((w64 (x.2.2+1)).toNat+(List.drop x.2.2.toNat x.1.rules).length) (List.set (List.take x.2.2.toNat x.1.rules++List.drop (List.take x.2.2.toNat x.1.rules).length (List.replicate (Int.toNat (w64 ((x.1.rules.length:Int)+1))) (⟨0,[],[],(⟨0,[],0,(⟨[],[],false⟩:zQ),[]⟩:zm),[],[]⟩:zA))) x.2.2.toNat (⟨x.2.1.kind,x.2.1.selectors,x.2.1.decls,(⟨x.2.1.cond.kind,x.2.1.cond.name,x.2.1.cond.num,x.2.1.cond.decl,x.2.1.cond.list⟩:zm),x.2.1.names,x.2.1.rules⟩:zA))⟩:Zi)) fun y4=>
   bif y4 != 0 then
    some ((⟨[]⟩:Zi),18)
   else
    za (QG fu (List.take (w64 (x.2.2+1)).toNat (List.set (List.take x.2.2.toNat x.1.rules++List.drop (List.take x.2.2.toNat x.1.rules).length (List.replicate (Int.toNat (w64 ((x.1.rules.length:Int)+1))) (⟨0,[],[],(⟨0,[],0,(⟨[],[],false⟩:zQ),[]⟩:zm),[],[]⟩:zA))) x.2.2.toNat (⟨x.2.1.kind,x.2.1.selectors,x.2.1.decls,(⟨x.2.1.cond.kind,x.2.1.cond.name,x.2.1.cond.num,x.2.1.cond.decl,x.2.1.cond.list⟩:zm),x.2.1.names,x.2.1.rules⟩:zA))++List.drop x.2.2.toNat x.1.rules++List.drop ((w64 (x.2.2+1)).toNat+(List.drop x.2.2.toNat x.1.rules).length) (List.set (List.take x.2.2.toNat x.1.rules++List.drop (List.take x.2.2.toNat x.1.rules).length (List.replicate (Int.toNat (w64 ((x.1.rules.length:Int)+1))) (⟨0,[],[],(⟨0,[],0,(⟨[],[],false⟩:zQ),[]⟩:zm),[],[]⟩:zA))) x.2.2.toNat (⟨x.2.1.kind,x.2.1.selectors,x.2.1.decls,(⟨x.2.1.cond.kind,x.2.1.cond.name,x.2.1.cond.num,x.2.1.cond.decl,x.2.1.cond.list⟩:zm),x.2.1.names,x.2.1.rules⟩:zA)))) fun y5=>
    some ((⟨y5⟩:Zi),0)
def gB(fu:Nat)(x:zZ):Option (Int×List qE):=
 zR fu (fun(s1:Int×List qE)=>
   bif decide (s1.1<(x.sheets.length:Int))then
    za (geti x.sheets s1.1) fun y2=>
    za (Zy fu y2.sheet.rules) fun y3=>
    need (zI s1.2.length 1 56)<|
    some (LO.again (w64 (s1.1+1),s1.2++[(⟨y2.number,y2.origin,y2.site,(⟨y3⟩:Zi)⟩:qE)]))
   else
    some (LO.out s1.2):Int×List qE->Option (LO (Int×List qE) (List qE) _)) (0,[]) fun o4=>
 some (x.next,o4)
def Gj(fu:Nat)(x:zZ×Int×Zi):Option (zZ×Int):=
 za (Tq fu (x.1,x.2.1)) fun y1=>
 bif y1.2 != 0 then
  some ((⟨[],0⟩:zZ),y1.2)
 else
  za (og fu x.2.2) fun y2=>
  bif y2 != 0 then
   some ((⟨[],0⟩:zZ),y2)
  else
   za (gB fu x.1) fun y3=>
   za (Zy fu x.2.2.rules) fun y4=>
   need (decide (0<=y1.1)&&decide (y1.1<(y3.2.length:Int)))<|
   za y3.2[y1.1.toNat]? fun y5=>
   some ((⟨List.set y3.2 y1.1.toNat (⟨y5.number,y5.origin,y5.site,(⟨y4⟩:Zi)⟩:qE),y3.1⟩:zZ),0)
def ZN(fu:Nat)(x:zZ×Str×Int×Int×Str):Option (zZ×Int):=
 za (Pm fu (x.1,x.2.1,x.2.2.1)) fun y1=>
 bif y1.2 != 0 then
  some ((⟨[],0⟩:zZ),y1.2)
 else
  bif bif decide (x.2.2.2.1<0)then true else decide (x.2.2.2.1>(y1.1.rules.length:Int))then
   some ((⟨[],0⟩:zZ),2)
  else
   za (xu fu x.2.2.2.2) fun y2=>
   bif y2.2 != 0 then
    some ((⟨[],0⟩:zZ),y2.2)
   else
    za (OC fu (y1.1,(⟨y2.1.kind,y2.1.selectors,y2.1.decls,(⟨y2.1.cond.kind,y2.1.cond.name,y2.1.cond.num,y2.1.cond.decl,y2.1.cond.list⟩:zm),y2.1.names,y2.1.rules⟩:zA),x.2.2.2.1)) fun y3=>
    bif y3.2 != 0 then
     some ((⟨[],0⟩:zZ),y3.2)
    else
     za (Gj fu (x.1,x.2.2.1,y3.1)) fun y4=>
     some (y4.1,y4.2)
def SC(fu:Nat)(x:Zi×Int):Option (Zi×Int):=
 za (og fu x.1) fun y1=>
 bif y1 != 0 then
  some ((⟨[]⟩:Zi),y1)
 else
  bif bif decide (x.2<0)then true else decide (x.2>=(x.1.rules.length:Int))then
   some ((⟨[]⟩:Zi),2)
  else
   need (decide (0<=x.2)&&(decide (x.2<=x.2)&&decide (x.2<=(x.1.rules.length:Int)))&&decide (x.2=x.2))<|
   need (decide (0<=w64 (x.2+1))&&decide (w64 (x.2+1)<=(x.1.rules.length:Int)))<|
   need (zI (List.take x.2.toNat x.1.rules).length (List.drop (w64 (x.2+1)).toNat x.1.rules).length 208)<|
   za (QG fu (List.take x.2.toNat x.1.rules++List.drop (w64 (x.2+1)).toNat x.1.rules)) fun y2=>
   some ((⟨y2⟩:Zi),0)
def Gi(fu:Nat)(x:zZ×Str×Int×Int):Option (zZ×Int):=
 za (Pm fu (x.1,x.2.1,x.2.2.1)) fun y1=>
 bif y1.2 != 0 then
  some ((⟨[],0⟩:zZ),y1.2)
 else
  za (SC fu (y1.1,x.2.2.2)) fun y2=>
  bif y2.2 != 0 then
   some ((⟨[],0⟩:zZ),y2.2)
  else
   za (Gj fu (x.1,x.2.2.1,y2.1)) fun y3=>
   some (y3.1,y3.2)
def jA(fu:Nat)(x:Unit):Option zA:=
 zR fu (fun(s1:Int×(List zB×Str×List zB)×List zy)=>
   bif decide (s1.1<50)then
    need (decide (0<((s1.2.1.1.length+1+s1.2.1.2.2.length:Nat):Int)))<|
    need (Nat.beq 0 s1.2.1.1.length)<|
    need (zI s1.2.2.length 1 104)<|
    need (decide (0<((s1.2.1.1.length+1+s1.2.1.2.2.length:Nat):Int)))<|
    need (Nat.beq 0 s1.2.1.1.length)<|
    some (LO.again (w64 (s1.1+1),(s1.2.1.1,s1.2.1.2.1,s1.2.1.2.2),s1.2.2++[(⟨2,[97,98,99,100,101,102,103,104,105,106,107,108,109,110,111,112,113,114,115,116,117,118,119,120,121,122,97,98,99,100,101,102,103,104,105,106,107,108,109,110,111,112,113,114,115,116,117,118,119,120,121,122,97,98,99,100,101,102,103,104,105,106,107,108],0,[],false,(⟨0,0⟩:VAnb),false,[]⟩:zy)]))
   else
    some (LO.out ((s1.2.1.1,s1.2.1.2.1,s1.2.1.2.2),s1.2.2)):Int×(List zB×Str×List zB)×List zy->Option (LO (Int×(List zB×Str×List zB)×List zy) ((List zB×Str×List zB)×List zy) _)) (0,([],[],[]),[]) fun o2=>
 some (⟨1,[(⟨0,o2.1.1++List.cons (⟨o2.1.2.1,o2.2⟩:zB) o2.1.2.2,[]⟩:zh)],[],(⟨0,[],0,(⟨[],[],false⟩:zQ),[]⟩:zm),[],[]⟩:zA)
def zD(x:Str×List UInt8):Option (Int×List UInt8):=
 za (copyV x.2) fun y1=>
 need (zI x.2.length x.1.length 1)<|
 some ((x.1.length:Int),x.2++x.1)
def Za(x:Int×List UInt8):Option (List UInt8):=
 za (copyV x.2) fun y1=>
 za (qK x.1) fun y2=>
 need (zI x.2.length 1 1)<|
 some (x.2++[y2])
def ql(x:Str):Option Int:=
 za (strings_HasPrefix (x,[45])) fun y1=>
 bif y1 then
  some 2
 else
  some 1
def ZY(x:Int×List UInt8):Option (List UInt8):=
 za (zH (bif decide (x.1>32)then decide (x.1<127)else false) (Bi x.1) (default:Bool)) fun y1=>
 za (zH (bif bif decide (x.1>32)then decide (x.1<127)else false then !y1 else false) (Su x.1) (default:Bool)) fun y2=>
 bif bif bif bif decide (x.1>32)then decide (x.1<127)else false then !y1 else false then !y2 else false then
  za (qK x.1) fun y3=>
  need (zI x.2.length 2 1)<|
  some (x.2++[(92:UInt8),y3])
 else
  need (zI x.2.length 1 1)<|
  za (Dr ((wu64 x.1,16),x.2++[(92:UInt8)])) fun y4=>
  need (zI y4.length 1 1)<|
  some (y4++[(32:UInt8)])
def gm(fu:Nat)(x:Str×Int):Option (List UInt8):=
 zR fu (fun(s1:Int×List UInt8)=>
   bif decide (s1.1<(x.1.length:Int))then
    zU (X:=Int×List UInt8) (
      za (geti x.1 s1.1) fun y2=>
      za (Mm (y2.toNat:Int)) fun y3=>
      za (zH (!(decide (s1.1>=x.2))&&y3) (Bi (y2.toNat:Int)) (default:Bool)) fun y4=>
      bif bif bif y3 then bif decide (s1.1>=x.2)then true else !y4 else false then bif x.2==0 then true else !(x.1==[45])else false then
       za (qK (y2.toNat:Int)) fun y5=>
       need (zI s1.2.length 1 1)<|
       some (LX.out (s1.1,s1.2++[y5]))
      else
       za (ZY ((y2.toNat:Int),s1.2)) fun y6=>
       some (LX.out (s1.1,y6))) fun j7=>
    some (LO.again (w64 (j7.1+1),j7.2))
   else
    some (LO.out s1.2):Int×List UInt8->Option (LO (Int×List UInt8) (List UInt8) _)) (0,[]) fun o8=>
 some o8
def Z9(fu:Nat)(x:(Str×Int)×List UInt8):Option (List UInt8):=
 zR fu (fun(s1:Int×List UInt8)=>
   bif decide (s1.1<(x.1.1.length:Int))then
    zU (X:=Int×List UInt8) (
      za (geti x.1.1 s1.1) fun y2=>
      za (Mm (y2.toNat:Int)) fun y3=>
      za (zH (!(decide (s1.1>=x.1.2))&&y3) (Bi (y2.toNat:Int)) (default:Bool)) fun y4=>
      bif bif bif y3 then bif decide (s1.1>=x.1.2)then true else !y4 else false then bif x.1.2==0 then true else !(x.1.1==[45])else false then
       za (qK (y2.toNat:Int)) fun y5=>
       need (zI s1.2.length 1 1)<|
       some (LX.out (s1.1,s1.2++[y5]))
      else
       za (ZY ((y2.toNat:Int),s1.2)) fun y6=>
       some (LX.out (s1.1,y6))) fun j7=>
    some (LO.again (w64 (j7.1+1),j7.2))
   else
    some (LO.out s1.2):Int×List UInt8->Option (LO (Int×List UInt8) (List UInt8) _)) (0,x.2) fun o8=>
 some o8
def Rn(x:Int×Bool):Option (List UInt8):=
 zU (X:=Int×List UInt8) (
   bif decide (x.1<0)then
    need (zI 0 1 1)<|
    some (LX.out (w64 (0 - x.1),[(45:UInt8)]))
   else
    some (LX.out (x.1,[]))) fun j1=>
 za (il ((w64 (Int.tdiv j1.1 1000),10),j1.2)) fun y2=>
 za (Ph (w64 (1000+Int.tmod j1.1 1000),10)) fun y3=>
 need (decide (1<=(y3.length:Int)))<|
 za (Eh (List.drop 1 y3,[48])) fun y4=>
 zU (X:=List UInt8) (
   bif !(y4==[])then
    need (zI y2.length 1 1)<|
    need (zI (y2++[(46:UInt8)]).length y4.length 1)<|
    some (LX.out (y2++[(46:UInt8)]++y4))
   else
    bif x.2 then
     need (zI y2.length ([46,48]:Str).length 1)<|
     some (LX.out (y2++([46,48]:Str)))
    else
     some (LX.out y2)) fun j5=>
 some j5
def Ht(x:Unit):Option qX:=
 some (⟨[32],[60,33,45,45],[45,45,62],[58],[59],[44],[91],[93],[40],[41],[123],[125]⟩:qX)
def NB(fu:Nat)(x:zt):Option (List UInt8):=
 bif x.kind==1 then
  za (ql x.text) fun y1=>
  za (gm fu (x.text,y1)) fun y2=>
  some y2
 else
  bif x.kind==2 then
   za (ql x.text) fun y3=>
   za (gm fu (x.text,y3)) fun y4=>
   need (zI y4.length 1 1)<|
   some (y4++[(40:UInt8)])
  else
   bif x.kind==3 then
    need (zI 0 1 1)<|
    za (ql x.text) fun y5=>
    za (Z9 fu ((x.text,y5),[(64:UInt8)])) fun y6=>
    some y6
   else
    bif x.kind==4 then
     zU (X:=Int) (
       bif x.flag then
        za (ql x.text) fun y7=>
        some (LX.out y7)
       else
        some (LX.out 0)) fun j8=>
     need (zI 0 1 1)<|
     za (Z9 fu ((x.text,j8),[(35:UInt8)])) fun y9=>
     some y9
    else
     bif x.kind==5 then
      need (zI 0 1 1)<|
      need (decide (x.text.length<=maxLen))<|
      zR fu (fun(s10:Int×List UInt8)=>
        bif decide (s10.1<(x.text.length:Int))then
         zU (X:=Int×List UInt8) (
           need (decide (0<=s10.1)&&decide (s10.1<(x.text.length:Int)))<|
           za x.text[s10.1.toNat]? fun y11=>
           za (strings_IndexByte ([10,12,13,34,92],(y11.toNat:Int))) fun y12=>
           bif decide (y12>=0)then
            za (ZY ((y11.toNat:Int),s10.2)) fun y13=>
            some (LX.out (s10.1,y13))
           else
            za (qK (y11.toNat:Int)) fun y14=>
            need (zI s10.2.length 1 1)<|
            some (LX.out (s10.1,s10.2++[y14]))) fun j15=>
         some (LO.again (w64 (j15.1+1),j15.2))
        else
         some (LO.out s10.2):Int×List UInt8->Option (LO (Int×List UInt8) (List UInt8) _)) (0,[(34:UInt8)]) fun o16=>
      need (zI o16.length 1 1)<|
      some (o16++[(34:UInt8)])
     else
      bif x.kind==7 then
       need (zI 0 ([117,114,108,40]:Str).length 1)<|
       need (decide (x.text.length<=maxLen))<|
       zR fu (fun(s17:Int×List UInt8)=>
         bif decide (s17.1<(x.text.length:Int))then
          zU (X:=Int×List UInt8) (
            need (decide (0<=s17.1)&&decide (s17.1<(x.text.length:Int)))<|
            za x.text[s17.1.toNat]? fun y18=>
            za (zH (!(decide ((y18.toNat:Int)<=32))) (strings_IndexByte ([34,39,40,41,92,127],(y18.toNat:Int))) (default:Int)) fun y19=>
            bif bif decide ((y18.toNat:Int)<=32)then true else decide (y19>=0)then
             za (ZY ((y18.toNat:Int),s17.2)) fun y20=>
             some (LX.out (s17.1,y20))
            else
             za (qK (y18.toNat:Int)) fun y21=>
             need (zI s17.2.length 1 1)<|
             some (LX.out (s17.1,s17.2++[y21]))) fun j22=>
          some (LO.again (w64 (j22.1+1),j22.2))
         else
          some (LO.out s17.2):Int×List UInt8->Option (LO (Int×List UInt8) (List UInt8) _)) (0,([117,114,108,40]:Str)) fun o23=>
       need (zI o23.length 1 1)<|
       some (o23++[(41:UInt8)])
      else
       bif x.kind==9 then
        need (zI 0 x.text.length 1)<|
        some x.text
       else
        bif x.kind==10 then
         za (Rn (x.num, !x.flag)) fun y24=>
         some y24
        else
         bif x.kind==11 then
          za (Rn (x.num,false)) fun y25=>
          need (zI y25.length 1 1)<|
          some (y25++[(37:UInt8)])
         else
          bif x.kind==12 then
           za (Rn (x.num, !x.flag)) fun y26=>
           za (geti x.unit 0) fun y27=>
           need (decide (1<=(x.unit.length:Int))|| !(ibOr IntKind.u8 (y27.toNat:Int) 32==101))<|
           za (zH (ibOr IntKind.u8 (y27.toNat:Int) 32==101) (wm (List.drop 1 x.unit)) (default:Bool)) fun y28=>
           need (decide (1<=(x.unit.length:Int))|| !(bif ibOr IntKind.u8 (y27.toNat:Int) 32==101 then y28 else false))<|
           za (zH (bif ibOr IntKind.u8 (y27.toNat:Int) 32==101 then y28 else false) (strings_HasPrefix (List.drop 1 x.unit,[45,45])) (default:Bool)) fun y29=>
           bif bif bif ibOr IntKind.u8 (y27.toNat:Int) 32==101 then y28 else false then !y29 else false then
            za (geti x.unit 0) fun y30=>
            za (ZY ((y30.toNat:Int),y26)) fun y31=>
            need (decide (1<=(x.unit.length:Int)))<|
            za (Z9 fu ((List.drop 1 x.unit,0),y31)) fun y32=>
            some y32
           else
            za (ql x.unit) fun y33=>
            za (Z9 fu ((x.unit,y33),y26)) fun y34=>
            some y34
          else
           za (Ht ()) fun y35=>
           za (geti [y35.e0,y35.e1,y35.e2,y35.e3,y35.e4,y35.e5,y35.e6,y35.e7,y35.e8,y35.e9,y35.e10,y35.e11] (wu8 (x.kind - 13))) fun y36=>
           need (zI 0 y36.length 1)<|
           some y36
def wy(fu:Nat)(x:zt):Option (Str×Int):=
 za (Mr x) fun y1=>
 bif !y1 then
  some ([],8)
 else
  za (NB fu x) fun y2=>
  some (y2,0)
def Zv(fu:Nat)(x:zt×List UInt8):Option (List UInt8):=
 za (wy fu x.1) fun y1=>
 za (zD (y1.1,x.2)) fun y2=>
 some y2.2
def stringslite_HasSuffix(x:Str×Str):Option Bool:=
 need (decide (0<=w64 ((x.1.length:Int) - (x.2.length:Int)))&&decide (w64 ((x.1.length:Int) - (x.2.length:Int))<=(x.1.length:Int))|| !(decide ((x.1.length:Int)>=(x.2.length:Int))))<|
 some (bif decide ((x.1.length:Int)>=(x.2.length:Int))then List.drop (w64 ((x.1.length:Int) - (x.2.length:Int))).toNat x.1==x.2 else false)
def stringslite_TrimSuffix(x:Str×Str):Option Str:=
 za (stringslite_HasSuffix (x.1,x.2)) fun y1=>
 bif y1 then
  need (decide (0<=w64 ((x.1.length:Int) - (x.2.length:Int)))&&decide (w64 ((x.1.length:Int) - (x.2.length:Int))<=(x.1.length:Int)))<|
  some (List.take (w64 ((x.1.length:Int) - (x.2.length:Int))).toNat x.1)
 else
  some x.1
def strings_TrimSuffix(x:Str×Str):Option Str:=
 za (stringslite_TrimSuffix (x.1,x.2)) fun y1=>
 some y1
def Sz(x:VAnb):Option (Str×Int):=
 za (Ns x) fun y1=>
 bif y1 != 0 then
  some ([],y1)
 else
  za (Ph (x.b,10)) fun y2=>
  bif x.a==0 then
   some (y2,0)
  else
   za (Ph (x.a,10)) fun y3=>
   zU (X:=Str) (
     bif bif x.a==1 then true else x.a==(-1)then
      za (strings_TrimSuffix (y3,[49])) fun y4=>
      some (LX.out y4)
     else
      some (LX.out y3)) fun j5=>
   need (Yc j5.length ([110]:Str).length)<|
   zU (X:=Str) (
     bif decide (x.b>0)then
      need (Yc ([43]:Str).length y2.length)<|
      need (Yc (j5++([110]:Str)).length (([43]:Str)++y2).length)<|
      some (LX.out (j5++([110]:Str)++(([43]:Str)++y2)))
     else
      bif decide (x.b<0)then
       need (Yc (j5++([110]:Str)).length y2.length)<|
       some (LX.out (j5++([110]:Str)++y2))
      else
       some (LX.out (j5++([110]:Str)))) fun j6=>
   some (j6,0)
def aF(fu:Nat)(zO:zy×List UInt8->Option (List UInt8))(x:List zh×List UInt8):Option (List UInt8):=
 zR fu (fun(s1:Int×List UInt8)=>
   bif decide (s1.1<(x.1.length:Int))then
    za (geti x.1 s1.1) fun y2=>
    zU (X:=List UInt8) (
      bif decide (s1.1>0)then
       za (zD ([44,32],s1.2)) fun y3=>
       some (LX.out y3.2)
      else
       some (LX.out s1.2)) fun j4=>
    zU (X:=List UInt8) (
      bif decide (y2.lead>1)then
       need (decide (0<=y2.lead)&&decide (y2.lead<5))<|
       za ([[],[32],[32,62,32],[32,43,32],[32,126,32]]:List Str)[0+y2.lead.toNat*1]? fun y5=>
       need (decide (1<=(y5.length:Int)))<|
       za (zD (List.drop 1 y5,j4)) fun y6=>
       some (LX.out y6.2)
      else
       some (LX.out j4)) fun j7=>
    zR fu (fun(s8:Int×List UInt8)=>
      bif decide (s8.1<(y2.parts.length:Int))then
       za (geti y2.parts s8.1) fun y9=>
       zU (X:=List UInt8) (
         bif decide (s8.1>0)then
          za (geti y2.combs (w64 (s8.1 - 1))) fun y10=>
          need (decide (0<=(y10.toNat:Int))&&decide ((y10.toNat:Int)<5))<|
          za ([[],[32],[32,62,32],[32,43,32],[32,126,32]]:List Str)[0+y10.toNat*1]? fun y11=>
          za (zD (y11,s8.2)) fun y12=>
          some (LX.out y12.2)
         else
          some (LX.out s8.2)) fun j13=>
       zU (X:=List UInt8) (
         bif y9.tag==[]then
          some (LX.out j13)
         else
          bif y9.tag==[42]then
           za (Za (42,j13)) fun y14=>
           some (LX.out y14)
          else
           za (Zv fu ((⟨1,y9.tag,0,[],false⟩:zt),j13)) fun y15=>
           some (LX.out y15)) fun j16=>
       zR fu (fun(s17:Int×List UInt8)=>
         bif decide (s17.1<(y9.simples.length:Int))then
          za (geti y9.simples s17.1) fun y18=>
          za (zO ((⟨y18.kind,y18.name,y18.op,y18.value,y18.fold,y18.anb,y18.of_,y18.list⟩:zy),s17.2)) fun y19=>
          some (LO.again (w64 (s17.1+1),y19))
         else
          some (LO.out s17.2):Int×List UInt8->Option (LO (Int×List UInt8) (List UInt8) _)) (0,j16) fun o20=>
       some (LO.again (w64 (s8.1+1),o20))
      else
       some (LO.out s8.2):Int×List UInt8->Option (LO (Int×List UInt8) (List UInt8) _)) (0,j7) fun o21=>
    some (LO.again (w64 (s1.1+1),o21))
   else
    some (LO.out s1.2):Int×List UInt8->Option (LO (Int×List UInt8) (List UInt8) _)) (0,x.2) fun o22=>
 some o22
def qQ(fu:Nat)(zO:zy×List UInt8->Option (List UInt8))(x:zy×List UInt8):Option (List UInt8):=
 bif x.1.kind==1 then
  za (Zv fu ((⟨4,x.1.name,0,[],true⟩:zt),x.2)) fun y1=>
  some y1
 else
  bif x.1.kind==2 then
   za (Za (46,x.2)) fun y2=>
   za (Zv fu ((⟨1,x.1.name,0,[],false⟩:zt),y2)) fun y3=>
   some y3
  else
   bif x.1.kind==3 then
    za (Za (91,x.2)) fun y4=>
    za (Zv fu ((⟨1,x.1.name,0,[],false⟩:zt),y4)) fun y5=>
    zU (X:=List UInt8) (
      bif x.1.op != 0 then
       za (geti [([]:Str),([61]:Str),([126,61]:Str),([124,61]:Str),([94,61]:Str),([36,61]:Str),([42,61]:Str)] x.1.op) fun y6=>
       za (zD (y6,y5)) fun y7=>
       za (Zv fu ((⟨5,x.1.value,0,[],false⟩:zt),y7.2)) fun y8=>
       some (LX.out y8)
      else
       some (LX.out y5)) fun j9=>
    zU (X:=List UInt8) (
      bif x.1.fold then
       za (zD ([32,105],j9)) fun y10=>
       some (LX.out y10.2)
      else
       some (LX.out j9)) fun j11=>
    za (Za (93,j11)) fun y12=>
    some y12
   else
    bif bif bif !x.1.of_ then x.1.anb.a==0&&(x.1.anb.b==1&&true)else false then decide (x.1.kind<=10)else false then
     za (geti [([58,102,105,114,115,116,45,99,104,105,108,100]:Str),([58,108,97,115,116,45,99,104,105,108,100]:Str)] (wu8 (x.1.kind - 9))) fun y13=>
     za (zD (y13,x.2)) fun y14=>
     some y14.2
    else
     za (Jn ()) fun y15=>
     za (geti y15 (wu8 (x.1.kind - 4))) fun y16=>
     need (Yc ([58]:Str).length y16.length)<|
     za (zD (([58]:Str)++y16,x.2)) fun y17=>
     bif decide (x.1.kind<=8)then
      some y17.2
     else
      za (Za (40,y17.2)) fun y18=>
      zU (X:=List UInt8) (
        bif decide (x.1.kind<=10)then
         za (Sz x.1.anb) fun y19=>
         za (zD (y19.1,y18)) fun y20=>
         bif x.1.of_ then
          za (zD ([32,111,102,32],y20.2)) fun y21=>
          some (LX.out y21.2)
         else
          some (LX.out y20.2)
        else
         some (LX.out y18)) fun j22=>
      za (aF fu zO (x.1.list,j22)) fun y23=>
      za (Za (41,y23)) fun y24=>
      some y24
def zO(fu:Nat):zy×List UInt8->Option (List UInt8):=QL (qQ fu) fu
def JF(fu:Nat)(x:List zh):Option (List UInt8):=
 zR fu (fun(s1:Int×List UInt8)=>
   bif decide (s1.1<(x.length:Int))then
    za (geti x s1.1) fun y2=>
    zU (X:=List UInt8) (
      bif decide (s1.1>0)then
       za (zD ([44,32],s1.2)) fun y3=>
       some (LX.out y3.2)
      else
       some (LX.out s1.2)) fun j4=>
    zU (X:=List UInt8) (
      bif decide (y2.lead>1)then
       need (decide (0<=y2.lead)&&decide (y2.lead<5))<|
       za ([[],[32],[32,62,32],[32,43,32],[32,126,32]]:List Str)[0+y2.lead.toNat*1]? fun y5=>
       need (decide (1<=(y5.length:Int)))<|
       za (zD (List.drop 1 y5,j4)) fun y6=>
       some (LX.out y6.2)
      else
       some (LX.out j4)) fun j7=>
    zR fu (fun(s8:Int×List UInt8)=>
      bif decide (s8.1<(y2.parts.length:Int))then
       za (geti y2.parts s8.1) fun y9=>
       zU (X:=List UInt8) (
         bif decide (s8.1>0)then
          za (geti y2.combs (w64 (s8.1 - 1))) fun y10=>
          need (decide (0<=(y10.toNat:Int))&&decide ((y10.toNat:Int)<5))<|
          za ([[],[32],[32,62,32],[32,43,32],[32,126,32]]:List Str)[0+y10.toNat*1]? fun y11=>
          za (zD (y11,s8.2)) fun y12=>
          some (LX.out y12.2)
         else
          some (LX.out s8.2)) fun j13=>
       zU (X:=List UInt8) (
         bif y9.tag==[]then
          some (LX.out j13)
         else
          bif y9.tag==[42]then
           za (Za (42,j13)) fun y14=>
           some (LX.out y14)
          else
           za (Zv fu ((⟨1,y9.tag,0,[],false⟩:zt),j13)) fun y15=>
           some (LX.out y15)) fun j16=>
       zR fu (fun(s17:Int×List UInt8)=>
         bif decide (s17.1<(y9.simples.length:Int))then
          za (geti y9.simples s17.1) fun y18=>
          za (zO fu ((⟨y18.kind,y18.name,y18.op,y18.value,y18.fold,y18.anb,y18.of_,y18.list⟩:zy),s17.2)) fun y19=>
          some (LO.again (w64 (s17.1+1),y19))
         else
          some (LO.out s17.2):Int×List UInt8->Option (LO (Int×List UInt8) (List UInt8) _)) (0,j16) fun o20=>
       some (LO.again (w64 (s8.1+1),o20))
      else
       some (LO.out s8.2):Int×List UInt8->Option (LO (Int×List UInt8) (List UInt8) _)) (0,j7) fun o21=>
    some (LO.again (w64 (s1.1+1),o21))
   else
    some (LO.out s1.2):Int×List UInt8->Option (LO (Int×List UInt8) (List UInt8) _)) (0,[]) fun o22=>
 some o22
def bE(x:List UInt8):Option Int:=
 some (x.length:Int)
def cu(fu:Nat)(x:List zh):Option (Str×Int):=
 za (Fv fu x) fun y1=>
 bif y1 != 0 then
  some ([],y1)
 else
  za (JF fu x) fun y2=>
  za (bE y2) fun y3=>
  bif decide (y3>4000)then
   some ([],28)
  else
   za (strV y2) fun y4=>
   some (y4,0)
def SF(x:Bool):Option Int:=
 some 0
def qV(x:Str×Bool):Option (Int×Bool×List UInt8):=
 za (Np x.2) fun y1=>
 need (zI 0 x.1.length 1)<|
 some ((x.1.length:Int),y1,x.1)
def EE(x:(Str×Int)×Bool):Option (Bool×List UInt8):=
 za (zH (!(bif x.2 then true else x.1.2 != 0)) (SF x.2) (default:Int)) fun y1=>
 bif !(bif bif x.2 then true else x.1.2 != 0 then true else decide (y1>400000))then
  za (qV (x.1.1,bif bif x.2 then true else x.1.2 != 0 then true else decide (y1>400000))) fun y2=>
  some (y2.2.1,y2.2.2)
 else
  some (bif bif x.2 then true else x.1.2 != 0 then true else decide (y1>400000),[])
def Qx(x:Bool×List UInt8):Option Int:=
 some (x.2.length:Int)
def qW(x:Str×Bool×List UInt8):Option (Int×Bool×List UInt8):=
 za (dn (x.2.1,x.2.2)) fun y1=>
 need (zI x.2.2.length x.1.length 1)<|
 some ((x.1.length:Int),y1,x.2.2++x.1)
def zC(x:(Str×Int)×Bool×List UInt8):Option (Bool×List UInt8):=
 za (zH (!(bif x.2.1 then true else x.1.2 != 0)) (Qx (x.2.1,x.2.2)) (default:Int)) fun y1=>
 bif !(bif bif x.2.1 then true else x.1.2 != 0 then true else decide (y1>400000))then
  za (qW (x.1.1,bif bif x.2.1 then true else x.1.2 != 0 then true else decide (y1>400000),x.2.2)) fun y2=>
  some (y2.2.1,y2.2.2)
 else
  some (bif bif x.2.1 then true else x.1.2 != 0 then true else decide (y1>400000),x.2.2)
def Am(fu:Nat)(x:Str):Option (Str×Int):=
 za (zH (!(x==[])) (strings_IndexByte (x,0)) (default:Int)) fun y1=>
 bif bif x==[]then true else decide (y1>=0)then
  some ([],8)
 else
  za (ql x) fun y2=>
  za (gm fu (x,y2)) fun y3=>
  bif bif decide ((x.length:Int)>4000)then true else decide ((y3.length:Int)>4000)then
   some ([],28)
  else
   some (y3,0)
def Pn(x:(Int×Bool)×List UInt8):Option (List UInt8):=
 zU (X:=Int×List UInt8) (
   bif decide (x.1.1<0)then
    need (zI x.2.length 1 1)<|
    some (LX.out (w64 (0 - x.1.1),x.2++[(45:UInt8)]))
   else
    some (LX.out (x.1.1,x.2))) fun j1=>
 za (il ((w64 (Int.tdiv j1.1 1000),10),j1.2)) fun y2=>
 za (Ph (w64 (1000+Int.tmod j1.1 1000),10)) fun y3=>
 need (decide (1<=(y3.length:Int)))<|
 za (Eh (List.drop 1 y3,[48])) fun y4=>
 zU (X:=List UInt8) (
   bif !(y4==[])then
    need (zI y2.length 1 1)<|
    need (zI (y2++[(46:UInt8)]).length y4.length 1)<|
    some (LX.out (y2++[(46:UInt8)]++y4))
   else
    bif x.1.2 then
     need (zI y2.length ([46,48]:Str).length 1)<|
     some (LX.out (y2++([46,48]:Str)))
    else
     some (LX.out y2)) fun j5=>
 some j5
def MB(fu:Nat)(x:zt×List UInt8):Option (List UInt8):=
 bif x.1.kind==1 then
  za (ql x.1.text) fun y1=>
  za (Z9 fu ((x.1.text,y1),x.2)) fun y2=>
  some y2
 else
  bif x.1.kind==2 then
   za (ql x.1.text) fun y3=>
   za (Z9 fu ((x.1.text,y3),x.2)) fun y4=>
   need (zI y4.length 1 1)<|
   some (y4++[(40:UInt8)])
  else
   bif x.1.kind==3 then
    need (zI x.2.length 1 1)<|
    za (ql x.1.text) fun y5=>
    za (Z9 fu ((x.1.text,y5),x.2++[(64:UInt8)])) fun y6=>
    some y6
   else
    bif x.1.kind==4 then
     zU (X:=Int×List UInt8) (
       bif x.1.flag then
        za (ql x.1.text) fun y7=>
        some (LX.out (y7,x.2))
       else
        some (LX.out (0,x.2))) fun j8=>
     need (zI j8.2.length 1 1)<|
     za (Z9 fu ((x.1.text,j8.1),j8.2++[(35:UInt8)])) fun y9=>
     some y9
    else
     bif x.1.kind==5 then
      need (zI x.2.length 1 1)<|
      need (decide (x.1.text.length<=maxLen))<|
      zR fu (fun(s10:Int×List UInt8)=>
        bif decide (s10.1<(x.1.text.length:Int))then
         zU (X:=Int×List UInt8) (
           need (decide (0<=s10.1)&&decide (s10.1<(x.1.text.length:Int)))<|
           za x.1.text[s10.1.toNat]? fun y11=>
           za (strings_IndexByte ([10,12,13,34,92],(y11.toNat:Int))) fun y12=>
           bif decide (y12>=0)then
            za (ZY ((y11.toNat:Int),s10.2)) fun y13=>
            some (LX.out (s10.1,y13))
           else
            za (qK (y11.toNat:Int)) fun y14=>
            need (zI s10.2.length 1 1)<|
            some (LX.out (s10.1,s10.2++[y14]))) fun j15=>
         some (LO.again (w64 (j15.1+1),j15.2))
        else
         some (LO.out s10.2):Int×List UInt8->Option (LO (Int×List UInt8) (List UInt8) _)) (0,x.2++[(34:UInt8)]) fun o16=>
      need (zI o16.length 1 1)<|
      some (o16++[(34:UInt8)])
     else
      bif x.1.kind==7 then
       need (zI x.2.length ([117,114,108,40]:Str).length 1)<|
       need (decide (x.1.text.length<=maxLen))<|
       zR fu (fun(s17:Int×List UInt8)=>
         bif decide (s17.1<(x.1.text.length:Int))then
          zU (X:=Int×List UInt8) (
            need (decide (0<=s17.1)&&decide (s17.1<(x.1.text.length:Int)))<|
            za x.1.text[s17.1.toNat]? fun y18=>
            za (zH (!(decide ((y18.toNat:Int)<=32))) (strings_IndexByte ([34,39,40,41,92,127],(y18.toNat:Int))) (default:Int)) fun y19=>
            bif bif decide ((y18.toNat:Int)<=32)then true else decide (y19>=0)then
             za (ZY ((y18.toNat:Int),s17.2)) fun y20=>
             some (LX.out (s17.1,y20))
            else
             za (qK (y18.toNat:Int)) fun y21=>
             need (zI s17.2.length 1 1)<|
             some (LX.out (s17.1,s17.2++[y21]))) fun j22=>
          some (LO.again (w64 (j22.1+1),j22.2))
         else
          some (LO.out s17.2):Int×List UInt8->Option (LO (Int×List UInt8) (List UInt8) _)) (0,x.2++([117,114,108,40]:Str)) fun o23=>
       need (zI o23.length 1 1)<|
       some (o23++[(41:UInt8)])
      else
       bif x.1.kind==9 then
        need (zI x.2.length x.1.text.length 1)<|
        some (x.2++x.1.text)
       else
        bif x.1.kind==10 then
         za (Pn ((x.1.num, !x.1.flag),x.2)) fun y24=>
         some y24
        else
         bif x.1.kind==11 then
          za (Pn ((x.1.num,false),x.2)) fun y25=>
          need (zI y25.length 1 1)<|
          some (y25++[(37:UInt8)])
         else
          bif x.1.kind==12 then
           za (Pn ((x.1.num, !x.1.flag),x.2)) fun y26=>
           za (geti x.1.unit 0) fun y27=>
           need (decide (1<=(x.1.unit.length:Int))|| !(ibOr IntKind.u8 (y27.toNat:Int) 32==101))<|
           za (zH (ibOr IntKind.u8 (y27.toNat:Int) 32==101) (wm (List.drop 1 x.1.unit)) (default:Bool)) fun y28=>
           need (decide (1<=(x.1.unit.length:Int))|| !(bif ibOr IntKind.u8 (y27.toNat:Int) 32==101 then y28 else false))<|
           za (zH (bif ibOr IntKind.u8 (y27.toNat:Int) 32==101 then y28 else false) (strings_HasPrefix (List.drop 1 x.1.unit,[45,45])) (default:Bool)) fun y29=>
           bif bif bif ibOr IntKind.u8 (y27.toNat:Int) 32==101 then y28 else false then !y29 else false then
            za (geti x.1.unit 0) fun y30=>
            za (ZY ((y30.toNat:Int),y26)) fun y31=>
            need (decide (1<=(x.1.unit.length:Int)))<|
            za (Z9 fu ((List.drop 1 x.1.unit,0),y31)) fun y32=>
            some y32
           else
            za (ql x.1.unit) fun y33=>
            za (Z9 fu ((x.1.unit,y33),y26)) fun y34=>
            some y34
          else
           za (Ht ()) fun y35=>
           za (geti [y35.e0,y35.e1,y35.e2,y35.e3,y35.e4,y35.e5,y35.e6,y35.e7,y35.e8,y35.e9,y35.e10,y35.e11] (wu8 (x.1.kind - 13))) fun y36=>
           need (zI x.2.length y36.length 1)<|
           some (x.2++y36)
def VE(fu:Nat)(x:List zt×List zt):Option Bool:=
 bif (x.1.length:Int) != (x.2.length:Int)then
  some false
 else
  zR fu (fun(s1:Int)=>
    bif decide (s1<(x.1.length:Int))then
     za (geti x.1 s1) fun y2=>
     za (geti x.2 s1) fun y3=>
     bif !(y2.kind==y3.kind&&(y2.text==y3.text&&(y2.num==y3.num&&(y2.unit==y3.unit&&(y2.flag==y3.flag&&true)))))then
      some (LO.ret false)
     else
      some (LO.again (w64 (s1+1)))
    else
     some (LO.out ()):Int->Option (LO (Int) (Unit) _)) 0 fun o4=>
  some true
def uA(fu:Nat)(x:List zt):Option (Str×Int):=
 za (Jt fu x) fun y1=>
 bif y1 != 0 then
  some ([],y1)
 else
  zR fu (fun(s2:Int×List UInt8×List Zc)=>
    bif decide (s2.1<(x.length:Int))then
     need (decide (0<=s2.1)&&decide (s2.1<=(x.length:Int)))<|
     za (Gt fu (List.drop s2.1.toNat x)) fun y3=>
     need (decide (0<=s2.1)&&(decide (s2.1<=w64 (s2.1+y3))&&decide (w64 (s2.1+y3)<=(x.length:Int))))<|
     zR fu (fun(s4:Int×List UInt8)=>
       bif decide (s4.1<((List.drop s2.1.toNat (List.take (w64 (s2.1+y3)).toNat x)).length:Int))then
        za (geti (List.drop s2.1.toNat (List.take (w64 (s2.1+y3)).toNat x)) s4.1) fun y5=>
        za (MB fu (y5,s4.2)) fun y6=>
        some (LO.again (w64 (s4.1+1),y6))
       else
        some (LO.out s4.2):Int×List UInt8->Option (LO (Int×List UInt8) (List UInt8) _)) (0,[]) fun o7=>
     zU (X:=Int×List UInt8×List Zc×List UInt8) (
       za (geti x s2.1) fun y8=>
       bif bif y8.kind==9 then y3==2 else false then
        some (LX.out (s2.1,s2.2.1,s2.2.2,[(92:UInt8),(10:UInt8)]))
       else
        some (LX.out (s2.1,s2.2.1,s2.2.2,o7))) fun j9=>
     zU (X:=Int×List UInt8×List Zc×Zc) (
       bif decide (w64 ((j9.2.2.1.length:Int) - 4)>=0)then
        need (decide (0<=w64 ((j9.2.2.1.length:Int) - 4))&&decide (w64 ((j9.2.2.1.length:Int) - 4)<(j9.2.2.1.length:Int)))<|
        za (j9.2.2.1[(w64 ((j9.2.2.1.length:Int) - 4)).toNat]?) fun y10=>
        some (LX.out (j9.1,j9.2.1,j9.2.2.1,y10))
       else
        some (LX.out (j9.1,j9.2.1,j9.2.2.1,(⟨0,0⟩:Zc)))) fun j11=>
     need (decide (0<=j11.2.2.2.at_)&&decide (j11.2.2.2.at_<=(j11.2.1.length:Int)))<|
     need (decide (j11.2.2.2.at_.toNat+(j11.2.1.length - j11.2.2.2.at_.toNat)<=j11.2.1.length))<|
     need (Yc (List.take (j11.2.1.length - j11.2.2.2.at_.toNat) (List.drop j11.2.2.2.at_.toNat j11.2.1)).length j9.2.2.2.length)<|
     za (Ei fu (List.take (j11.2.1.length - j11.2.2.2.at_.toNat) (List.drop j11.2.2.2.at_.toNat j11.2.1)++j9.2.2.2)) fun y12=>
     zU (X:=Int×List Zc×List UInt8) (
       need (decide (0<=j11.2.2.2.token)&&(decide (j11.2.2.2.token<=w64 (j11.1+y3))&&decide (w64 (j11.1+y3)<=(x.length:Int)))|| !(!(y12.2 != 0)))<|
       za (zH (!(y12.2 != 0)) (VE fu (y12.1,List.drop j11.2.2.2.token.toNat (List.take (w64 (j11.1+y3)).toNat x))) (default:Bool)) fun y13=>
       bif bif y12.2 != 0 then true else !y13 then
        need (zI j11.2.1.length ([47,42,42,47]:Str).length 1)<|
        some (LX.out (j11.1,j11.2.2.1,j11.2.1++([47,42,42,47]:Str)))
       else
        some (LX.out (j11.1,j11.2.2.1,j11.2.1))) fun j14=>
     need (zI j14.2.1.length 1 16)<|
     need (zI j14.2.2.length j9.2.2.2.length 1)<|
     bif decide (((j14.2.2++j9.2.2.2).length:Int)>4000)then
      some (LO.ret ([],28))
     else
      some (LO.again (w64 (j14.1+y3),j14.2.2++j9.2.2.2,j14.2.1++[(⟨j14.1,(j14.2.2.length:Int)⟩:Zc)]))
    else
     some (LO.out s2.2.1):Int×List UInt8×List Zc->Option (LO (Int×List UInt8×List Zc) (List UInt8) _)) (0,[],[]) fun o15=>
  some (o15,0)
def Yz(fu:Nat)(x:List ze):Option (Str×Int):=
 za (QE fu x) fun y1=>
 bif y1 != 0 then
  some ([],y1)
 else
  za (Ym fu x) fun y2=>
  za (uA fu y2) fun y3=>
  some (y3.1,y3.2)
def Vr(fu:Nat)(x:zQ):Option (Str×Int):=
 za (Pj fu x) fun y1=>
 bif y1 != 0 then
  some ([],y1)
 else
  za (Am fu x.name) fun y2=>
  bif y2.2 != 0 then
   some ([],y2.2)
  else
   za (Yz fu x.value) fun y3=>
   bif y3.2 != 0 then
    some ([],y3.2)
   else
    need (Yc y2.1.length ([58,32]:Str).length)<|
    need (Yc (y2.1++([58,32]:Str)).length y3.1.length)<|
    zU (X:=Str) (
      bif x.important then
       need (Yc (y2.1++([58,32]:Str)++y3.1).length ([32,33,105,109,112,111,114,116,97,110,116]:Str).length)<|
       some (LX.out (y2.1++([58,32]:Str)++y3.1++([32,33,105,109,112,111,114,116,97,110,116]:Str)))
      else
       some (LX.out (y2.1++([58,32]:Str)++y3.1))) fun j4=>
    bif decide ((j4.length:Int)>4000)then
     some ([],28)
    else
     some (j4,0)
def Xr(fu:Nat)(x:List zQ):Option (Str×Int):=
 bif decide ((x.length:Int)>32)then
  some ([],4)
 else
  zR fu (fun(s1:(Bool×Int)×List Str)=>
    bif decide (s1.1.2<(x.length:Int))then
     za (geti x s1.1.2) fun y2=>
     za (Vr fu y2) fun y3=>
     bif y3.2==8 then
      some (LO.ret ([],y3.2))
     else
      need (zI s1.2.length 1 16)<|
      some (LO.again ((bif s1.1.1 then true else y3.2 != 0,w64 (s1.1.2+1)),s1.2++[y3.1]))
    else
     some (LO.out (s1.1.1,s1.2)):(Bool×Int)×List Str->Option (LO ((Bool×Int)×List Str) (Bool×List Str) _)) ((false,0),[]) fun o4=>
  za (Jg (o4.2,[59,32])) fun y5=>
  bif bif o4.1 then true else decide ((y5.length:Int)>4000)then
   some ([],28)
  else
   some (y5,0)
def EB(fu:Nat)(x:zm):Option Int:=
 za (Wn fu (⟨x.kind,x.name,x.num,x.decl,x.list⟩:zm)) fun y1=>
 bif y1 != 0 then
  za (Qe fu (⟨x.kind,x.name,x.num,x.decl,x.list⟩:zm)) fun y2=>
  some y2
 else
  some 0
def sj(x:Int×Int×List UInt8):Option (Int×List UInt8):=
 need (decide (0<=w64 (x.2.1 - 1))&&(decide (w64 (x.2.1 - 1)<20)&&decide (w64 (x.2.1 - 1)<(x.2.2.length:Int))))<|
 za (x.2.2[(w64 (x.2.1 - 1)).toNat]?) fun y1=>
 za (qK x.1) fun y2=>
 some (w64 (x.2.1 - 1),List.set x.2.2 (w64 (x.2.1 - 1)).toNat y2)
def OB(fu:Nat)(x:Int):Option (Str×Int):=
 za (Tu fu [x]) fun y1=>
 bif y1 != 0 then
  some ([],y1)
 else
  zU (X:=Int) (
    bif decide (x<0)then
     some (LX.out (w64 (0 - x)))
    else
     some (LX.out x)) fun j2=>
  zR fu (fun(s3:(Int×Int)×List UInt8×Int)=>
    bif decide (s3.1.2<3)then
     zU (X:=(Int×Int)×List UInt8×Int) (
       zU (X:=Int×List UInt8×Int) (
         bif bif Int.tmod s3.1.1 10 != 0 then true else decide (s3.2.2<20)then
          za (sj (wu8 (w64 (48+Int.tmod s3.1.1 10)),s3.2.2,s3.2.1)) fun y4=>
          some (LX.out (s3.1.1,y4.2,y4.1))
         else
          some (LX.out (s3.1.1,s3.2.1,s3.2.2))) fun j5=>
       bif bif s3.1.2==2 then decide (j5.2.2<20)else false then
        za (sj (46,j5.2.2,j5.2.1)) fun y6=>
        some (LX.out ((w64 (Int.tdiv j5.1 10),s3.1.2),y6.2,y6.1))
       else
        some (LX.out ((w64 (Int.tdiv j5.1 10),s3.1.2),j5.2.1,j5.2.2))) fun j7=>
     some (LO.again ((j7.1.1,w64 (j7.1.2+1)),j7.2.1,j7.2.2))
    else
     some (LO.out (s3.2.1,s3.2.2)):(Int×Int)×List UInt8×Int->Option (LO ((Int×Int)×List UInt8×Int) (List UInt8×Int) _)) ((Int.tmod j2 1000,0),List.replicate 20 (0:UInt8),20) fun o8=>
  zR fu (fun(s9:Int×List UInt8×Int)=>
    za (sj (wu8 (w64 (48+Int.tmod s9.1 10)),s9.2.2,s9.2.1)) fun y10=>
    bif decide (s9.1<10)then
     some (LO.out (y10.2,y10.1))
    else
     some (LO.again (w64 (Int.tdiv s9.1 10),y10.2,y10.1)):Int×List UInt8×Int->Option (LO (Int×List UInt8×Int) (List UInt8×Int) _)) (w64 (Int.tdiv j2 1000),o8.1,o8.2) fun o11=>
  zU (X:=List UInt8×Int) (
    bif decide (x<0)then
     za (sj (45,o11.2,o11.1)) fun y12=>
     some (LX.out (y12.2,y12.1))
    else
     some (LX.out (o11.1,o11.2))) fun j13=>
  need (decide (0<=j13.2)&&decide (j13.2<=20)&&Nat.beq j13.1.length 20)<|
  need (decide (j13.2.toNat+(20 - j13.2.toNat)<=j13.1.length))<|
  some (List.take (20 - j13.2.toNat) (List.drop j13.2.toNat j13.1),0)
def Fs(fu:Nat)(ZJ:zm->Option Str)(x:List zm×Str):Option Str:=
 zR fu (fun(s1:Int×List Str)=>
   bif decide (s1.1<(x.1.length:Int))then
    za (geti x.1 s1.1) fun y2=>
    za (ZJ (⟨y2.kind,y2.name,y2.num,y2.decl,y2.list⟩:zm)) fun y3=>
    need (zI s1.2.length 1 16)<|
    some (LO.again (w64 (s1.1+1),s1.2++[y3]))
   else
    some (LO.out s1.2):Int×List Str->Option (LO (Int×List Str) (List Str) _)) (0,[]) fun o4=>
 za (Jg (o4,x.2)) fun y5=>
 some y5
def au(fu:Nat)(ZJ:zm->Option Str)(x:zm):Option Str:=
 bif x.kind==4 then
  za (Am fu x.name) fun y1=>
  some y1.1
 else
  bif x.kind==3 then
   za (geti x.list 0) fun y2=>
   za (ZJ (⟨y2.kind,y2.name,y2.num,y2.decl,y2.list⟩:zm)) fun y3=>
   need (Yc ([110,111,116,32]:Str).length y3.length)<|
   some (([110,111,116,32]:Str)++y3)
  else
   bif x.kind==2 then
    za (Fs fu ZJ (x.list,[44,32])) fun y4=>
    some y4
   else
    bif x.kind==1 then
     za (Fs fu ZJ (x.list,[32,97,110,100,32])) fun y5=>
     some y5
    else
     za (OB fu x.num) fun y6=>
     bif x.kind==5 then
      need (Yc ([40,109,105,110,45,119,105,100,116,104,58,32]:Str).length y6.1.length)<|
      need (Yc (([40,109,105,110,45,119,105,100,116,104,58,32]:Str)++y6.1).length ([112,120,41]:Str).length)<|
      some (([40,109,105,110,45,119,105,100,116,104,58,32]:Str)++y6.1++([112,120,41]:Str))
     else
      need (Yc ([40,109,97,120,45,119,105,100,116,104,58,32]:Str).length y6.1.length)<|
      need (Yc (([40,109,97,120,45,119,105,100,116,104,58,32]:Str)++y6.1).length ([112,120,41]:Str).length)<|
      some (([40,109,97,120,45,119,105,100,116,104,58,32]:Str)++y6.1++([112,120,41]:Str))
def ZJ(fu:Nat):zm->Option Str:=QL (au fu) fu
def jv(fu:Nat)(zW:zm×Bool->Option (Str×Bool))(x:zm×Bool):Option (Str×Bool):=
 za (zW ((⟨x.1.kind,x.1.name,x.1.num,x.1.decl,x.1.list⟩:zm),x.2)) fun y1=>
 za (Es (⟨x.1.kind,x.1.name,x.1.num,x.1.decl,x.1.list⟩:zm)) fun y2=>
 bif y2 then
  some (y1.1,y1.2)
 else
  need (Yc ([40]:Str).length y1.1.length)<|
  need (Yc (([40]:Str)++y1.1).length ([41]:Str).length)<|
  some (([40]:Str)++y1.1++([41]:Str),y1.2)
def Cu(fu:Nat)(zW:zm×Bool->Option (Str×Bool))(x:(List zm×Str)×Bool):Option (Str×Bool):=
 zR fu (fun(s1:Int×Bool×List Str)=>
   bif decide (s1.1<(x.1.1.length:Int))then
    za (geti x.1.1 s1.1) fun y2=>
    za (jv fu zW ((⟨y2.kind,y2.name,y2.num,y2.decl,y2.list⟩:zm),s1.2.1)) fun y3=>
    need (zI s1.2.2.length 1 16)<|
    some (LO.again (w64 (s1.1+1),y3.2,s1.2.2++[y3.1]))
   else
    some (LO.out (s1.2.1,s1.2.2)):Int×Bool×List Str->Option (LO (Int×Bool×List Str) (Bool×List Str) _)) (0,x.2,[]) fun o4=>
 za (Jg (o4.2,x.1.2)) fun y5=>
 some (y5,o4.1)
def bv(fu:Nat)(zW:zm×Bool->Option (Str×Bool))(x:zm×Bool):Option (Str×Bool):=
 bif x.1.kind==7 then
  za (Vr fu x.1.decl) fun y1=>
  need (Yc ([40]:Str).length y1.1.length)<|
  need (Yc (([40]:Str)++y1.1).length ([41]:Str).length)<|
  some (([40]:Str)++y1.1++([41]:Str),bif x.2 then true else y1.2 != 0)
 else
  bif x.1.kind==8 then
   some ([40,117,110,107,110,111,119,110,41],x.2)
  else
   bif x.1.kind==3 then
    za (geti x.1.list 0) fun y2=>
    za (jv fu zW ((⟨y2.kind,y2.name,y2.num,y2.decl,y2.list⟩:zm),x.2)) fun y3=>
    need (Yc ([110,111,116,32]:Str).length y3.1.length)<|
    some (([110,111,116,32]:Str)++y3.1,y3.2)
   else
    bif x.1.kind==2 then
     za (Cu fu zW ((x.1.list,[32,111,114,32]),x.2)) fun y4=>
     some (y4.1,y4.2)
    else
     za (Cu fu zW ((x.1.list,[32,97,110,100,32]),x.2)) fun y5=>
     some (y5.1,y5.2)
def zW(fu:Nat):zm×Bool->Option (Str×Bool):=QL (bv fu) fu
def Ps(fu:Nat)(x:zm):Option (Str×Int):=
 za (EB fu (⟨x.kind,x.name,x.num,x.decl,x.list⟩:zm)) fun y1=>
 bif y1 != 0 then
  some ([],y1)
 else
  zU (X:=Str×Bool) (
    za (Wn fu (⟨x.kind,x.name,x.num,x.decl,x.list⟩:zm)) fun y2=>
    bif y2==0 then
     za (ZJ fu (⟨x.kind,x.name,x.num,x.decl,x.list⟩:zm)) fun y3=>
     some (LX.out (y3,false))
    else
     za (zW fu ((⟨x.kind,x.name,x.num,x.decl,x.list⟩:zm),false)) fun y4=>
     some (LX.out (y4.1,y4.2))) fun j5=>
  bif bif j5.2 then true else decide ((j5.1.length:Int)>4000)then
   some ([],28)
  else
   some (j5.1,0)
def Zq(x:(Str×Str)×Bool×List UInt8):Option (Bool×List UInt8):=
 need (Yc ([64]:Str).length x.1.1.length)<|
 need (Yc (([64]:Str)++x.1.1).length ([32]:Str).length)<|
 need (Yc (([64]:Str)++x.1.1++([32]:Str)).length x.1.2.length)<|
 za (zC ((([64]:Str)++x.1.1++([32]:Str)++x.1.2,0),x.2.1,x.2.2)) fun y1=>
 some (y1.1,y1.2)
def qN(fu:Nat)(x:List Str×Bool×List UInt8):Option (Bool×List UInt8):=
 zR fu (fun(s1:Int×Bool×List UInt8)=>
   bif decide (s1.1<(x.1.length:Int))then
    za (geti x.1 s1.1) fun y2=>
    zU (X:=Bool×List UInt8) (
      bif decide (s1.1>0)then
       za (zC (([46],0),s1.2.1,s1.2.2)) fun y3=>
       some (LX.out (y3.1,y3.2))
      else
       some (LX.out (s1.2.1,s1.2.2))) fun j4=>
    za (Am fu y2) fun y5=>
    za (zC ((y5.1,y5.2),j4.1,j4.2)) fun y6=>
    some (LO.again (w64 (s1.1+1),y6.1,y6.2))
   else
    some (LO.out (s1.2.1,s1.2.2)):Int×Bool×List UInt8->Option (LO (Int×Bool×List UInt8) (Bool×List UInt8) _)) (0,x.2.1,x.2.2) fun o7=>
 some (o7.1,o7.2)
def KF(fu:Nat)(zS:List zA×Bool×List UInt8->Option (Bool×List UInt8))(x:zA×Bool×List UInt8):Option (Bool×List UInt8):=
 bif x.1.kind==1 then
  za (cu fu x.1.selectors) fun y1=>
  za (zC ((y1.1,y1.2),x.2.1,x.2.2)) fun y2=>
  bif (x.1.decls.length:Int)==0 then
   za (zC (([32,123,125],0),y2.1,y2.2)) fun y3=>
   some (y3.1,y3.2)
  else
   za (zC (([32,123,32],0),y2.1,y2.2)) fun y4=>
   za (Xr fu x.1.decls) fun y5=>
   za (zC ((y5.1,y5.2),y4.1,y4.2)) fun y6=>
   za (zC (([32,125],0),y6.1,y6.2)) fun y7=>
   some (y7.1,y7.2)
 else
  zU (X:=Bool×Bool×List UInt8) (
    bif x.1.kind==2 then
     some (LX.out (x.1.kind==2,x.2.1,x.2.2))
    else
     some (LX.out (x.1.kind==3,x.2.1,x.2.2))) fun j8=>
  bif j8.1 then
   zU (X:=Str×Bool×List UInt8) (
     bif x.1.kind==3 then
      some (LX.out ([115,117,112,112,111,114,116,115],j8.2.1,j8.2.2))
     else
      some (LX.out ([109,101,100,105,97],j8.2.1,j8.2.2))) fun j9=>
   za (Ps fu (⟨x.1.cond.kind,x.1.cond.name,x.1.cond.num,x.1.cond.decl,x.1.cond.list⟩:zm)) fun y10=>
   zU (X:=Str×Bool×List UInt8) (
     bif !(y10.1==[])then
      need (Yc y10.1.length ([32]:Str).length)<|
      some (LX.out (y10.1++([32]:Str),j9.2.1,j9.2.2))
     else
      some (LX.out (y10.1,j9.2.1,j9.2.2))) fun j11=>
   za (Zq ((j9.1,[]),j11.2.1,j11.2.2)) fun y12=>
   za (zC ((j11.1,y10.2),y12.1,y12.2)) fun y13=>
   za (zS (x.1.rules,y13.1,y13.2)) fun y14=>
   some (y14.1,y14.2)
  else
   bif x.1.kind==4 then
    za (Zq (([108,97,121,101,114],[]),j8.2.1,j8.2.2)) fun y15=>
    zR fu (fun(s16:Int×Bool×List UInt8)=>
      bif decide (s16.1<(x.1.names.length:Int))then
       za (geti x.1.names s16.1) fun y17=>
       za (qN fu (y17,s16.2.1,s16.2.2)) fun y18=>
       za (zC (([32],0),y18.1,y18.2)) fun y19=>
       some (LO.again (w64 (s16.1+1),y19.1,y19.2))
      else
       some (LO.out (s16.2.1,s16.2.2)):Int×Bool×List UInt8->Option (LO (Int×Bool×List UInt8) (Bool×List UInt8) _)) (0,y15.1,y15.2) fun o20=>
    za (zS (x.1.rules,o20.1,o20.2)) fun y21=>
    some (y21.1,y21.2)
   else
    bif x.1.kind==5 then
     za (Zq (([108,97,121,101,114],[]),j8.2.1,j8.2.2)) fun y22=>
     zR fu (fun(s23:Int×Bool×List UInt8)=>
       bif decide (s23.1<(x.1.names.length:Int))then
        za (geti x.1.names s23.1) fun y24=>
        zU (X:=Bool×List UInt8) (
          bif decide (s23.1>0)then
           za (zC (([44,32],0),s23.2.1,s23.2.2)) fun y25=>
           some (LX.out (y25.1,y25.2))
          else
           some (LX.out (s23.2.1,s23.2.2))) fun j26=>
        za (qN fu (y24,j26.1,j26.2)) fun y27=>
        some (LO.again (w64 (s23.1+1),y27.1,y27.2))
       else
        some (LO.out (s23.2.1,s23.2.2)):Int×Bool×List UInt8->Option (LO (Int×Bool×List UInt8) (Bool×List UInt8) _)) (0,y22.1,y22.2) fun o28=>
     za (zC (([59],0),o28.1,o28.2)) fun y29=>
     some (y29.1,y29.2)
    else
     some (j8.2.1,j8.2.2)
def QM(fu:Nat)(zS:List zA×Bool×List UInt8->Option (Bool×List UInt8))(x:List zA×Bool×List UInt8):Option (Bool×List UInt8):=
 bif (x.1.length:Int)==0 then
  za (zC (([123,125],0),x.2.1,x.2.2)) fun y1=>
  some (y1.1,y1.2)
 else
  za (zC (([123,32],0),x.2.1,x.2.2)) fun y2=>
  zR fu (fun(s3:Int×Bool×List UInt8)=>
    bif decide (s3.1<(x.1.length:Int))then
     za (geti x.1 s3.1) fun y4=>
     za (KF fu zS ((⟨y4.kind,y4.selectors,y4.decls,(⟨y4.cond.kind,y4.cond.name,y4.cond.num,y4.cond.decl,y4.cond.list⟩:zm),y4.names,y4.rules⟩:zA),s3.2.1,s3.2.2)) fun y5=>
     za (zC (([32],0),y5.1,y5.2)) fun y6=>
     some (LO.again (w64 (s3.1+1),y6.1,y6.2))
    else
     some (LO.out (s3.2.1,s3.2.2)):Int×Bool×List UInt8->Option (LO (Int×Bool×List UInt8) (Bool×List UInt8) _)) (0,y2.1,y2.2) fun o7=>
  za (zC (([125],0),o7.1,o7.2)) fun y8=>
  some (y8.1,y8.2)
def zS(fu:Nat):List zA×Bool×List UInt8->Option (Bool×List UInt8):=QL (QM fu) fu
def OE(fu:Nat)(x:zA×Bool):Option (Bool×List UInt8):=
 bif x.1.kind==1 then
  za (cu fu x.1.selectors) fun y1=>
  za (EE ((y1.1,y1.2),x.2)) fun y2=>
  bif (x.1.decls.length:Int)==0 then
   za (zC (([32,123,125],0),y2.1,y2.2)) fun y3=>
   some (y3.1,y3.2)
  else
   za (zC (([32,123,32],0),y2.1,y2.2)) fun y4=>
   za (Xr fu x.1.decls) fun y5=>
   za (zC ((y5.1,y5.2),y4.1,y4.2)) fun y6=>
   za (zC (([32,125],0),y6.1,y6.2)) fun y7=>
   some (y7.1,y7.2)
 else
  zU (X:=Bool×Bool×List UInt8) (
    bif x.1.kind==2 then
     some (LX.out (x.1.kind==2,x.2,[]))
    else
     some (LX.out (x.1.kind==3,x.2,[]))) fun j8=>
  bif j8.1 then
   zU (X:=Str×Bool×List UInt8) (
     bif x.1.kind==3 then
      some (LX.out ([115,117,112,112,111,114,116,115],j8.2.1,j8.2.2))
     else
      some (LX.out ([109,101,100,105,97],j8.2.1,j8.2.2))) fun j9=>
   za (Ps fu (⟨x.1.cond.kind,x.1.cond.name,x.1.cond.num,x.1.cond.decl,x.1.cond.list⟩:zm)) fun y10=>
   zU (X:=Str×Bool×List UInt8) (
     bif !(y10.1==[])then
      need (Yc y10.1.length ([32]:Str).length)<|
      some (LX.out (y10.1++([32]:Str),j9.2.1,j9.2.2))
     else
      some (LX.out (y10.1,j9.2.1,j9.2.2))) fun j11=>
   za (Zq ((j9.1,[]),j11.2.1,j11.2.2)) fun y12=>
   za (zC ((j11.1,y10.2),y12.1,y12.2)) fun y13=>
   za (zS fu (x.1.rules,y13.1,y13.2)) fun y14=>
   some (y14.1,y14.2)
  else
   bif x.1.kind==4 then
    za (Zq (([108,97,121,101,114],[]),j8.2.1,j8.2.2)) fun y15=>
    zR fu (fun(s16:Int×Bool×List UInt8)=>
      bif decide (s16.1<(x.1.names.length:Int))then
       za (geti x.1.names s16.1) fun y17=>
       za (qN fu (y17,s16.2.1,s16.2.2)) fun y18=>
       za (zC (([32],0),y18.1,y18.2)) fun y19=>
       some (LO.again (w64 (s16.1+1),y19.1,y19.2))
      else
       some (LO.out (s16.2.1,s16.2.2)):Int×Bool×List UInt8->Option (LO (Int×Bool×List UInt8) (Bool×List UInt8) _)) (0,y15.1,y15.2) fun o20=>
    za (zS fu (x.1.rules,o20.1,o20.2)) fun y21=>
    some (y21.1,y21.2)
   else
    bif x.1.kind==5 then
     za (Zq (([108,97,121,101,114],[]),j8.2.1,j8.2.2)) fun y22=>
     zR fu (fun(s23:Int×Bool×List UInt8)=>
       bif decide (s23.1<(x.1.names.length:Int))then
        za (geti x.1.names s23.1) fun y24=>
        zU (X:=Bool×List UInt8) (
          bif decide (s23.1>0)then
           za (zC (([44,32],0),s23.2.1,s23.2.2)) fun y25=>
           some (LX.out (y25.1,y25.2))
          else
           some (LX.out (s23.2.1,s23.2.2))) fun j26=>
        za (qN fu (y24,j26.1,j26.2)) fun y27=>
        some (LO.again (w64 (s23.1+1),y27.1,y27.2))
       else
        some (LO.out (s23.2.1,s23.2.2)):Int×Bool×List UInt8->Option (LO (Int×Bool×List UInt8) (Bool×List UInt8) _)) (0,y22.1,y22.2) fun o28=>
     za (zC (([59],0),o28.1,o28.2)) fun y29=>
     some (y29.1,y29.2)
    else
     some (j8.2.1,j8.2.2)
def XA(fu:Nat)(x:zA):Option (Str×Int):=
 za (OE fu ((⟨x.kind,x.selectors,x.decls,(⟨x.cond.kind,x.cond.name,x.cond.num,x.cond.decl,x.cond.list⟩:zm),x.names,x.rules⟩:zA),false)) fun y1=>
 za (zH (!y1.1) (Qx (y1.1,y1.2)) (default:Int)) fun y2=>
 bif bif y1.1 then true else decide (y2>4000)then
  some ([],28)
 else
  za (strW (y1.1,y1.2)) fun y3=>
  some (y3,0)
def dB(fu:Nat)(x:Zi):Option (List Str×Int):=
 za (og fu x) fun y1=>
 bif y1 != 0 then
  some ([],y1)
 else
  zR fu (fun(s2:Int×List Str)=>
    bif decide (s2.1<(x.rules.length:Int))then
     za (geti x.rules s2.1) fun y3=>
     za (XA fu (⟨y3.kind,y3.selectors,y3.decls,(⟨y3.cond.kind,y3.cond.name,y3.cond.num,y3.cond.decl,y3.cond.list⟩:zm),y3.names,y3.rules⟩:zA)) fun y4=>
     bif y4.2 != 0 then
      some (LO.ret ([],y4.2))
     else
      need (zI s2.2.length 1 16)<|
      some (LO.again (w64 (s2.1+1),s2.2++[y4.1]))
    else
     some (LO.out s2.2):Int×List Str->Option (LO (Int×List Str) (List Str) _)) (0,[]) fun o5=>
  some (o5,0)
def Tj(fu:Nat)(x:zZ×Str×Int):Option (List Str×Int):=
 za (Pm fu (x.1,x.2.1,x.2.2)) fun y1=>
 bif y1.2 != 0 then
  some ([],y1.2)
 else
  za (dB fu y1.1) fun y2=>
  bif y2.2 != 0 then
   some ([],y2.2)
  else
   zR fu (fun(s3:Int×Int)=>
     bif decide (s3.2<(y2.1.length:Int))then
      za (geti y2.1 s3.2) fun y4=>
      some (LO.again (w64 (s3.1+(y4.length:Int)),w64 (s3.2+1)))
     else
      some (LO.out s3.1):Int×Int->Option (LO (Int×Int) (Int) _)) (0,0) fun o5=>
   bif decide (o5>20000)then
    some ([],28)
   else
    some (y2.1,0)
def yj(fu:Nat)(x:zZ×Str×Int):Option (Bool×Int):=
 za (Ir fu (x.1,x.2.2)) fun y1=>
 some (bif y1.2==0 then !(y1.1.site==x.2.1)else false,y1.2)
def lu(x:zy):Option qF:=
 some (⟨x.kind,x.name,x.op,x.value,x.fold,x.anb,x.of_⟩:qF)
def PE(fu:Nat)(Zl:List zh×List zh->Option Bool)(x:List zy×List zy):Option Bool:=
 bif (x.1.length:Int) != (x.2.length:Int)then
  some false
 else
  zR fu (fun(s1:Int)=>
    bif decide (s1<(x.1.length:Int))then
     za (geti x.1 s1) fun y2=>
     za (lu (⟨y2.kind,y2.name,y2.op,y2.value,y2.fold,y2.anb,y2.of_,y2.list⟩:zy)) fun y3=>
     za (geti x.2 s1) fun y4=>
     za (lu (⟨y4.kind,y4.name,y4.op,y4.value,y4.fold,y4.anb,y4.of_,y4.list⟩:zy)) fun y5=>
     za (zH (!(!(y3.kind==y5.kind&&(y3.name==y5.name&&(y3.op==y5.op&&(y3.value==y5.value&&(y3.fold==y5.fold&&(y3.anb.a==y5.anb.a&&(y3.anb.b==y5.anb.b&&(y3.of_==y5.of_&&true)))))))))) (geti x.1 s1) (default:zy)) fun y6=>
     za (zH (!(!(y3.kind==y5.kind&&(y3.name==y5.name&&(y3.op==y5.op&&(y3.value==y5.value&&(y3.fold==y5.fold&&(y3.anb.a==y5.anb.a&&(y3.anb.b==y5.anb.b&&(y3.of_==y5.of_&&true)))))))))) (geti x.2 s1) (default:zy)) fun y7=>
     za (zH (!(!(y3.kind==y5.kind&&(y3.name==y5.name&&(y3.op==y5.op&&(y3.value==y5.value&&(y3.fold==y5.fold&&(y3.anb.a==y5.anb.a&&(y3.anb.b==y5.anb.b&&(y3.of_==y5.of_&&true)))))))))) (Zl (y6.list,y7.list)) (default:Bool)) fun y8=>
     bif bif !(y3.kind==y5.kind&&(y3.name==y5.name&&(y3.op==y5.op&&(y3.value==y5.value&&(y3.fold==y5.fold&&(y3.anb.a==y5.anb.a&&(y3.anb.b==y5.anb.b&&(y3.of_==y5.of_&&true))))))))then true else !y8 then
      some (LO.ret false)
     else
      some (LO.again (w64 (s1+1)))
    else
     some (LO.out ()):Int->Option (LO (Int) (Unit) _)) 0 fun o9=>
  some true
def SB(fu:Nat)(Zl:List zh×List zh->Option Bool)(x:zh×zh):Option Bool:=
 bif bif bif x.1.lead != x.2.lead then true else(x.1.parts.length:Int) != (x.2.parts.length:Int)then true else !(x.1.combs==x.2.combs)then
  some false
 else
  zR fu (fun(s1:Int)=>
    bif decide (s1<(x.1.parts.length:Int))then
     za (geti x.1.parts s1) fun y2=>
     za (geti x.2.parts s1) fun y3=>
     za (zH (!(!(y2.tag==y3.tag))) (geti x.1.parts s1) (default:zB)) fun y4=>
     za (zH (!(!(y2.tag==y3.tag))) (geti x.2.parts s1) (default:zB)) fun y5=>
     za (zH (!(!(y2.tag==y3.tag))) (PE fu Zl (y4.simples,y5.simples)) (default:Bool)) fun y6=>
     bif bif !(y2.tag==y3.tag)then true else !y6 then
      some (LO.ret false)
     else
      some (LO.again (w64 (s1+1)))
    else
     some (LO.out ()):Int->Option (LO (Int) (Unit) _)) 0 fun o7=>
  some true
def nu(fu:Nat)(Zl:List zh×List zh->Option Bool)(x:List zh×List zh):Option Bool:=
 bif (x.1.length:Int) != (x.2.length:Int)then
  some false
 else
  zR fu (fun(s1:Int)=>
    bif decide (s1<(x.1.length:Int))then
     za (geti x.1 s1) fun y2=>
     za (geti x.2 s1) fun y3=>
     za (SB fu Zl ((⟨y2.lead,y2.parts,y2.combs⟩:zh),(⟨y3.lead,y3.parts,y3.combs⟩:zh))) fun y4=>
     bif !y4 then
      some (LO.ret false)
     else
      some (LO.again (w64 (s1+1)))
    else
     some (LO.out ()):Int->Option (LO (Int) (Unit) _)) 0 fun o5=>
  some true
def Zl(fu:Nat):List zh×List zh->Option Bool:=QL (nu fu) fu
def ou(fu:Nat)(Hg:List ze×List ze->Option Bool)(x:List ze×List ze):Option Bool:=
 bif (x.1.length:Int) != (x.2.length:Int)then
  some false
 else
  zR fu (fun(s1:Int)=>
    bif decide (s1<(x.1.length:Int))then
     za (geti x.1 s1) fun y2=>
     za (geti x.2 s1) fun y3=>
     za (zH (!(!(y2.token.kind==y3.token.kind&&(y2.token.text==y3.token.text&&(y2.token.num==y3.token.num&&(y2.token.unit==y3.token.unit&&(y2.token.flag==y3.token.flag&&true))))))) (geti x.1 s1) (default:ze)) fun y4=>
     za (zH (!(!(y2.token.kind==y3.token.kind&&(y2.token.text==y3.token.text&&(y2.token.num==y3.token.num&&(y2.token.unit==y3.token.unit&&(y2.token.flag==y3.token.flag&&true))))))) (geti x.2 s1) (default:ze)) fun y5=>
     za (zH (!(!(y2.token.kind==y3.token.kind&&(y2.token.text==y3.token.text&&(y2.token.num==y3.token.num&&(y2.token.unit==y3.token.unit&&(y2.token.flag==y3.token.flag&&true))))))) (Hg (y4.list,y5.list)) (default:Bool)) fun y6=>
     bif bif !(y2.token.kind==y3.token.kind&&(y2.token.text==y3.token.text&&(y2.token.num==y3.token.num&&(y2.token.unit==y3.token.unit&&(y2.token.flag==y3.token.flag&&true)))))then true else !y6 then
      some (LO.ret false)
     else
      some (LO.again (w64 (s1+1)))
    else
     some (LO.out ()):Int->Option (LO (Int) (Unit) _)) 0 fun o7=>
  some true
def Hg(fu:Nat):List ze×List ze->Option Bool:=QL (ou fu) fu
def Iu(fu:Nat)(x:zQ×zQ):Option Bool:=
 za (zH (bif x.1.name==x.2.name then x.1.important==x.2.important else false) (Hg fu (x.1.value,x.2.value)) (default:Bool)) fun y1=>
 some (bif bif x.1.name==x.2.name then x.1.important==x.2.important else false then y1 else false)
def YA(fu:Nat)(x:List zQ×List zQ):Option Bool:=
 bif (x.1.length:Int) != (x.2.length:Int)then
  some false
 else
  zR fu (fun(s1:Int)=>
    bif decide (s1<(x.1.length:Int))then
     za (geti x.1 s1) fun y2=>
     za (geti x.2 s1) fun y3=>
     za (Iu fu (y2,y3)) fun y4=>
     bif !y4 then
      some (LO.ret false)
     else
      some (LO.again (w64 (s1+1)))
    else
     some (LO.out ()):Int->Option (LO (Int) (Unit) _)) 0 fun o5=>
  some true
def ku(fu:Nat)(Gg:zm×zm->Option Bool)(x:zm×zm):Option Bool:=
 za (zH (!(bif bif x.1.kind != x.2.kind then true else !(x.1.name==x.2.name)then true else x.1.num != x.2.num)) (Iu fu (x.1.decl,x.2.decl)) (default:Bool)) fun y1=>
 bif bif bif bif bif x.1.kind != x.2.kind then true else !(x.1.name==x.2.name)then true else x.1.num != x.2.num then true else !y1 then true else(x.1.list.length:Int) != (x.2.list.length:Int)then
  some false
 else
  zR fu (fun(s2:Int)=>
    bif decide (s2<(x.1.list.length:Int))then
     za (geti x.1.list s2) fun y3=>
     za (geti x.2.list s2) fun y4=>
     za (Gg ((⟨y3.kind,y3.name,y3.num,y3.decl,y3.list⟩:zm),(⟨y4.kind,y4.name,y4.num,y4.decl,y4.list⟩:zm))) fun y5=>
     bif !y5 then
      some (LO.ret false)
     else
      some (LO.again (w64 (s2+1)))
    else
     some (LO.out ()):Int->Option (LO (Int) (Unit) _)) 0 fun o6=>
  some true
def Gg(fu:Nat):zm×zm->Option Bool:=QL (ku fu) fu
def nD(fu:Nat)(x:List (List Str)×List (List Str)):Option Bool:=
 bif (x.1.length:Int) != (x.2.length:Int)then
  some false
 else
  zR fu (fun(s1:Int)=>
    bif decide (s1<(x.1.length:Int))then
     za (geti x.1 s1) fun y2=>
     za (geti x.2 s1) fun y3=>
     bif (y2.length:Int) != (y3.length:Int)then
      some (LO.ret false)
     else
      zR fu (fun(s4:Int)=>
        za (geti x.1 s1) fun y5=>
        bif decide (s4<(y5.length:Int))then
         za (geti x.1 s1) fun y6=>
         za (geti y6 s4) fun y7=>
         za (geti x.2 s1) fun y8=>
         za (geti y8 s4) fun y9=>
         bif !(y7==y9)then
          some (LO.ret (LO.ret false))
         else
          some (LO.again (w64 (s4+1)))
        else
         some (LO.out ()):Int->Option (LO (Int) (Unit) _)) 0 fun o10=>
      some (LO.again (w64 (s1+1)))
    else
     some (LO.out ()):Int->Option (LO (Int) (Unit) _)) 0 fun o11=>
  some true
def eB(fu:Nat)(ZT:List zA×List zA->Option Bool)(x:zA×zA):Option Bool:=
 za (zH (x.1.kind==x.2.kind) (Zl fu (x.1.selectors,x.2.selectors)) (default:Bool)) fun y1=>
 za (zH (bif x.1.kind==x.2.kind then y1 else false) (YA fu (x.1.decls,x.2.decls)) (default:Bool)) fun y2=>
 za (zH (bif bif x.1.kind==x.2.kind then y1 else false then y2 else false) (Gg fu ((⟨x.1.cond.kind,x.1.cond.name,x.1.cond.num,x.1.cond.decl,x.1.cond.list⟩:zm),(⟨x.2.cond.kind,x.2.cond.name,x.2.cond.num,x.2.cond.decl,x.2.cond.list⟩:zm))) (default:Bool)) fun y3=>
 za (zH (bif bif bif x.1.kind==x.2.kind then y1 else false then y2 else false then y3 else false) (nD fu (x.1.names,x.2.names)) (default:Bool)) fun y4=>
 za (zH (bif bif bif bif x.1.kind==x.2.kind then y1 else false then y2 else false then y3 else false then y4 else false) (ZT (x.1.rules,x.2.rules)) (default:Bool)) fun y5=>
 some (bif bif bif bif bif x.1.kind==x.2.kind then y1 else false then y2 else false then y3 else false then y4 else false then y5 else false)
def gu(fu:Nat)(ZT:List zA×List zA->Option Bool)(x:List zA×List zA):Option Bool:=
 bif (x.1.length:Int) != (x.2.length:Int)then
  some false
 else
  zR fu (fun(s1:Int)=>
    bif decide (s1<(x.1.length:Int))then
     za (geti x.1 s1) fun y2=>
     za (geti x.2 s1) fun y3=>
     za (eB fu ZT ((⟨y2.kind,y2.selectors,y2.decls,(⟨y2.cond.kind,y2.cond.name,y2.cond.num,y2.cond.decl,y2.cond.list⟩:zm),y2.names,y2.rules⟩:zA),(⟨y3.kind,y3.selectors,y3.decls,(⟨y3.cond.kind,y3.cond.name,y3.cond.num,y3.cond.decl,y3.cond.list⟩:zm),y3.names,y3.rules⟩:zA))) fun y4=>
     bif !y4 then
      some (LO.ret false)
     else
      some (LO.again (w64 (s1+1)))
    else
     some (LO.out ()):Int->Option (LO (Int) (Unit) _)) 0 fun o5=>
  some true
def ZT(fu:Nat):List zA×List zA->Option Bool:=QL (gu fu) fu
def PD(fu:Nat)(x:qE×qE):Option Bool:=
 za (zH (bif bif x.1.number==x.2.number then x.1.origin==x.2.origin else false then x.1.site==x.2.site else false) (ZT fu (x.1.sheet.rules,x.2.sheet.rules)) (default:Bool)) fun y1=>
 some (bif bif bif x.1.number==x.2.number then x.1.origin==x.2.origin else false then x.1.site==x.2.site else false then y1 else false)
def OD(fu:Nat)(x:List qE×List qE):Option Bool:=
 bif (x.1.length:Int) != (x.2.length:Int)then
  some false
 else
  zR fu (fun(s1:Int)=>
    bif decide (s1<(x.1.length:Int))then
     za (geti x.1 s1) fun y2=>
     za (geti x.2 s1) fun y3=>
     za (PD fu (y2,y3)) fun y4=>
     bif !y4 then
      some (LO.ret false)
     else
      some (LO.again (w64 (s1+1)))
    else
     some (LO.out ()):Int->Option (LO (Int) (Unit) _)) 0 fun o5=>
  some true
def Wt(fu:Nat)(x:zZ×zZ):Option Bool:=
 za (zH (x.1.next==x.2.next) (OD fu (x.1.sheets,x.2.sheets)) (default:Bool)) fun y1=>
 some (bif x.1.next==x.2.next then y1 else false)
def aj(fu:Nat)(x:zZ×Str×Int×Int×Str×Int):Option Bool:=
 za (Tj fu (x.1,x.2.1,x.2.2.1)) fun y1=>
 za (ZN fu (x.1,x.2.1,x.2.2.1,x.2.2.2.1,x.2.2.2.2.1)) fun y2=>
 za (Gi fu (x.1,x.2.1,x.2.2.1,x.2.2.2.1)) fun y3=>
 za (zH (bif bif bif y1.2==x.2.2.2.2.2 then y2.2==x.2.2.2.2.2 else false then y3.2==x.2.2.2.2.2 else false then(y1.1.length:Int)==0 else false) (Wt fu (y2.1,(⟨[],0⟩:zZ))) (default:Bool)) fun y4=>
 za (zH (bif bif bif bif y1.2==x.2.2.2.2.2 then y2.2==x.2.2.2.2.2 else false then y3.2==x.2.2.2.2.2 else false then(y1.1.length:Int)==0 else false then y4 else false) (Wt fu (y3.1,(⟨[],0⟩:zZ))) (default:Bool)) fun y5=>
 some (bif bif bif bif bif y1.2==x.2.2.2.2.2 then y2.2==x.2.2.2.2.2 else false then y3.2==x.2.2.2.2.2 else false then(y1.1.length:Int)==0 else false then y4 else false then y5 else false)
def mD(fu:Nat)(x:List Str×List Str):Option Bool:=
 bif (x.1.length:Int) != (x.2.length:Int)then
  some false
 else
  zR fu (fun(s1:Int)=>
    bif decide (s1<(x.1.length:Int))then
     za (geti x.1 s1) fun y2=>
     za (geti x.2 s1) fun y3=>
     bif !(y2==y3)then
      some (LO.ret false)
     else
      some (LO.again (w64 (s1+1)))
    else
     some (LO.out ()):Int->Option (LO (Int) (Unit) _)) 0 fun o4=>
  some true
def lD(fu:Nat)(x:List Str×List Str):Option Bool:=
 za (mD fu (x.1,x.2)) fun y1=>
 some y1
def uh(fu:Nat)(x:zZ×Str×Int×List Str):Option Bool:=
 za (Tj fu (x.1,x.2.1,x.2.2.1)) fun y1=>
 za (zH (y1.2==0) (lD fu (y1.1,x.2.2.2)) (default:Bool)) fun y2=>
 some (bif y1.2==0 then y2 else false)
def LB(fu:Nat)(x:Unit):Option Bool:=
 za (Ru fu ()) fun y1=>
 za (ZN fu (y1.1,[97],0,1,[68,123,120,58,121,125])) fun y2=>
 za (zH y1.2 (uh fu (y1.1,[97],0,[[98,32,123,125],[99,32,123,125]])) (default:Bool)) fun y3=>
 za (zH (bif bif y1.2 then y3 else false then y2.2==0 else false) (uh fu (y2.1,[97],0,[[98,32,123,125],[100,32,123,32,120,58,32,121,32,125],[99,32,123,125]])) (default:Bool)) fun y4=>
 za (zH (bif bif bif y1.2 then y3 else false then y2.2==0 else false then y4 else false) (aj fu (y1.1,[98],0,(-1),[125],24)) (default:Bool)) fun y5=>
 za (zH (bif bif bif bif y1.2 then y3 else false then y2.2==0 else false then y4 else false then y5 else false) (aj fu (y1.1,[97],1,0,[],6)) (default:Bool)) fun y6=>
 za (zH (bif bif bif bif bif y1.2 then y3 else false then y2.2==0 else false then y4 else false then y5 else false then y6 else false) (aj fu (y1.1,[98],1,0,[],6)) (default:Bool)) fun y7=>
 some (bif bif bif bif bif bif y1.2 then y3 else false then y2.2==0 else false then y4 else false then y5 else false then y6 else false then y7 else false)
def Rw(fu:Nat)(x:Unit):Option Bool:=
 za (Ru fu ()) fun y1=>
 za (ZN fu (y1.1,[97],0,3,[125])) fun y2=>
 za (ZN fu (y1.1,[97],0,(-1),[125])) fun y3=>
 za (ZN fu (y1.1,[97],0,2,[125])) fun y4=>
 za (ZN fu (y1.1,[97],0,0,[100,123,125,101,123,125])) fun y5=>
 za (ZN fu (y1.1,[97],0,0,List.replicate (Int.toNat 4001) (0:UInt8))) fun y6=>
 za (Gi fu (y1.1,[97],0,2)) fun y7=>
 za (Gi fu (y1.1,[97],0,(-1))) fun y8=>
 za (ZN fu (y1.1,[97],0,2,[64,108,97,121,101,114,32,120,59])) fun y9=>
 za (Gi fu (y1.1,[97],0,0)) fun y10=>
 za (Gi fu (y10.1,[97],0,0)) fun y11=>
 zR fu (fun(s12:Str×Int)=>
   bif decide (s12.2<64)then
    need (Yc s12.1.length ([97,123,125]:Str).length)<|
    some (LO.again (s12.1++([97,123,125]:Str),w64 (s12.2+1)))
   else
    some (LO.out s12.1):Str×Int->Option (LO (Str×Int) (Str) _)) ([],0) fun o13=>
 za (Ls fu (y1.1,2,[97],o13)) fun y14=>
 za (ZN fu (y14.1,[97],y14.2.1,64,[98,123,125])) fun y15=>
 za (ZN fu (y14.1,[97],y14.2.1,65,[98,123,125])) fun y16=>
 zR fu (fun(s17:Int×List zA)=>
   bif decide (s17.1<7)then
    za (jA fu ()) fun y18=>
    need (zI s17.2.length 1 208)<|
    some (LO.again (w64 (s17.1+1),s17.2++[(⟨y18.kind,y18.selectors,y18.decls,(⟨y18.cond.kind,y18.cond.name,y18.cond.num,y18.cond.decl,y18.cond.list⟩:zm),y18.names,y18.rules⟩:zA)]))
   else
    some (LO.out s17.2):Int×List zA->Option (LO (Int×List zA) (List zA) _)) (0,[]) fun o19=>
 need (decide (6<=(o19.length:Int)))<|
 za (Gj fu (y1.1,0,(⟨List.take 6 o19⟩:Zi))) fun y20=>
 za (Gj fu (y1.1,0,(⟨o19⟩:Zi))) fun y21=>
 za (Tj fu (y20.1,[97],0)) fun y22=>
 za (Tj fu (y21.1,[97],0)) fun y23=>
 za (yj fu (y1.1,[97],0)) fun y24=>
 za (yj fu (y1.1,[65],0)) fun y25=>
 za (yj fu (y1.1,[97],1)) fun y26=>
 za (yj fu ((⟨[],(-1)⟩:zZ),[97],0)) fun y27=>
 za (zH (bif bif bif bif bif bif bif bif bif bif bif y2.2==2 then y3.2==2 else false then y4.2==12 else false then y5.2==12 else false then y6.2==28 else false then y7.2==2 else false then y8.2==2 else false then y15.2==18 else false then y16.2==2 else false then y23.2==28 else false then y26.2==6 else false then y27.2==8 else false) (aj fu ((⟨[],(-1)⟩:zZ),[97],0,0,[],8)) (default:Bool)) fun y28=>
 za (zH (bif bif y1.2 then bif bif bif bif bif bif bif bif bif bif bif bif y2.2==2 then y3.2==2 else false then y4.2==12 else false then y5.2==12 else false then y6.2==28 else false then y7.2==2 else false then y8.2==2 else false then y15.2==18 else false then y16.2==2 else false then y23.2==28 else false then y26.2==6 else false then y27.2==8 else false then y28 else false else false then y9.2==0 else false) (uh fu (y9.1,[97],0,[[98,32,123,125],[99,32,123,125],[64,108,97,121,101,114,32,120,59]])) (default:Bool)) fun y29=>
 za (zH (bif bif bif bif y1.2 then bif bif bif bif bif bif bif bif bif bif bif bif y2.2==2 then y3.2==2 else false then y4.2==12 else false then y5.2==12 else false then y6.2==28 else false then y7.2==2 else false then y8.2==2 else false then y15.2==18 else false then y16.2==2 else false then y23.2==28 else false then y26.2==6 else false then y27.2==8 else false then y28 else false else false then y9.2==0 else false then y29 else false then y10.2==0 else false) (uh fu (y10.1,[97],0,[[99,32,123,125]])) (default:Bool)) fun y30=>
 za (zH (bif bif bif bif bif bif y1.2 then bif bif bif bif bif bif bif bif bif bif bif bif y2.2==2 then y3.2==2 else false then y4.2==12 else false then y5.2==12 else false then y6.2==28 else false then y7.2==2 else false then y8.2==2 else false then y15.2==18 else false then y16.2==2 else false then y23.2==28 else false then y26.2==6 else false then y27.2==8 else false then y28 else false else false then y9.2==0 else false then y29 else false then y10.2==0 else false then y30 else false then y11.2==0 else false) (uh fu (y11.1,[97],0,[])) (default:Bool)) fun y31=>
 za (zH (bif bif bif bif bif bif bif bif bif bif bif bif y1.2 then bif bif bif bif bif bif bif bif bif bif bif bif y2.2==2 then y3.2==2 else false then y4.2==12 else false then y5.2==12 else false then y6.2==28 else false then y7.2==2 else false then y8.2==2 else false then y15.2==18 else false then y16.2==2 else false then y23.2==28 else false then y26.2==6 else false then y27.2==8 else false then y28 else false else false then y9.2==0 else false then y29 else false then y10.2==0 else false then y30 else false then y11.2==0 else false then y31 else false then y14.2.2==0 else false then y20.2==0 else false then y21.2==0 else false then y22.2==0 else false then(y22.1.length:Int)==6 else false) (geti y22.1 0) (default:Str)) fun y32=>
 za (zH (bif bif bif bif bif bif bif bif bif bif bif bif bif bif bif bif bif y1.2 then bif bif bif bif bif bif bif bif bif bif bif bif y2.2==2 then y3.2==2 else false then y4.2==12 else false then y5.2==12 else false then y6.2==28 else false then y7.2==2 else false then y8.2==2 else false then y15.2==18 else false then y16.2==2 else false then y23.2==28 else false then y26.2==6 else false then y27.2==8 else false then y28 else false else false then y9.2==0 else false then y29 else false then y10.2==0 else false then y30 else false then y11.2==0 else false then y31 else false then y14.2.2==0 else false then y20.2==0 else false then y21.2==0 else false then y22.2==0 else false then(y22.1.length:Int)==6 else false then(y32.length:Int)==3253 else false then y24.2==0 else false then !y24.1 else false then y25.2==0 else false then y25.1 else false) (LB fu ()) (default:Bool)) fun y33=>
 some (bif bif bif bif bif bif bif bif bif bif bif bif bif bif bif bif bif bif y1.2 then bif bif bif bif bif bif bif bif bif bif bif bif y2.2==2 then y3.2==2 else false then y4.2==12 else false then y5.2==12 else false then y6.2==28 else false then y7.2==2 else false then y8.2==2 else false then y15.2==18 else false then y16.2==2 else false then y23.2==28 else false then y26.2==6 else false then y27.2==8 else false then y28 else false else false then y9.2==0 else false then y29 else false then y10.2==0 else false then y30 else false then y11.2==0 else false then y31 else false then y14.2.2==0 else false then y20.2==0 else false then y21.2==0 else false then y22.2==0 else false then(y22.1.length:Int)==6 else false then(y32.length:Int)==3253 else false then y24.2==0 else false then !y24.1 else false then y25.2==0 else false then y25.1 else false then y33 else false)
end Go.Lv.VT
end
