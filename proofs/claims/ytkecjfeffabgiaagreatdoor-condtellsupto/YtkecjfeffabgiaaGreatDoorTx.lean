/- Texts. -/
import Derived.Test.YtkecjfeffabgiaaGreatDoorTy
import Derived.Test.YtkecjfeffabgiaaGreatDoorLf
noncomputable section
set_option linter.unusedSimpArgs false
set_option linter.unusedVariables false
namespace Go.Lv.VT
set_option maxRecDepth 100000
def Gw(qD:zg×Int->Option Int)(x:zg×Int):Option Int:=
 zS (fun(s1:Int×Int)=>
   bif bif decide (s1.2<(x.1.list.length:Int))then decide (s1.1<=x.2)else false then
    za (geti x.1.list s1.2) fun y2=>
    za (qD ((⟨y2.kind,y2.name,y2.num,y2.decl,y2.list⟩:zg),w64 (x.2 - s1.1))) fun y3=>
    some (LO.again (w64 (s1.1+y3),w64 (s1.2+1)))
   else
    some (LO.out s1.1):Int×Int->Option (LO (Int×Int) (Int) _)) (1,0) fun o4=>
 some o4
def qD:zg×Int->Option Int:=recE (Gw)
def Hw(Qz:List zh×Int->Option Int)(x:List zh×Int):Option Int:=
 zS (fun(s1:Int×Int)=>
   bif bif decide (s1.2<(x.1.length:Int))then decide (s1.1<=x.2)else false then
    za (geti x.1 s1.2) fun y2=>
    za (geti x.1 s1.2) fun y3=>
    za (geti x.1 s1.2) fun y4=>
    za (Qz (y4.list,w64 (x.2 - s1.1))) fun y5=>
    some (LO.again (w64 (s1.1+w64 (w64 (w64 (1+(y2.token.text.length:Int))+(y3.token.unit.length:Int))+y5)),w64 (s1.2+1)))
   else
    some (LO.out s1.1):Int×Int->Option (LO (Int×Int) (Int) _)) (0,0) fun o6=>
 some o6
def Qz:List zh×Int->Option Int:=recE (Hw)
def Q3(x:Int):Option Int:=
 bif x==19 then
  some 20
 else
  zP (X:=Bool) (
    bif x==21 then
     some (LX.out (x==21))
    else
     some (LX.out (x==2))) fun j1=>
  bif j1 then
   some 22
  else
   bif x==23 then
    some 24
   else
    some 0
def JG(Qd:List zh->Option Int)(x:List zh):Option Int:=
 zS (fun(s1:Int×Int)=>
   bif decide (s1.2<(x.length:Int))then
    zP (X:=Int×Int) (
      za (geti x s1.2) fun y2=>
      za (Q3 y2.token.kind) fun y3=>
      bif y3 != 0 then
       za (geti x s1.2) fun y4=>
       za (Qd y4.list) fun y5=>
       some (LX.out (if w64 (1+y5)>s1.1 then w64 (1+y5)else s1.1,s1.2))
      else
       some (LX.out (s1.1,s1.2))) fun j6=>
    some (LO.again (j6.1,w64 (j6.2+1)))
   else
    some (LO.out s1.1):Int×Int->Option (LO (Int×Int) (Int) _)) (0,0) fun o7=>
 some o7
def Qd:List zh->Option Int:=recE (JG)
def GA(x:List z8):Option Bool:=
 bif decide ((x.length:Int)>40)then
  some true
 else
  zS (fun(s1:Int×Int)=>
    bif decide (s1.2<(x.length:Int))then
     za (geti x s1.2) fun y2=>
     za (geti x s1.2) fun y3=>
     za (Qz (y3.value,300)) fun y4=>
     za (zq (!(decide (w64 (s1.1+w64 ((y2.name.length:Int)+y4))>300))) (geti x s1.2) (default:z8)) fun y5=>
     za (zq (!(decide (w64 (s1.1+w64 ((y2.name.length:Int)+y4))>300))) (Qd y5.value) (default:Int)) fun y6=>
     bif bif decide (w64 (s1.1+w64 ((y2.name.length:Int)+y4))>300)then true else decide (y6>40)then
      some (LO.ret true)
     else
      some (LO.again (w64 (s1.1+w64 ((y2.name.length:Int)+y4)),w64 (s1.2+1)))
    else
     some (LO.out ()):Int×Int->Option (LO (Int×Int) (Unit) _)) (0,0) fun o7=>
  some false
def Fw(ik:zg->Option Bool)(x:zg):Option Bool:=
 za (GA [x.decl]) fun y1=>
 bif bif y1 then true else decide ((x.name.length:Int)>200)then
  some true
 else
  zS (fun(s2:Int)=>
    bif decide (s2<(x.list.length:Int))then
     za (geti x.list s2) fun y3=>
     za (ik (⟨y3.kind,y3.name,y3.num,y3.decl,y3.list⟩:zg)) fun y4=>
     bif y4 then
      some (LO.ret true)
     else
      some (LO.again (w64 (s2+1)))
    else
     some (LO.out ()):Int->Option (LO (Int) (Unit) _)) 0 fun o5=>
  some false
def ik:zg->Option Bool:=recE (Fw)
def yz(x:zg):Option Bool:=
 za (qD ((⟨x.kind,x.name,x.num,x.decl,x.list⟩:zg),100)) fun y1=>
 za (zq (!(decide (y1>100))) (ik (⟨x.kind,x.name,x.num,x.decl,x.list⟩:zg)) (default:Bool)) fun y2=>
 some (bif decide (y1>100)then true else y2)
def Jn(x:Int):Option Int:=
 bif x==2 then
  some 22
 else
  zP (X:=Bool) (
    bif x==19 then
     some (LX.out (x==19))
    else
     bif x==21 then
      some (LX.out (x==21))
     else
      some (LX.out (x==23))) fun j1=>
  bif j1 then
   some (wu8 (x+1))
  else
   some 0
def oF(sj:List zh×Int->Option Ze)(x:List zh×Int):Option Ze:=
 zS (fun(s1:Int×Ze)=>
   bif decide (s1.1<(x.1.length:Int))then
    zP (X:=Int×Ze) (
      za (geti x.1 s1.1) fun y2=>
      za (Jn y2.token.kind) fun y3=>
      zP (X:=Ze) (
        bif bif bif x.2 != 0 then y2.token.kind==x.2 else false then true else bif y3==0 then decide ((y2.list.length:Int)>0)else false then
         some (LX.out (⟨s1.2.depth,w64 (s1.2.tokens+1),true⟩:Ze))
        else
         some (LX.out (⟨s1.2.depth,w64 (s1.2.tokens+1),s1.2.bad⟩:Ze))) fun j4=>
      bif y3==0 then
       some (LX.out (s1.1,j4))
      else
       za (sj (y2.list,y3)) fun y5=>
       some (LX.out (s1.1,(⟨if w64 (y5.depth+1)>j4.depth then w64 (y5.depth+1)else j4.depth,w64 (w64 (j4.tokens+y5.tokens)+1),bif j4.bad then true else y5.bad⟩:Ze)))) fun j6=>
    some (LO.again (w64 (j6.1+1),j6.2))
   else
    some (LO.out s1.2):Int×Ze->Option (LO (Int×Ze) (Ze) _)) (0,(⟨0,0,false⟩:Ze)) fun o7=>
 some o7
def sj:List zh×Int->Option Ze:=recE (oF)
def uk(x:List zh):Option Int:=
 za (sj (x,0)) fun y1=>
 bif decide (y1.depth>16)then
  some 20
 else
  bif decide (y1.tokens>1500)then
   some 4
  else
   bif y1.bad then
    some 8
   else
    some 0
def az(x:List zh):Option (Int×Int):=
 za (uk x) fun y1=>
 bif y1 != 0 then
  some (0,y1)
 else
  za (sj (x,0)) fun y2=>
  some (y2.depth,0)
def SG(Xl:List zh×List ze->Option (List ze))(x:List zh×List ze):Option (List ze):=
 zS (fun(s1:Int×List ze)=>
   bif decide (s1.1<(x.1.length:Int))then
    zP (X:=Int×List ze) (
      za (geti x.1 s1.1) fun y2=>
      need (Zj s1.2.length 1 56)<|
      za (Jn y2.token.kind) fun y3=>
      bif y3 != 0 then
       za (Xl (y2.list,s1.2++[y2.token])) fun y4=>
       need (Zj y4.length 1 56)<|
       some (LX.out (s1.1,y4++[(⟨y3,[],0,[],false⟩:ze)]))
      else
       some (LX.out (s1.1,s1.2++[y2.token]))) fun j5=>
    some (LO.again (w64 (j5.1+1),j5.2))
   else
    some (LO.out s1.2):Int×List ze->Option (LO (Int×List ze) (List ze) _)) (0,x.2) fun o6=>
 some o6
def Xl:List zh×List ze->Option (List ze):=recE (SG)
def Ep(x:List zh):Option (List ze):=
 zS (fun(s1:Int×List ze)=>
   bif decide (s1.1<(x.length:Int))then
    zP (X:=Int×List ze) (
      za (geti x s1.1) fun y2=>
      need (Zj s1.2.length 1 56)<|
      za (Jn y2.token.kind) fun y3=>
      bif y3 != 0 then
       za (Xl (y2.list,s1.2++[y2.token])) fun y4=>
       need (Zj y4.length 1 56)<|
       some (LX.out (s1.1,y4++[(⟨y3,[],0,[],false⟩:ze)]))
      else
       some (LX.out (s1.1,s1.2++[y2.token]))) fun j5=>
    some (LO.again (w64 (j5.1+1),j5.2))
   else
    some (LO.out s1.2):Int×List ze->Option (LO (Int×List ze) (List ze) _)) (0,[]) fun o6=>
 some o6
def Dz(x:List zh):Option (List ze×Int):=
 za (uk x) fun y1=>
 bif y1 != 0 then
  some ([],y1)
 else
  za (Ep x) fun y2=>
  some (y2,0)
def strings_IndexByte(x:Str×Int):Option Int:=
 za (Oy (x.1,x.2)) fun y1=>
 some y1
def stringslite_HasPrefix(x:Str×Str):Option Bool:=
 need (decide (0<=(x.2.length:Int))&&decide ((x.2.length:Int)<=(x.1.length:Int))|| !(decide ((x.1.length:Int)>=(x.2.length:Int))))<|
 some (bif decide ((x.1.length:Int)>=(x.2.length:Int))then List.take x.2.length x.1==x.2 else false)
def strings_HasPrefix(x:Str×Str):Option Bool:=
 za (stringslite_HasPrefix (x.1,x.2)) fun y1=>
 some y1
def Qj(x:Str):Option Str:=
 need (decide (x.length<=maxLen))<|
 zS (fun(s1:Int×List UInt8)=>
   bif decide (s1.1<(x.length:Int))then
    zP (X:=Int×List UInt8) (
      need (decide (0<=s1.1)&&decide (s1.1<(s1.2.length:Int)))<|
      za s1.2[s1.1.toNat]? fun y2=>
      bif bif decide (65<=(y2.toNat:Int))then decide ((y2.toNat:Int)<=90)else false then
       need (decide (0<=s1.1)&&decide (s1.1<(s1.2.length:Int)))<|
       za s1.2[s1.1.toNat]? fun y3=>
       need (decide (0<=s1.1)&&decide (s1.1<(s1.2.length:Int)))<|
       za s1.2[s1.1.toNat]? fun y4=>
       za (qb (ibOr IntKind.u8 (y3.toNat:Int) 32)) fun y5=>
       some (LX.out (s1.1,List.set s1.2 s1.1.toNat y5))
      else
       some (LX.out (s1.1,s1.2))) fun j6=>
    some (LO.again (w64 (j6.1+1),j6.2))
   else
    some (LO.out s1.2):Int×List UInt8->Option (LO (Int×List UInt8) (List UInt8) _)) (0,x) fun o7=>
 some o7
def kz(x:Str):Option Bool:=
 za (zq (!(bif x==[]then true else decide ((x.length:Int)>64))) (strings_IndexByte (x,0)) (default:Int)) fun y1=>
 bif bif bif x==[]then true else decide ((x.length:Int)>64)then true else decide (y1>=0)then
  some false
 else
  za (strings_HasPrefix (x,[45,45])) fun y2=>
  bif y2 then
   some (!(x==[45,45]))
  else
   za (Qj x) fun y3=>
   some (x==y3)
def stringslite_TrimPrefix(x:Str×Str):Option Str:=
 za (stringslite_HasPrefix (x.1,x.2)) fun y1=>
 bif y1 then
  need (decide (0<=(x.2.length:Int))&&decide ((x.2.length:Int)<=(x.1.length:Int)))<|
  some (List.drop x.2.length x.1)
 else
  some x.1
def strings_TrimPrefix(x:Str×Str):Option Str:=
 za (stringslite_TrimPrefix (x.1,x.2)) fun y1=>
 some y1
def qI(x:Int):Option Bool:=
 some (bif decide (48<=x)then decide (x<=57)else false)
def Cs(x:Str):Option Bool:=
 za (strings_TrimPrefix (x,[45])) fun y1=>
 za (zq (!(y1==[])) (geti y1 0) 0) fun y2=>
 za (zq (!(y1==[])) (qI (y2.toNat:Int)) (default:Bool)) fun y3=>
 some (bif !(y1==[])then y3 else false)
def Vv(x:Int):Option Bool:=
 some (bif bif decide (97<=ibOr IntKind.u8 x 32)then decide (ibOr IntKind.u8 x 32<=122)else false then decide (x<128)else false)
def il(x:Int):Option Bool:=
 za (Vv x) fun y1=>
 za (zq (!y1) (qI x) (default:Bool)) fun y2=>
 some (bif bif bif bif y1 then true else y2 then true else x==95 then true else x==45 then true else decide (x>=128))
def strings_Contains(x:Str×Str):Option Bool:=
 za (Km (x.1,x.2)) fun y1=>
 some (decide (y1>=0))
def Gv(x:ze):Option Bool:=
 need (zO x.text.length x.unit.length)<|
 za (strings_IndexByte (x.text++x.unit,0)) fun y1=>
 zP (X:=Bool×Bool×Bool×Bool×Bool) (
   zP (X:=Bool×Bool×Bool×Bool×Bool×Bool) (
     bif x.kind==1 then
      some (LX.out (false,false,false,false,decide (y1<0),x.kind==1))
     else
      bif x.kind==2 then
       some (LX.out (false,false,false,false,decide (y1<0),x.kind==2))
      else
       some (LX.out (false,false,false,false,decide (y1<0),x.kind==3))) fun j2=>
   bif j2.2.2.2.2.2 then
    some (LX.out (true,j2.2.1,j2.2.2.1,j2.2.2.2.1,bif j2.2.2.2.2.1 then !(x.text==[])else false))
   else
    bif x.kind==4 then
     za (zq (!x.flag&&(bif j2.2.2.2.2.1 then !(x.text==[])else false)) (Cs x.text) (default:Bool)) fun y3=>
     za (zq (y3&&(!x.flag&&(bif j2.2.2.2.2.1 then !(x.text==[])else false))) (strings_HasPrefix (x.text,[45,45])) (default:Bool)) fun y4=>
     some (LX.out (true,j2.2.1,j2.2.2.1,true,bif bif j2.2.2.2.2.1 then !(x.text==[])else false then bif bif x.flag then true else bif y3 then !y4 else false then true else x.text==[45]else false))
    else
     zP (X:=Bool×Bool×Bool×Bool×Bool×Bool) (
       bif x.kind==5 then
        some (LX.out (j2.1,j2.2.1,j2.2.2.1,j2.2.2.2.1,j2.2.2.2.2.1,x.kind==5))
       else
        some (LX.out (j2.1,j2.2.1,j2.2.2.1,j2.2.2.2.1,j2.2.2.2.2.1,x.kind==7))) fun j5=>
     bif j5.2.2.2.2.2 then
      some (LX.out (true,j5.2.1,j5.2.2.1,j5.2.2.2.1,j5.2.2.2.2.1))
     else
      bif x.kind==9 then
       za (zq (bif j5.2.2.2.2.1 then(x.text.length:Int)==1 else false) (geti x.text 0) 0) fun y6=>
       za (zq (bif j5.2.2.2.2.1 then(x.text.length:Int)==1 else false) (il (y6.toNat:Int)) (default:Bool)) fun y7=>
       za (zq (bif bif bif j5.2.2.2.2.1 then(x.text.length:Int)==1 else false then !y7 else false then true else x.text==[45]) (strings_Contains ([32,9,10,12,13,34,39,58,59,44,91,93,40,41,123,125],x.text)) (default:Bool)) fun y8=>
       some (LX.out (true,j5.2.1,j5.2.2.1,j5.2.2.2.1,bif bif bif bif j5.2.2.2.2.1 then(x.text.length:Int)==1 else false then !y7 else false then true else x.text==[45]then !y8 else false))
      else
       zP (X:=Bool×Bool×Bool×Bool×Bool) (
         bif x.kind==10 then
          some (LX.out (j5.2.1,j5.2.2.1,j5.2.2.2.1,j5.2.2.2.2.1,x.kind==10))
         else
          bif x.kind==11 then
           some (LX.out (j5.2.1,j5.2.2.1,j5.2.2.2.1,j5.2.2.2.2.1,x.kind==11))
          else
           some (LX.out (j5.2.1,j5.2.2.1,j5.2.2.2.1,j5.2.2.2.2.1,x.kind==12))) fun j9=>
       bif j9.2.2.2.2 then
        some (LX.out (j5.1,x.kind==12,true,x.kind != 11,bif bif bif bif j9.2.2.2.1 then decide (x.num>=(-1000000000000))else false then decide (x.num<=1000000000000)else false then bif !x.flag then true else Int.tmod x.num 1000==0 else false then bif !(x.kind==12)then true else !(x.unit==[])else false))
       else
        some (LX.out (j5.1,j9.1,j9.2.1,j9.2.2.1,bif decide (x.kind>=13)then decide (x.kind<=24)else false))) fun j10=>
 some (bif bif bif bif j10.2.2.2.2 then bif j10.1 then true else x.text==[]else false then bif j10.2.1 then true else x.unit==[]else false then bif j10.2.2.1 then true else x.num==0 else false then bif j10.2.2.2.1 then true else !x.flag else false)
def ZN(x:(Int×Int)×List ze):Option Bool:=
 za (zq (decide (x.1.1<(x.2.length:Int))) (geti x.2 x.1.1) (default:ze)) fun y1=>
 some (bif decide (x.1.1<(x.2.length:Int))then y1.kind==x.1.2 else false)
def Kn(x:Str×Str):Option Bool:=
 za (Qj x.1) fun y1=>
 za (Qj x.2) fun y2=>
 some (y1==y2)
def QS(x:List ze):Option Int:=
 za (geti x 0) fun y1=>
 bif bif y1.kind==9 then y1.text==[92]else false then
  za (ZN ((1,13),x)) fun y2=>
  bif !y2 then
   some 0
  else
   some 2
 else
  za (zq (y1.kind==2) (Kn (y1.text,[117,114,108])) (default:Bool)) fun y3=>
  bif bif y1.kind==2 then y3 else false then
   zP (X:=Int) (
     za (ZN ((1,13),x)) fun y4=>
     bif y4 then
      some (LX.out 2)
     else
      some (LX.out 1)) fun j5=>
   za (ZN ((j5,5),x)) fun y6=>
   bif !y6 then
    some 0
   else
    some (w64 (j5+1))
  else
   some 1
def QR(x:List ze):Option Int:=
 bif decide ((x.length:Int)>1500)then
  some 4
 else
  zS (fun(s1:Int)=>
    bif decide (s1<(x.length:Int))then
     za (geti x s1) fun y2=>
     za (Gv y2) fun y3=>
     need (decide (0<=s1)&&decide (s1<=(x.length:Int))|| !(!(!y3)))<|
     za (zq (!(!y3)) (QS (List.drop s1.toNat x)) (default:Int)) fun y4=>
     bif bif !y3 then true else y4==0 then
      some (LO.ret 8)
     else
      some (LO.again (w64 (s1+1)))
    else
     some (LO.out ()):Int->Option (LO (Int) (Unit) _)) 0 fun o5=>
  some 0
def xh(x:zh×Int):Option Bool:=
 some (x.1.token.kind==x.2)
def Sw(zI:List zh->Option Bool)(x:zh):Option Bool:=
 za (xh ((⟨x.token,x.list⟩:zh),20)) fun y1=>
 za (zq (!y1) (xh ((⟨x.token,x.list⟩:zh),22)) (default:Bool)) fun y2=>
 za (zq (!(bif y1 then true else y2)) (xh ((⟨x.token,x.list⟩:zh),24)) (default:Bool)) fun y3=>
 za (zq (!(bif bif y1 then true else y2 then true else y3)) (zI x.list) (default:Bool)) fun y4=>
 some (bif bif bif y1 then true else y2 then true else y3 then true else y4)
def QM(zI:List zh->Option Bool)(x:List zh):Option Int:=
 zS (fun(s1:Int)=>
   bif decide (s1<(x.length:Int))then
    za (geti x s1) fun y2=>
    za (Sw zI (⟨y2.token,y2.list⟩:zh)) fun y3=>
    bif y3 then
     some (LO.ret s1)
    else
     some (LO.again (w64 (s1+1)))
   else
    some (LO.out ()):Int->Option (LO (Int) (Unit) _)) 0 fun o4=>
 some (-1)
def qV(zI:List zh->Option Bool)(x:List zh):Option Bool:=
 za (QM zI x) fun y1=>
 some (decide (y1>=0))
def kG(zI:List zh->Option Bool)(x:List zh):Option Bool:=
 za (qV zI x) fun y1=>
 some y1
def zI:List zh->Option Bool:=recE (kG)
def TF(x:zh):Option Bool:=
 za (xh ((⟨x.token,x.list⟩:zh),9)) fun y1=>
 some (bif y1 then x.token.text==[33]else false)
def XA(x:zh):Option Bool:=
 za (xh ((⟨x.token,x.list⟩:zh),17)) fun y1=>
 za (zq (!y1) (TF (⟨x.token,x.list⟩:zh)) (default:Bool)) fun y2=>
 some (bif y1 then true else y2)
def Qf(x:List zh):Option Int:=
 zS (fun(s1:Int)=>
   bif decide (s1<(x.length:Int))then
    za (geti x s1) fun y2=>
    za (XA (⟨y2.token,y2.list⟩:zh)) fun y3=>
    bif y3 then
     some (LO.ret s1)
    else
     some (LO.again (w64 (s1+1)))
   else
    some (LO.out ()):Int->Option (LO (Int) (Unit) _)) 0 fun o4=>
 some (-1)
def ZT(x:List zh):Option Bool:=
 za (Qf x) fun y1=>
 some (decide (y1>=0))
def wo(x:z8):Option Int:=
 za (Dz x.value) fun y1=>
 za (kz x.name) fun y2=>
 za (zq (!(bif !y2 then true else y1.2 != 0)) (QR y1.1) (default:Int)) fun y3=>
 za (zq (!(bif bif !y2 then true else y1.2 != 0 then true else y3 != 0)) (zI x.value) (default:Bool)) fun y4=>
 bif bif bif bif !y2 then true else y1.2 != 0 then true else y3 != 0 then true else y4 then
  some 8
 else
  za (ZT x.value) fun y5=>
  bif y5 then
   some 8
  else
   za (zq ((x.value.length:Int)==0) (strings_HasPrefix (x.name,[45,45])) (default:Bool)) fun y6=>
   za (zq (decide ((x.value.length:Int)>0)&& !(bif (x.value.length:Int)==0 then !y6 else false)) (geti x.value 0) (default:zh)) fun y7=>
   za (zq (decide ((x.value.length:Int)>0)&& !(bif (x.value.length:Int)==0 then !y6 else false)) (xh ((⟨y7.token,y7.list⟩:zh),13)) (default:Bool)) fun y8=>
   za (zq (!y8&&(decide ((x.value.length:Int)>0)&& !(bif (x.value.length:Int)==0 then !y6 else false))) (geti x.value (w64 ((x.value.length:Int) - 1))) (default:zh)) fun y9=>
   za (zq (!y8&&(decide ((x.value.length:Int)>0)&& !(bif (x.value.length:Int)==0 then !y6 else false))) (xh ((⟨y9.token,y9.list⟩:zh),13)) (default:Bool)) fun y10=>
   bif bif bif (x.value.length:Int)==0 then !y6 else false then true else bif decide ((x.value.length:Int)>0)then bif y8 then true else y10 else false then
    some 8
   else
    some 0
def QV(x:zg):Option Bool:=
 some (bif bif bif bif x.name==[]then x.num==0 else false then x.decl.name==[]else false then(x.decl.value.length:Int)==0 else false then !x.decl.important else false)
def Cr(x:zg):Option Bool:=
 some (bif x.kind==7 then true else x.kind==8)
def Xv(Nj:zg×Int->Option ((Int×Bool)×Int))(x:zg×Int):Option ((Int×Bool)×Int):=
 bif decide (w64 (x.2+1)>1500)then
  some ((0,false),w64 (x.2+1))
 else
  bif x.1.kind==7 then
   za (az x.1.decl.value) fun y1=>
   za (zq (bif bif bif (x.1.list.length:Int)==0 then x.1.name==[]else false then x.1.num==0 else false then y1.2==0 else false) (wo x.1.decl) (default:Int)) fun y2=>
   some ((w64 (y1.1+1),bif bif bif bif (x.1.list.length:Int)==0 then x.1.name==[]else false then x.1.num==0 else false then y1.2==0 else false then y2==0 else false),w64 (x.2+1))
  else
   bif x.1.kind==8 then
    za (zq ((x.1.list.length:Int)==0) (QV (⟨x.1.kind,x.1.name,x.1.num,x.1.decl,x.1.list⟩:zg)) (default:Bool)) fun y3=>
    some ((1,bif (x.1.list.length:Int)==0 then y3 else false),w64 (x.2+1))
   else
    zP (X:=Bool) (
      bif x.1.kind==3 then
       some (LX.out (x.1.kind==3))
      else
       bif x.1.kind==1 then
        some (LX.out (x.1.kind==1))
       else
        some (LX.out (x.1.kind==2))) fun j4=>
    bif j4 then
     za (QV (⟨x.1.kind,x.1.name,x.1.num,x.1.decl,x.1.list⟩:zg)) fun y5=>
     bif bif bif !y5 then true else bif x.1.kind==3 then(x.1.list.length:Int) != 1 else false then true else bif x.1.kind != 3 then decide ((x.1.list.length:Int)<2)else false then
      some ((0,false),w64 (x.2+1))
     else
      zS (fun(s6:(Int×Int)×Int)=>
        bif decide (s6.1.2<(x.1.list.length:Int))then
         za (geti x.1.list s6.1.2) fun y7=>
         za (Nj ((⟨y7.kind,y7.name,y7.num,y7.decl,y7.list⟩:zg),s6.2)) fun y8=>
         bif !y8.1.2 then
          some (LO.ret ((0,false),y8.2))
         else
          zP (X:=Int×Int) (
            za (Cr (⟨y7.kind,y7.name,y7.num,y7.decl,y7.list⟩:zg)) fun y9=>
            bif !y9 then
             some (LX.out (s6.1.1,w64 (y8.1.1+1)))
            else
             some (LX.out (s6.1.1,y8.1.1))) fun j10=>
          some (LO.again ((if j10.2>j10.1 then j10.2 else j10.1,w64 (s6.1.2+1)),y8.2))
        else
         some (LO.out (s6.1.1,s6.2)):(Int×Int)×Int->Option (LO ((Int×Int)×Int) (Int×Int) _)) ((0,0),w64 (x.2+1)) fun o11=>
      some ((o11.1,true),o11.2)
    else
     some ((0,false),w64 (x.2+1))
def Nj:zg×Int->Option ((Int×Bool)×Int):=recE (Xv)
def ZH(x:zg):Option Int:=
 za (Nj ((⟨x.kind,x.name,x.num,x.decl,x.list⟩:zg),0)) fun y1=>
 bif bif !y1.1.2 then true else decide (y1.1.1>16)then
  some 8
 else
  some 0
def Tv(x:Int×List zh):Option Bool:=
 za (geti x.2 x.1) fun y1=>
 some (y1.token.kind==13)
def Q5(x:List zh):Option (List zh):=
 bif x.isEmpty then
  both (
    some []) (
    need (Zj 0 x.length 80)<|
    some x)
 else
  need (Zj 0 x.length 80)<|
  some x
def mF(Sl:List zh->Option (List zh))(x:List zh):Option (List zh):=
 za (Q5 x) fun y1=>
 zS (fun(s2:Int×List zh)=>
   bif decide (s2.1<(y1.length:Int))then
    need (decide (0<=s2.1)&&decide (s2.1<(s2.2.length:Int)))<|
    za s2.2[s2.1.toNat]? fun y3=>
    za (Sl y3.list) fun y4=>
    need (decide (0<=s2.1)&&decide (s2.1<(s2.2.length:Int)))<|
    za s2.2[s2.1.toNat]? fun y5=>
    some (LO.again (w64 (s2.1+1),List.set s2.2 s2.1.toNat (⟨y5.token,y4⟩:zh)))
   else
    some (LO.out s2.2):Int×List zh->Option (LO (Int×List zh) (List zh) _)) (0,y1) fun o6=>
 some o6
def Sl:List zh->Option (List zh):=recE (mF)
def wm(x:List zh):Option (List zh×Int):=
 za (uk x) fun y1=>
 bif y1 != 0 then
  some ([],y1)
 else
  zS (fun(s2:Int)=>
    za (zq (decide (s2<(x.length:Int))) (Tv (s2,x)) (default:Bool)) fun y3=>
    bif bif decide (s2<(x.length:Int))then y3 else false then
     some (LO.again (w64 (s2+1)))
    else
     some (LO.out s2):Int->Option (LO (Int) (Int) _)) 0 fun o4=>
  zS (fun(s5:Int)=>
    za (zq (decide (o4<s5)) (Tv (w64 (s5 - 1),x)) (default:Bool)) fun y6=>
    bif bif decide (o4<s5)then y6 else false then
     some (LO.again (w64 (s5 - 1)))
    else
     some (LO.out s5):Int->Option (LO (Int) (Int) _)) (x.length:Int) fun o7=>
  need (decide (0<=o4)&&(decide (o4<=o7)&&(decide (o7<=o7)&&decide (o7<=(x.length:Int))))&&decide (o7=o7))<|
  za (Sl (List.drop o4.toNat (List.take o7.toNat x))) fun y8=>
  some (y8,0)
def wF(QQ:zg->Option (List z8))(x:zg):Option (List z8):=
 bif x.kind==7 then
  za (wm x.decl.value) fun y1=>
  some [(⟨x.decl.name,y1.1,x.decl.important⟩:z8)]
 else
  zS (fun(s2:Int×List z8)=>
    bif decide (s2.1<(x.list.length:Int))then
     za (geti x.list s2.1) fun y3=>
     za (QQ (⟨y3.kind,y3.name,y3.num,y3.decl,y3.list⟩:zg)) fun y4=>
     need (Zj s2.2.length y4.length 48)<|
     some (LO.again (w64 (s2.1+1),s2.2++y4))
    else
     some (LO.out s2.2):Int×List z8->Option (LO (Int×List z8) (List z8) _)) (0,[]) fun o5=>
  some o5
def QQ:zg->Option (List z8):=recE (wF)
def Sz(x:zg):Option (List z8×Int):=
 za (ZH (⟨x.kind,x.name,x.num,x.decl,x.list⟩:zg)) fun y1=>
 bif y1 != 0 then
  some ([],y1)
 else
  za (QQ (⟨x.kind,x.name,x.num,x.decl,x.list⟩:zg)) fun y2=>
  some (y2,0)
def EG(ll:zg->Option Int)(x:zg):Option Int:=
 bif x.kind==7 then
  za (Qd x.decl.value) fun y1=>
  some (w64 (1+y1))
 else
  bif x.kind==8 then
   some 1
  else
   zS (fun(s2:Int×Int)=>
     bif decide (s2.2<(x.list.length:Int))then
      za (geti x.list s2.2) fun y3=>
      zP (X:=Int×Int) (
        bif bif y3.kind==7 then true else y3.kind==8 then
         some (LX.out (s2.1,0))
        else
         some (LX.out (s2.1,1))) fun j4=>
      za (geti x.list s2.2) fun y5=>
      za (ll (⟨y5.kind,y5.name,y5.num,y5.decl,y5.list⟩:zg)) fun y6=>
      some (LO.again (if w64 (j4.2+y6)>j4.1 then w64 (j4.2+y6)else j4.1,w64 (s2.2+1)))
     else
      some (LO.out s2.1):Int×Int->Option (LO (Int×Int) (Int) _)) (0,0) fun o7=>
   some o7
def ll:zg->Option Int:=recE (EG)
def qd(x:Int):Option Int:=
 bif bif decide (x>=65)then decide (x<=90)else false then
  some (wu8 (wu8 (x - 65)+97))
 else
  some x
def qK(x:Str):Option Str:=
 need (decide (x.length<=maxLen))<|
 zS (fun(s1:Int×List UInt8)=>
   bif decide (s1.1<(s1.2.length:Int))then
    need (decide (0<=s1.1)&&decide (s1.1<(s1.2.length:Int)))<|
    za s1.2[s1.1.toNat]? fun y2=>
    za (qd (y2.toNat:Int)) fun y3=>
    need (decide (0<=s1.1)&&decide (s1.1<(s1.2.length:Int)))<|
    za s1.2[s1.1.toNat]? fun y4=>
    za (qb y3) fun y5=>
    some (LO.again (w64 (s1.1+1),List.set s1.2 s1.1.toNat y5))
   else
    some (LO.out s1.2):Int×List UInt8->Option (LO (Int×List UInt8) (List UInt8) _)) (0,x) fun o6=>
 some o6
def EA(x:Str):Option Bool:=
 bif bif decide ((x.length:Int)<1)then true else decide ((x.length:Int)>64)then
  some false
 else
  zS (fun(s1:Int)=>
    bif decide (s1<(x.length:Int))then
     za (geti x s1) fun y2=>
     bif (y2.toNat:Int)==0 then
      some (LO.ret false)
     else
      some (LO.again (w64 (s1+1)))
    else
     some (LO.out ()):Int->Option (LO (Int) (Unit) _)) 0 fun o3=>
  need (decide (2<=(x.length:Int))|| !(decide ((x.length:Int)>=2)))<|
  bif bif decide ((x.length:Int)>=2)then List.take 2 x==[45,45]else false then
   some (decide ((x.length:Int)>2))
  else
   za (qK x) fun y4=>
   some (x==y4)
def bG(Z4:List zh->Option (List ze))(x:List zh):Option (List ze):=
 zS (fun(s1:Int×List ze)=>
   bif decide (s1.1<(x.length:Int))then
    zP (X:=Int×List ze) (
      za (geti x s1.1) fun y2=>
      need (Zj s1.2.length 1 56)<|
      za (geti x s1.1) fun y3=>
      za (Q3 y3.token.kind) fun y4=>
      bif y4 != 0 then
       za (geti x s1.1) fun y5=>
       za (Z4 y5.list) fun y6=>
       need (Zj (s1.2++[y2.token]).length y6.length 56)<|
       need (Zj (s1.2++[y2.token]++y6).length 1 56)<|
       some (LX.out (s1.1,s1.2++[y2.token]++y6++[(⟨y4,[],0,[],false⟩:ze)]))
      else
       some (LX.out (s1.1,s1.2++[y2.token]))) fun j7=>
    some (LO.again (w64 (j7.1+1),j7.2))
   else
    some (LO.out s1.2):Int×List ze->Option (LO (Int×List ze) (List ze) _)) (0,[]) fun o8=>
 some o8
def Z4:List zh->Option (List ze):=recE (bG)
def aG(Qv:List zh×Int->Option Bool)(x:List zh×Int):Option Bool:=
 zS (fun(s1:Int)=>
   bif decide (s1<(x.1.length:Int))then
    za (geti x.1 s1) fun y2=>
    za (Q3 y2.token.kind) fun y3=>
    za (zq (y3==0) (geti x.1 s1) (default:zh)) fun y4=>
    za (zq (x.2 != 0&& !(bif y3==0 then decide ((y4.list.length:Int)>0)else false)) (geti x.1 s1) (default:zh)) fun y5=>
    za (zq (y3 != 0&& !(bif bif y3==0 then decide ((y4.list.length:Int)>0)else false then true else bif x.2 != 0 then y5.token.kind==x.2 else false)) (geti x.1 s1) (default:zh)) fun y6=>
    za (zq (y3 != 0&& !(bif bif y3==0 then decide ((y4.list.length:Int)>0)else false then true else bif x.2 != 0 then y5.token.kind==x.2 else false)) (Qv (y6.list,y3)) (default:Bool)) fun y7=>
    bif bif bif bif y3==0 then decide ((y4.list.length:Int)>0)else false then true else bif x.2 != 0 then y5.token.kind==x.2 else false then true else bif y3 != 0 then !y7 else false then
     some (LO.ret false)
    else
     some (LO.again (w64 (s1+1)))
   else
    some (LO.out ()):Int->Option (LO (Int) (Unit) _)) 0 fun o8=>
 some true
def Qv:List zh×Int->Option Bool:=recE (aG)
def IA(x:List zh):Option Int:=
 za (Qd x) fun y1=>
 bif decide (y1>16)then
  some 20
 else
  za (Z4 x) fun y2=>
  bif decide ((y2.length:Int)>1500)then
   some 4
  else
   za (Qv (x,0)) fun y3=>
   bif !y3 then
    some 8
   else
    some 0
def Dp(x:Str):Option Bool:=
 zS (fun(s1:Int)=>
   bif decide (s1<(x.length:Int))then
    za (geti x s1) fun y2=>
    bif (y2.toNat:Int)==0 then
     some (LO.ret false)
    else
     some (LO.again (w64 (s1+1)))
   else
    some (LO.out ()):Int->Option (LO (Int) (Unit) _)) 0 fun o3=>
 some true
def zC(x:Int):Option Bool:=
 some (bif decide (x>=48)then decide (x<=57)else false)
def Xz(x:Str):Option Bool:=
 bif x==[]then
  some false
 else
  za (geti x 0) fun y1=>
  za (zC (y1.toNat:Int)) fun y2=>
  za (zq (!(bif y2 then true else x==[45])) (geti x 0) 0) fun y3=>
  za (zq ((y3.toNat:Int)==45&& !(bif y2 then true else x==[45])) (geti x 1) 0) fun y4=>
  za (zq ((y3.toNat:Int)==45&& !(bif y2 then true else x==[45])) (zC (y4.toNat:Int)) (default:Bool)) fun y5=>
  some (bif bif y2 then true else x==[45]then true else bif (y3.toNat:Int)==45 then y5 else false)
def qA(x:Int):Option Bool:=
 some (bif bif x==10 then true else x==9 then true else x==32)
def zB(x:Str×Int):Option Int:=
 bif decide (x.2<(x.1.length:Int))then
  za (geti x.1 x.2) fun y1=>
  some (y1.toNat:Int)
 else
  some 0
def qE(x:Str×Int):Option Int:=
 zS (fun(s1:Int)=>
   za (zB (x.1,s1)) fun y2=>
   za (qA y2) fun y3=>
   bif y3 then
    some (LO.again (w64 (s1+1)))
   else
    some (LO.out s1):Int->Option (LO (Int) (Int) _)) x.2 fun o4=>
 some o4
def mo(x:Unit):Option Str:=
 some [(239:UInt8),(191:UInt8),(189:UInt8)]
def Bn(x:Int):Option Int:=
 za (zC x) fun y1=>
 bif y1 then
  some (w64 (wu8 (x - 48)))
 else
  za (qd x) fun y2=>
  bif bif decide (y2>=97)then decide (y2<=102)else false then
   some (w64 (w64 (wu8 (y2 - 97))+10))
  else
   some (-1)
def Ov(x:Int):Option Str:=
 bif bif bif x==0 then true else bif decide (x>=55296)then decide (x<=57343)else false then true else decide (x>1114111)then
  za (mo ()) fun y1=>
  some y1
 else
  bif decide (x<128)then
   za (qb (wu8 x)) fun y2=>
   some [y2]
  else
   bif decide (x<2048)then
    za (qb (wu8 (w64 (192+w64 (Int.tdiv x 64))))) fun y3=>
    za (qb (wu8 (w64 (128+Int.tmod x 64)))) fun y4=>
    some [y3,y4]
   else
    bif decide (x<65536)then
     za (qb (wu8 (w64 (224+w64 (Int.tdiv x 4096))))) fun y5=>
     za (qb (wu8 (w64 (128+Int.tmod (w64 (Int.tdiv x 64)) 64)))) fun y6=>
     za (qb (wu8 (w64 (128+Int.tmod x 64)))) fun y7=>
     some [y5,y6,y7]
    else
     za (qb (wu8 (w64 (240+w64 (Int.tdiv x 262144))))) fun y8=>
     za (qb (wu8 (w64 (128+Int.tmod (w64 (Int.tdiv x 4096)) 64)))) fun y9=>
     za (qb (wu8 (w64 (128+Int.tmod (w64 (Int.tdiv x 64)) 64)))) fun y10=>
     za (qb (wu8 (w64 (128+Int.tmod x 64)))) fun y11=>
     some [y8,y9,y10,y11]
def ZB(x:Str×Int):Option (Str×Int):=
 bif decide (w64 (x.2+1)>=(x.1.length:Int))then
  za (mo ()) fun y1=>
  some (y1,w64 (x.2+1))
 else
  za (geti x.1 (w64 (x.2+1))) fun y2=>
  za (Bn (y2.toNat:Int)) fun y3=>
  bif decide (y3<0)then
   need (decide (0<=w64 (x.2+1))&&(decide (w64 (x.2+1)<=w64 (w64 (x.2+1)+1))&&decide (w64 (w64 (x.2+1)+1)<=(x.1.length:Int))))<|
   some (List.drop (w64 (x.2+1)).toNat (List.take (w64 (w64 (x.2+1)+1)).toNat x.1),w64 (w64 (x.2+1)+1))
  else
   zS (fun(s4:Int×Int)=>
     za (zq (bif decide (s4.2<(x.1.length:Int))then decide (s4.2<w64 (w64 (x.2+1)+6))else false) (geti x.1 s4.2) 0) fun y5=>
     za (zq (bif decide (s4.2<(x.1.length:Int))then decide (s4.2<w64 (w64 (x.2+1)+6))else false) (Bn (y5.toNat:Int)) (default:Int)) fun y6=>
     bif bif bif decide (s4.2<(x.1.length:Int))then decide (s4.2<w64 (w64 (x.2+1)+6))else false then decide (y6>=0)else false then
      za (geti x.1 s4.2) fun y7=>
      za (Bn (y7.toNat:Int)) fun y8=>
      some (LO.again (w64 (w64 (16*s4.1)+y8),w64 (s4.2+1)))
     else
      some (LO.out (s4.1,s4.2)):Int×Int->Option (LO (Int×Int) (Int×Int) _)) (0,w64 (x.2+1)) fun o9=>
   zP (X:=Int) (
     za (zB (x.1,o9.2)) fun y10=>
     za (qA y10) fun y11=>
     bif y11 then
      some (LX.out (w64 (o9.2+1)))
     else
      some (LX.out o9.2)) fun j12=>
   za (Ov o9.1) fun y13=>
   some (y13,j12)
def jr(x:Str×Int):Option (ze×Int):=
 za (geti x.1 x.2) fun y1=>
 zS (fun(s2:Int×ze×ze)=>
   bif decide (s2.1<(x.1.length:Int))then
    za (geti x.1 s2.1) fun y3=>
    bif (y3.toNat:Int)==(y1.toNat:Int)then
     some (LO.ret (s2.2.2,w64 (s2.1+1)))
    else
     za (geti x.1 s2.1) fun y4=>
     bif (y4.toNat:Int)==10 then
      some (LO.ret ((⟨6,[],0,[],false⟩:ze),s2.1))
     else
      za (geti x.1 s2.1) fun y5=>
      bif bif (y5.toNat:Int)==92 then w64 (s2.1+1)==(x.1.length:Int)else false then
       some (LO.again (w64 (s2.1+1),s2.2.1,s2.2.2))
      else
       za (geti x.1 s2.1) fun y6=>
       za (zq ((y6.toNat:Int)==92) (geti x.1 (w64 (s2.1+1))) 0) fun y7=>
       bif bif (y6.toNat:Int)==92 then(y7.toNat:Int)==10 else false then
        some (LO.again (w64 (s2.1+2),s2.2.1,s2.2.2))
       else
        za (geti x.1 s2.1) fun y8=>
        bif (y8.toNat:Int)==92 then
         za (ZB (x.1,s2.1)) fun y9=>
         need (zO s2.2.2.text.length y9.1.length)<|
         some (LO.again (y9.2,s2.2.1,(⟨s2.2.2.kind,s2.2.2.text++y9.1,s2.2.2.num,s2.2.2.unit,s2.2.2.flag⟩:ze)))
        else
         need (decide (0<=s2.1)&&(decide (s2.1<=w64 (s2.1+1))&&decide (w64 (s2.1+1)<=(x.1.length:Int))))<|
         need (zO s2.2.2.text.length (List.drop s2.1.toNat (List.take (w64 (s2.1+1)).toNat x.1)).length)<|
         some (LO.again (w64 (s2.1+1),s2.2.1,(⟨s2.2.2.kind,s2.2.2.text++List.drop s2.1.toNat (List.take (w64 (s2.1+1)).toNat x.1),s2.2.2.num,s2.2.2.unit,s2.2.2.flag⟩:ze)))
   else
    some (LO.out (s2.1,s2.2.1,s2.2.2)):Int×ze×ze->Option (LO (Int×ze×ze) (Int×ze×ze) _)) (w64 (x.2+1),(⟨0,[],0,[],false⟩:ze),(⟨5,[],0,[],false⟩:ze)) fun o10=>
 some (o10.2.2,o10.1)
def kr(x:Int):Option Bool:=
 za (qd x) fun y1=>
 some (bif bif bif decide (y1>=97)then decide (y1<=122)else false then true else x==95 then true else decide (x>=128))
def ZP(x:Int):Option Bool:=
 za (kr x) fun y1=>
 za (zq (!y1) (zC x) (default:Bool)) fun y2=>
 some (bif bif y1 then true else y2 then true else x==45)
def Zm(x:Str×Int):Option Bool:=
 za (zB (x.1,x.2)) fun y1=>
 za (zq (y1==92) (zB (x.1,w64 (x.2+1))) (default:Int)) fun y2=>
 some (bif y1==92 then y2 != 10 else false)
def Qk(x:Str×Int):Option (Str×Int):=
 zS (fun(s1:Int×Str)=>
   za (zq (decide (s1.1<(x.1.length:Int))) (geti x.1 s1.1) 0) fun y2=>
   za (zq (decide (s1.1<(x.1.length:Int))) (ZP (y2.toNat:Int)) (default:Bool)) fun y3=>
   bif bif decide (s1.1<(x.1.length:Int))then y3 else false then
    need (decide (0<=s1.1)&&(decide (s1.1<=w64 (s1.1+1))&&decide (w64 (s1.1+1)<=(x.1.length:Int))))<|
    need (zO s1.2.length (List.drop s1.1.toNat (List.take (w64 (s1.1+1)).toNat x.1)).length)<|
    some (LO.again (w64 (s1.1+1),s1.2++List.drop s1.1.toNat (List.take (w64 (s1.1+1)).toNat x.1)))
   else
    za (zq (decide (s1.1<(x.1.length:Int))) (Zm (x.1,s1.1)) (default:Bool)) fun y4=>
    bif bif decide (s1.1<(x.1.length:Int))then y4 else false then
     za (ZB (x.1,s1.1)) fun y5=>
     need (zO s1.2.length y5.1.length)<|
     some (LO.again (y5.2,s1.2++y5.1))
    else
     some (LO.ret (s1.2,s1.1)):Int×Str->Option (LO (Int×Str) (Unit) _)) (x.2,[]) fun o6=>
 none
def qg(x:Str×Int):Option Bool:=
 za (zB (x.1,x.2)) fun y1=>
 bif y1==45 then
  za (zB (x.1,w64 (x.2+1))) fun y2=>
  za (kr y2) fun y3=>
  za (zq (!y3) (zB (x.1,w64 (x.2+1))) (default:Int)) fun y4=>
  za (zq (!(bif y3 then true else y4==45)) (Zm (x.1,w64 (x.2+1))) (default:Bool)) fun y5=>
  some (bif bif y3 then true else y4==45 then true else y5)
 else
  za (zB (x.1,x.2)) fun y6=>
  za (kr y6) fun y7=>
  za (zq (!y7) (Zm (x.1,x.2)) (default:Bool)) fun y8=>
  some (bif y7 then true else y8)
def Rw(x:Str×Int):Option Bool:=
 zP (X:=Int) (
   za (zB (x.1,x.2)) fun y1=>
   bif bif y1==43 then true else y1==45 then
    some (LX.out (w64 (x.2+1)))
   else
    some (LX.out x.2)) fun j2=>
 zP (X:=Int) (
   za (zB (x.1,j2)) fun y3=>
   bif y3==46 then
    some (LX.out (w64 (j2+1)))
   else
    some (LX.out j2)) fun j4=>
 za (zB (x.1,j4)) fun y5=>
 za (zC y5) fun y6=>
 some y6
def Qt(x:Str×Int):Option Int:=
 zS (fun(s1:Int)=>
   za (zB (x.1,s1)) fun y2=>
   za (zC y2) fun y3=>
   bif y3 then
    some (LO.again (w64 (s1+1)))
   else
    some (LO.out s1):Int->Option (LO (Int) (Int) _)) x.2 fun o4=>
 some o4
def QH(x:Str×Int):Option (Int×Bool):=
 zP (X:=Int) (
   za (zB (x.1,x.2)) fun y1=>
   bif bif y1==43 then true else y1==45 then
    some (LX.out (w64 (x.2+1)))
   else
    some (LX.out x.2)) fun j2=>
 za (Qt (x.1,j2)) fun y3=>
 zP (X:=Int×Bool) (
   za (zB (x.1,y3)) fun y4=>
   za (zq (y4==46) (zB (x.1,w64 (y3+1))) (default:Int)) fun y5=>
   za (zq (y4==46) (zC y5) (default:Bool)) fun y6=>
   bif bif y4==46 then y6 else false then
    za (Qt (x.1,w64 (y3+1))) fun y7=>
    some (LX.out (y7,false))
   else
    some (LX.out (y3,true))) fun j8=>
 zP (X:=Int×Bool) (
   za (zB (x.1,j8.1)) fun y9=>
   bif bif y9==101 then true else y9==69 then
    zP (X:=Int×Bool×Int) (
      za (zB (x.1,w64 (j8.1+1))) fun y10=>
      bif bif y10==43 then true else y10==45 then
       some (LX.out (j8.1,j8.2,w64 (w64 (j8.1+1)+1)))
      else
       some (LX.out (j8.1,j8.2,w64 (j8.1+1)))) fun j11=>
    za (zB (x.1,j11.2.2)) fun y12=>
    za (zC y12) fun y13=>
    bif y13 then
     za (Qt (x.1,j11.2.2)) fun y14=>
     some (LX.out (y14,false))
    else
     some (LX.out (j11.1,j11.2.1))
   else
    some (LX.out (j8.1,j8.2))) fun j15=>
 some (j15.1,j15.2)
def qL(x:Str):Option Int:=
 za (geti x 0) fun y1=>
 zP (X:=Str×Int×Int) (
   za (geti x 0) fun y2=>
   bif bif (y2.toNat:Int)==43 then true else(y1.toNat:Int)==45 then
    some (LX.out ([],3,1))
   else
    some (LX.out ([],3,0))) fun j3=>
 zS (fun(s4:Str×Int)=>
   za (zB (x,s4.2)) fun y5=>
   za (zC y5) fun y6=>
   bif y6 then
    need (decide (0<=s4.2)&&(decide (s4.2<=w64 (s4.2+1))&&decide (w64 (s4.2+1)<=(x.length:Int))))<|
    need (zO s4.1.length (List.drop s4.2.toNat (List.take (w64 (s4.2+1)).toNat x)).length)<|
    some (LO.again (s4.1++List.drop s4.2.toNat (List.take (w64 (s4.2+1)).toNat x),w64 (s4.2+1)))
   else
    some (LO.out (s4.1,s4.2)):Str×Int->Option (LO (Str×Int) (Str×Int) _)) (j3.1,j3.2.2) fun o7=>
 zP (X:=Str×Int×Int) (
   za (zB (x,o7.2)) fun y8=>
   bif y8==46 then
    zS (fun(s9:Str×Int×Int)=>
      za (zB (x,s9.2.2)) fun y10=>
      za (zC y10) fun y11=>
      bif y11 then
       need (decide (0<=s9.2.2)&&(decide (s9.2.2<=w64 (s9.2.2+1))&&decide (w64 (s9.2.2+1)<=(x.length:Int))))<|
       need (zO s9.1.length (List.drop s9.2.2.toNat (List.take (w64 (s9.2.2+1)).toNat x)).length)<|
       some (LO.again (s9.1++List.drop s9.2.2.toNat (List.take (w64 (s9.2.2+1)).toNat x),w64 (s9.2.1 - 1),w64 (s9.2.2+1)))
      else
       some (LO.out (s9.1,s9.2.1,s9.2.2)):Str×Int×Int->Option (LO (Str×Int×Int) (Str×Int×Int) _)) (o7.1,j3.2.1,w64 (o7.2+1)) fun o12=>
    some (LX.out (o12.1,o12.2.1,o12.2.2))
   else
    some (LX.out (o7.1,j3.2.1,o7.2))) fun j13=>
 zP (X:=Int) (
   bif decide (j13.2.2<(x.length:Int))then
    za (geti x (w64 (j13.2.2+1))) fun y14=>
    zP (X:=Int×Int) (
      za (geti x (w64 (j13.2.2+1))) fun y15=>
      bif bif (y15.toNat:Int)==43 then true else(y14.toNat:Int)==45 then
       some (LX.out (j13.2.1,w64 (w64 (j13.2.2+1)+1)))
      else
       some (LX.out (j13.2.1,w64 (j13.2.2+1)))) fun j16=>
    zS (fun(s17:Int×Int)=>
      bif decide (s17.1<(x.length:Int))then
       za (geti x s17.1) fun y18=>
       some (LO.again (w64 (s17.1+1),if w64 (w64 (10*s17.2)+w64 (wu8 ((y18.toNat:Int) - 48)))<10000 then w64 (w64 (10*s17.2)+w64 (wu8 ((y18.toNat:Int) - 48)))else 10000))
      else
       some (LO.out s17.2):Int×Int->Option (LO (Int×Int) (Int) _)) (j16.2,0) fun o19=>
    zP (X:=Int×Int) (
      bif (y14.toNat:Int)==45 then
       some (LX.out (j16.1,w64 (0 - o19)))
      else
       some (LX.out (j16.1,o19))) fun j20=>
    some (LX.out (w64 (j20.1+j20.2)))
   else
    some (LX.out j13.2.1)) fun j21=>
 zS (fun(s22:Int×Int)=>
   bif bif decide (s22.2<w64 ((j13.1.length:Int)+j21))then decide (s22.2<(j13.1.length:Int))else false then
    za (geti j13.1 s22.2) fun y23=>
    some (LO.again (if w64 (w64 (10*s22.1)+w64 (wu8 ((y23.toNat:Int) - 48)))<1000000000000 then w64 (w64 (10*s22.1)+w64 (wu8 ((y23.toNat:Int) - 48)))else 1000000000000,w64 (s22.2+1)))
   else
    some (LO.out s22.1):Int×Int->Option (LO (Int×Int) (Int) _)) (0,0) fun o24=>
 zS (fun(s25:Int×Int)=>
   bif bif bif decide (s25.1>0)then decide (s25.2>0)else false then decide (s25.2<1000000000000)else false then
    some (LO.again (w64 (s25.1 - 1),if w64 (10*s25.2)<1000000000000 then w64 (10*s25.2)else 1000000000000))
   else
    some (LO.out s25.2):Int×Int->Option (LO (Int×Int) (Int) _)) (j21,o24) fun o26=>
 bif (y1.toNat:Int)==45 then
  some (w64 (0 - o26))
 else
  some o26
def Gs(x:Str×Int):Option (ze×Int):=
 za (QH (x.1,x.2)) fun y1=>
 need (decide (0<=x.2)&&(decide (x.2<=y1.1)&&decide (y1.1<=(x.1.length:Int))))<|
 za (qL (List.drop x.2.toNat (List.take y1.1.toNat x.1))) fun y2=>
 zP (X:=Int×ze×ze) (
   za (qg (x.1,y1.1)) fun y3=>
   bif y3 then
    za (Qk (x.1,y1.1)) fun y4=>
    some (LX.out (y4.2,(⟨0,[],0,[],false⟩:ze),(⟨12,[],y2,y4.1,y1.2⟩:ze)))
   else
    za (zB (x.1,y1.1)) fun y5=>
    bif y5==37 then
     some (LX.out (w64 (y1.1+1),(⟨0,[],0,[],false⟩:ze),(⟨11,[],y2,[],false⟩:ze)))
    else
     some (LX.out (y1.1,(⟨0,[],0,[],false⟩:ze),(⟨10,[],y2,[],y1.2⟩:ze)))) fun j6=>
 some (j6.2.2,j6.1)
def aj(x:Str×Int×Str):Option Bool:=
 need (decide (0<=x.2.1)&&(decide (x.2.1<=w64 (x.2.1+(x.2.2.length:Int)))&&decide (w64 (x.2.1+(x.2.2.length:Int))<=(x.1.length:Int)))|| !(decide (w64 ((x.1.length:Int) - x.2.1)>=(x.2.2.length:Int))))<|
 some (bif decide (w64 ((x.1.length:Int) - x.2.1)>=(x.2.2.length:Int))then List.drop x.2.1.toNat (List.take (w64 (x.2.1+(x.2.2.length:Int))).toNat x.1)==x.2.2 else false)
def qJ(x:Str×Str):Option Bool:=
 za (qK x.1) fun y1=>
 za (qK x.2) fun y2=>
 some (y1==y2)
def Ol(x:Str×Int):Option (ze×Int):=
 zS (fun(s1:Int)=>
   za (zq (decide (s1<(x.1.length:Int))) (geti x.1 s1) 0) fun y2=>
   bif bif decide (s1<(x.1.length:Int))then(y2.toNat:Int) != 41 else false then
    za (Zm (x.1,s1)) fun y3=>
    bif y3 then
     za (ZB (x.1,s1)) fun y4=>
     some (LO.again y4.2)
    else
     some (LO.again (w64 (s1+1)))
   else
    some (LO.out s1):Int->Option (LO (Int) (Int) _)) x.2 fun o5=>
 some ((⟨8,[],0,[],false⟩:ze),if w64 (o5+1)<(x.1.length:Int)then w64 (o5+1)else(x.1.length:Int))
def Qy(x:Int):Option Bool:=
 some (bif bif bif decide (x<=8)then true else x==11 then true else bif decide (x>=14)then decide (x<=31)else false then true else x==127)
def pq(x:Str×Int):Option (ze×Int):=
 za (qE (x.1,x.2)) fun y1=>
 zS (fun(s2:Int×ze×ze)=>
   za (zq (decide (s2.1<(x.1.length:Int))) (geti x.1 s2.1) 0) fun y3=>
   bif bif decide (s2.1<(x.1.length:Int))then(y3.toNat:Int) != 41 else false then
    za (geti x.1 s2.1) fun y4=>
    za (qA (y4.toNat:Int)) fun y5=>
    bif y5 then
     za (qE (x.1,s2.1)) fun y6=>
     za (zq (decide (y6<(x.1.length:Int))) (geti x.1 y6) 0) fun y7=>
     bif bif decide (y6<(x.1.length:Int))then(y7.toNat:Int) != 41 else false then
      za (Ol (x.1,y6)) fun y8=>
      some (LO.ret (y8.1,y8.2))
     else
      some (LO.again (y6,s2.2.1,s2.2.2))
    else
     za (zq (!(bif bif (y4.toNat:Int)==34 then true else(y4.toNat:Int)==39 then true else(y4.toNat:Int)==40)) (Qy (y4.toNat:Int)) (default:Bool)) fun y9=>
     za (zq ((y4.toNat:Int)==92&& !(bif bif bif (y4.toNat:Int)==34 then true else(y4.toNat:Int)==39 then true else(y4.toNat:Int)==40 then true else y9)) (Zm (x.1,s2.1)) (default:Bool)) fun y10=>
     bif bif bif bif bif (y4.toNat:Int)==34 then true else(y4.toNat:Int)==39 then true else(y4.toNat:Int)==40 then true else y9 then true else bif (y4.toNat:Int)==92 then !y10 else false then
      za (Ol (x.1,s2.1)) fun y11=>
      some (LO.ret (y11.1,y11.2))
     else
      bif (y4.toNat:Int)==92 then
       za (ZB (x.1,s2.1)) fun y12=>
       need (zO s2.2.2.text.length y12.1.length)<|
       some (LO.again (y12.2,s2.2.1,(⟨s2.2.2.kind,s2.2.2.text++y12.1,s2.2.2.num,s2.2.2.unit,s2.2.2.flag⟩:ze)))
      else
       need (decide (0<=s2.1)&&(decide (s2.1<=w64 (s2.1+1))&&decide (w64 (s2.1+1)<=(x.1.length:Int))))<|
       need (zO s2.2.2.text.length (List.drop s2.1.toNat (List.take (w64 (s2.1+1)).toNat x.1)).length)<|
       some (LO.again (w64 (s2.1+1),s2.2.1,(⟨s2.2.2.kind,s2.2.2.text++List.drop s2.1.toNat (List.take (w64 (s2.1+1)).toNat x.1),s2.2.2.num,s2.2.2.unit,s2.2.2.flag⟩:ze)))
   else
    some (LO.out (s2.1,s2.2.1,s2.2.2)):Int×ze×ze->Option (LO (Int×ze×ze) (Int×ze×ze) _)) (y1,(⟨0,[],0,[],false⟩:ze),(⟨7,[],0,[],false⟩:ze)) fun o13=>
 some (o13.2.2,if w64 (o13.1+1)<(x.1.length:Int)then w64 (o13.1+1)else(x.1.length:Int))
def Lr(x:Str×Int):Option (ze×Int):=
 za (Qk (x.1,x.2)) fun y1=>
 za (zB (x.1,y1.2)) fun y2=>
 bif y2 != 40 then
  some ((⟨1,y1.1,0,[],false⟩:ze),y1.2)
 else
  zP (X:=ze) (
    za (qJ (y1.1,[117,114,108])) fun y3=>
    bif y3 then
     za (qE (x.1,w64 (y1.2+1))) fun y4=>
     za (zB (x.1,y4)) fun y5=>
     bif bif y5 != 34 then y5 != 39 else false then
      za (pq (x.1,w64 (y1.2+1))) fun y6=>
      some (LX.ret (y6.1,y6.2))
     else
      some (LX.out (⟨0,[],0,[],false⟩:ze))
    else
     some (LX.out (⟨0,[],0,[],false⟩:ze))) fun j7=>
  some ((⟨2,y1.1,0,[],false⟩:ze),w64 (y1.2+1))
def Mr(x:Int):Option Int:=
 bif x==58 then
  some 16
 else
  bif x==59 then
   some 17
  else
   bif x==44 then
    some 18
   else
    bif x==91 then
     some 19
    else
     bif x==93 then
      some 20
     else
      bif x==40 then
       some 21
      else
       bif x==41 then
        some 22
       else
        bif x==123 then
         some 23
        else
         bif x==125 then
          some 24
         else
          some 0
def Rl(x:Str×Int):Option (ze×Int):=
 za (geti x.1 x.2) fun y1=>
 za (qA (y1.toNat:Int)) fun y2=>
 bif y2 then
  za (qE (x.1,x.2)) fun y3=>
  some ((⟨13,[],0,[],false⟩:ze),y3)
 else
  bif bif (y1.toNat:Int)==34 then true else(y1.toNat:Int)==39 then
   za (jr (x.1,x.2)) fun y4=>
   some (y4.1,y4.2)
  else
   za (zq (decide (w64 (x.2+1)<(x.1.length:Int))&&(y1.toNat:Int)==35) (geti x.1 (w64 (x.2+1))) 0) fun y5=>
   za (zq (decide (w64 (x.2+1)<(x.1.length:Int))&&(y1.toNat:Int)==35) (ZP (y5.toNat:Int)) (default:Bool)) fun y6=>
   za (zq (!(bif decide (w64 (x.2+1)<(x.1.length:Int))then y6 else false)&&(y1.toNat:Int)==35) (Zm (x.1,w64 (x.2+1))) (default:Bool)) fun y7=>
   bif bif (y1.toNat:Int)==35 then bif bif decide (w64 (x.2+1)<(x.1.length:Int))then y6 else false then true else y7 else false then
    za (Qk (x.1,w64 (x.2+1))) fun y8=>
    za (qg (x.1,w64 (x.2+1))) fun y9=>
    some ((⟨4,y8.1,0,[],y9⟩:ze),y8.2)
   else
    za (Rw (x.1,x.2)) fun y10=>
    bif y10 then
     za (Gs (x.1,x.2)) fun y11=>
     some (y11.1,y11.2)
    else
     za (aj (x.1,x.2,[45,45,62])) fun y12=>
     bif y12 then
      some ((⟨15,[],0,[],false⟩:ze),w64 (x.2+3))
     else
      za (aj (x.1,x.2,[60,33,45,45])) fun y13=>
      bif y13 then
       some ((⟨14,[],0,[],false⟩:ze),w64 (x.2+4))
      else
       za (zq ((y1.toNat:Int)==64) (qg (x.1,w64 (x.2+1))) (default:Bool)) fun y14=>
       bif bif (y1.toNat:Int)==64 then y14 else false then
        za (Qk (x.1,w64 (x.2+1))) fun y15=>
        some ((⟨3,y15.1,0,[],false⟩:ze),y15.2)
       else
        za (qg (x.1,x.2)) fun y16=>
        bif y16 then
         za (Lr (x.1,x.2)) fun y17=>
         some (y17.1,y17.2)
        else
         za (Mr (y1.toNat:Int)) fun y18=>
         bif y18 != 0 then
          za (Mr (y1.toNat:Int)) fun y19=>
          some ((⟨y19,[],0,[],false⟩:ze),w64 (x.2+1))
         else
          need (decide (0<=x.2)&&(decide (x.2<=w64 (x.2+1))&&decide (w64 (x.2+1)<=(x.1.length:Int))))<|
          some ((⟨9,List.drop x.2.toNat (List.take (w64 (x.2+1)).toNat x.1),0,[],false⟩:ze),w64 (x.2+1))
def QI(x:Int):Option Bool:=
 za (qb x) fun y1=>
 za (Rl ([y1,(10:UInt8)],0)) fun y2=>
 some (bif bif bif bif decide (x>=1)then decide (x<=127)else false then x != 12 else false then x != 13 else false then y2.1.kind==9 else false)
def Wz(x:ze):Option Bool:=
 zP (X:=Bool×ze) (
   bif x.kind==1 then
    some (LX.out (x.kind==1,x))
   else
    bif x.kind==2 then
     some (LX.out (x.kind==2,x))
    else
     some (LX.out (x.kind==3,x))) fun j1=>
 bif j1.1 then
  za (zq (!(x.text==[])) (Dp x.text) (default:Bool)) fun y2=>
  some (bif bif !(x.text==[])then y2 else false then j1.2.kind==x.kind&&(([]:Str)==[]&&(j1.2.num==0&&(j1.2.unit==[]&&(j1.2.flag==false&&true))))else false)
 else
  bif x.kind==4 then
   za (zq (!(x.text==[])) (Dp x.text) (default:Bool)) fun y3=>
   za (zq (!x.flag&&(bif !(x.text==[])then y3 else false)) (Xz x.text) (default:Bool)) fun y4=>
   some (bif bif bif !(x.text==[])then y3 else false then bif x.flag then true else y4 else false then j1.2.kind==x.kind&&(([]:Str)==[]&&(j1.2.num==0&&(j1.2.unit==[]&&(false==false&&true))))else false)
  else
   zP (X:=Bool×ze) (
     bif x.kind==5 then
      some (LX.out (x.kind==5,j1.2))
     else
      some (LX.out (x.kind==7,j1.2))) fun j5=>
   bif j5.1 then
    za (Dp x.text) fun y6=>
    some (bif y6 then j5.2.kind==x.kind&&(([]:Str)==[]&&(j5.2.num==0&&(j5.2.unit==[]&&(j5.2.flag==false&&true))))else false)
   else
    bif x.kind==9 then
     za (zq ((x.text.length:Int)==1) (geti x.text 0) 0) fun y7=>
     za (zq ((x.text.length:Int)==1) (QI (y7.toNat:Int)) (default:Bool)) fun y8=>
     some (bif bif (x.text.length:Int)==1 then y8 else false then j5.2.kind==x.kind&&(([]:Str)==[]&&(j5.2.num==0&&(j5.2.unit==[]&&(j5.2.flag==false&&true))))else false)
    else
     zP (X:=Bool×ze) (
       bif x.kind==10 then
        some (LX.out (x.kind==10,j5.2))
       else
        bif x.kind==11 then
         some (LX.out (x.kind==11,j5.2))
        else
         some (LX.out (x.kind==12,j5.2))) fun j9=>
     bif j9.1 then
      za (zq ((!(x.unit==[]))==(x.kind==12)) (Dp x.unit) (default:Bool)) fun y10=>
      some (bif bif bif bif bif decide (x.num>=(-1000000000000))then decide (x.num<=1000000000000)else false then bif !x.flag then true else Int.tmod x.num 1000==0 else false then bif (!(x.unit==[]))==(x.kind==12)then y10 else false else false then bif x.kind != 11 then true else !x.flag else false then j9.2.kind==x.kind&&(j9.2.text==[]&&(0==0&&(([]:Str)==[]&&(false==false&&true))))else false)
     else
      zP (X:=Bool) (
        bif x.kind==6 then
         some (LX.out (x.kind==6))
        else
         some (LX.out (x.kind==8))) fun j11=>
      bif j11 then
       some false
      else
       some (bif bif decide (x.kind>=1)then decide (x.kind<=24)else false then x.kind==x.kind&&(x.text==[]&&(x.num==0&&(x.unit==[]&&(x.flag==false&&true))))else false)
def Sr(x:List ze):Option Int:=
 bif decide ((x.length:Int)>1500)then
  some 4
 else
  zS (fun(s1:Int)=>
    bif decide (s1<(x.length:Int))then
     za (geti x s1) fun y2=>
     za (Wz y2) fun y3=>
     bif !y3 then
      some (LO.ret 8)
     else
      zP (X:=Unit) (
        za (geti x s1) fun y4=>
        za (zq (y4.kind==2) (geti x s1) (default:ze)) fun y5=>
        za (zq (y4.kind==2) (qJ (y5.text,[117,114,108])) (default:Bool)) fun y6=>
        bif bif y4.kind==2 then y6 else false then
         zP (X:=Int) (
           za (zq (decide (w64 (s1+1)<(x.length:Int))) (geti x (w64 (s1+1))) (default:ze)) fun y7=>
           bif bif decide (w64 (s1+1)<(x.length:Int))then y7.kind==13 else false then
            some (LX.out (w64 (w64 (s1+1)+1)))
           else
            some (LX.out (w64 (s1+1)))) fun j8=>
         za (zq (!(decide (j8>=(x.length:Int)))) (geti x j8) (default:ze)) fun y9=>
         bif bif decide (j8>=(x.length:Int))then true else y9.kind != 5 then
          some (LX.ret (LO.ret 8))
         else
          some (LX.out ())
        else
         some (LX.out ())) fun j10=>
      za (geti x s1) fun y11=>
      za (zq (y11.kind==9) (geti x s1) (default:ze)) fun y12=>
      za (zq (!(w64 (s1+1)==(x.length:Int))&&(bif y11.kind==9 then y12.text==[92]else false)) (geti x (w64 (s1+1))) (default:ze)) fun y13=>
      bif bif bif y11.kind==9 then y12.text==[92]else false then bif w64 (s1+1)==(x.length:Int)then true else y13.kind != 13 else false then
       some (LO.ret 8)
      else
       some (LO.again (w64 (s1+1)))
    else
     some (LO.out ()):Int->Option (LO (Int) (Unit) _)) 0 fun o14=>
  some 0
def yG(qU:List zh->Option Bool)(x:List zh):Option Bool:=
 zS (fun(s1:Int)=>
   bif decide (s1<(x.length:Int))then
    za (geti x s1) fun y2=>
    za (zq (!(bif bif y2.token.kind==20 then true else y2.token.kind==22 then true else y2.token.kind==24)) (geti x s1) (default:zh)) fun y3=>
    za (zq (!(bif bif y2.token.kind==20 then true else y2.token.kind==22 then true else y2.token.kind==24)) (qU y3.list) (default:Bool)) fun y4=>
    bif bif bif bif y2.token.kind==20 then true else y2.token.kind==22 then true else y2.token.kind==24 then true else y4 then
     some (LO.ret true)
    else
     some (LO.again (w64 (s1+1)))
   else
    some (LO.out ()):Int->Option (LO (Int) (Unit) _)) 0 fun o5=>
 some false
def qU:List zh->Option Bool:=recE (yG)
def xA(x:List zh):Option (List zh):=
 zS (fun(s1:List zh)=>
   za (zq (decide ((s1.length:Int)>0)) (geti s1 0) (default:zh)) fun y2=>
   bif bif decide ((s1.length:Int)>0)then y2.token.kind==13 else false then
    need (decide (1<=(s1.length:Int)))<|
    some (LO.again (List.drop 1 s1))
   else
    some (LO.out s1):List zh->Option (LO (List zh) (List zh) _)) x fun o3=>
 zS (fun(s4:List zh)=>
   za (zq (decide ((s4.length:Int)>0)) (geti s4 (w64 ((s4.length:Int) - 1))) (default:zh)) fun y5=>
   bif bif decide ((s4.length:Int)>0)then y5.token.kind==13 else false then
    need (decide (0<=w64 ((s4.length:Int) - 1))&&decide (w64 ((s4.length:Int) - 1)<=(s4.length:Int)))<|
    some (LO.again (List.take (w64 ((s4.length:Int) - 1)).toNat s4))
   else
    some (LO.out s4):List zh->Option (LO (List zh) (List zh) _)) o3 fun o6=>
 some o6
def OA(x:Str):Option Bool:=
 need (decide (2<=(x.length:Int))|| !(decide ((x.length:Int)>2)))<|
 some (bif decide ((x.length:Int)>2)then List.take 2 x==[45,45]else false)
def NA(x:Str×List zh):Option Bool:=
 za (IA x.2) fun y1=>
 za (zq (!(y1 != 0)) (Z4 x.2) (default:List ze)) fun y2=>
 za (zq (!(y1 != 0)) (Sr y2) (default:Int)) fun y3=>
 za (zq (!(bif y1 != 0 then true else y3 != 0)) (qU x.2) (default:Bool)) fun y4=>
 bif bif bif y1 != 0 then true else y3 != 0 then true else y4 then
  some false
 else
  za (xA x.2) fun y5=>
  za (zq ((x.2.length:Int)==0&& !((y5.length:Int) != (x.2.length:Int))) (OA x.1) (default:Bool)) fun y6=>
  bif bif (y5.length:Int) != (x.2.length:Int)then true else bif (x.2.length:Int)==0 then !y6 else false then
   some false
  else
   zS (fun(s7:Int)=>
     bif decide (s7<(x.2.length:Int))then
      za (geti x.2 s7) fun y8=>
      bif bif y8.token.kind==17 then true else bif y8.token.kind==9 then y8.token.text==[33]else false then
       some (LO.ret false)
      else
       some (LO.again (w64 (s7+1)))
     else
      some (LO.out ()):Int->Option (LO (Int) (Unit) _)) 0 fun o9=>
   some true
def kv(x:z8):Option Int:=
 za (EA x.name) fun y1=>
 za (zq (!(!y1)) (NA (x.name,x.value)) (default:Bool)) fun y2=>
 bif bif !y1 then true else !y2 then
  some 8
 else
  some 0
def Bp(x:z8):Option Bool:=
 some (bif bif x.name==[]then(x.value.length:Int)==0 else false then !x.important else false)
def qh(x:zg):Option Bool:=
 za (zq (bif x.name==[]then x.num==0 else false) (Bp x.decl) (default:Bool)) fun y1=>
 some (bif bif x.name==[]then x.num==0 else false then y1 else false)
def GH(ZR:zg->Option Bool)(x:zg):Option Bool:=
 bif x.kind==7 then
  za (zq (bif bif x.name==[]then x.num==0 else false then(x.list.length:Int)==0 else false) (kv x.decl) (default:Int)) fun y1=>
  some (bif bif bif x.name==[]then x.num==0 else false then(x.list.length:Int)==0 else false then y1==0 else false)
 else
  bif x.kind==8 then
   za (qh (⟨x.kind,x.name,x.num,x.decl,x.list⟩:zg)) fun y2=>
   some (bif y2 then(x.list.length:Int)==0 else false)
  else
   bif x.kind==3 then
    za (qh (⟨x.kind,x.name,x.num,x.decl,x.list⟩:zg)) fun y3=>
    za (zq (bif y3 then(x.list.length:Int)==1 else false) (geti x.list 0) (default:zg)) fun y4=>
    za (zq (bif y3 then(x.list.length:Int)==1 else false) (ZR (⟨y4.kind,y4.name,y4.num,y4.decl,y4.list⟩:zg)) (default:Bool)) fun y5=>
    some (bif bif y3 then(x.list.length:Int)==1 else false then y5 else false)
   else
    zP (X:=Bool) (
      bif x.kind==1 then
       some (LX.out (x.kind==1))
      else
       some (LX.out (x.kind==2))) fun j6=>
    bif j6 then
     za (qh (⟨x.kind,x.name,x.num,x.decl,x.list⟩:zg)) fun y7=>
     bif bif !y7 then true else decide ((x.list.length:Int)<2)then
      some false
     else
      zS (fun(s8:Int)=>
        bif decide (s8<(x.list.length:Int))then
         za (geti x.list s8) fun y9=>
         za (ZR (⟨y9.kind,y9.name,y9.num,y9.decl,y9.list⟩:zg)) fun y10=>
         bif !y10 then
          some (LO.ret false)
         else
          some (LO.again (w64 (s8+1)))
        else
         some (LO.out ()):Int->Option (LO (Int) (Unit) _)) 0 fun o11=>
      some true
    else
     some false
def ZR:zg->Option Bool:=recE (GH)
def ZF(x:zg):Option Bool:=
 za (qD ((⟨x.kind,x.name,x.num,x.decl,x.list⟩:zg),1500)) fun y1=>
 za (zq (decide (y1<=1500)) (ll (⟨x.kind,x.name,x.num,x.decl,x.list⟩:zg)) (default:Int)) fun y2=>
 za (zq (bif decide (y1<=1500)then decide (y2<=16)else false) (ZR (⟨x.kind,x.name,x.num,x.decl,x.list⟩:zg)) (default:Bool)) fun y3=>
 some (bif bif decide (y1<=1500)then decide (y2<=16)else false then y3 else false)
def pG(Zy:zg->Option (List z8))(x:zg):Option (List z8):=
 bif x.kind==7 then
  some [x.decl]
 else
  zS (fun(s1:Int×List z8)=>
    bif decide (s1.1<(x.list.length:Int))then
     za (geti x.list s1.1) fun y2=>
     za (Zy (⟨y2.kind,y2.name,y2.num,y2.decl,y2.list⟩:zg)) fun y3=>
     need (Zj s1.2.length y3.length 48)<|
     some (LO.again (w64 (s1.1+1),s1.2++y3))
    else
     some (LO.out s1.2):Int×List z8->Option (LO (Int×List z8) (List z8) _)) (0,[]) fun o4=>
  some o4
def Zy:zg->Option (List z8):=recE (pG)
def AA(x:zg):Option (List z8×Int):=
 za (ZF (⟨x.kind,x.name,x.num,x.decl,x.list⟩:zg)) fun y1=>
 bif !y1 then
  some ([],8)
 else
  za (Zy (⟨x.kind,x.name,x.num,x.decl,x.list⟩:zg)) fun y2=>
  some (y2,0)
def slices_Index_string(x:List Str×Str):Option Int:=
 zS (fun(s1:Int)=>
   bif decide (s1<(x.1.length:Int))then
    za (geti x.1 s1) fun y2=>
    bif x.2==y2 then
     some (LO.ret s1)
    else
     some (LO.again (w64 (s1+1)))
   else
    some (LO.out ()):Int->Option (LO (Int) (Unit) _)) 0 fun o3=>
 some (-1)
def slices_Contains_string(x:List Str×Str):Option Bool:=
 za (slices_Index_string (x.1,x.2)) fun y1=>
 some (decide (y1>=0))
def Wv(x:Str):Option Bool:=
 za (slices_Contains_string ([[],[97,110,100],[111,114],[110,111,116],[111,110,108,121]],x)) fun y1=>
 za (zq (bif !y1 then decide ((x.length:Int)<=64)else false) (Qj x) (default:Str)) fun y2=>
 za (zq (bif bif !y1 then decide ((x.length:Int)<=64)else false then y2==x else false) (strings_IndexByte (x,0)) (default:Int)) fun y3=>
 some (bif bif bif !y1 then decide ((x.length:Int)<=64)else false then y2==x else false then decide (y3<0)else false)
def Gp(x:List Int):Option Int:=
 zS (fun(s1:Int)=>
   bif decide (s1<(x.length:Int))then
    za (geti x s1) fun y2=>
    bif bif decide (y2<(-1000000000000))then true else decide (y2>1000000000000)then
     some (LO.ret 8)
    else
     some (LO.again (w64 (s1+1)))
   else
    some (LO.out ()):Int->Option (LO (Int) (Unit) _)) 0 fun o3=>
 some 0
def Ur(x:Int):Option Int:=
 za (Gp [x]) fun y1=>
 some y1
def Sv(x:zg):Option Bool:=
 za (zq (!(x.kind != 1)) (QV (⟨x.kind,x.name,x.num,x.decl,x.list⟩:zg)) (default:Bool)) fun y1=>
 bif bif bif x.kind != 1 then true else !y1 then true else(x.list.length:Int)==0 then
  some false
 else
  zS (fun(s2:Int)=>
    bif decide (s2<(x.list.length:Int))then
     zP (X:=Int) (
       za (geti x.list s2) fun y3=>
       za (zq (!(decide ((y3.list.length:Int)>0))) (QV (⟨y3.kind,[],0,y3.decl,y3.list⟩:zg)) (default:Bool)) fun y4=>
       bif bif decide ((y3.list.length:Int)>0)then true else !y4 then
        some (LX.ret (LO.ret false))
       else
        bif y3.kind==4 then
         za (zq (!(bif decide (s2>0)then true else y3.num != 0)) (Wv y3.name) (default:Bool)) fun y5=>
         bif bif bif decide (s2>0)then true else y3.num != 0 then true else !y5 then
          some (LX.ret (LO.ret false))
         else
          some (LX.out s2)
        else
         zP (X:=Bool) (
           bif y3.kind==5 then
            some (LX.out (y3.kind==5))
           else
            some (LX.out (y3.kind==6))) fun j6=>
         bif j6 then
          za (zq (!(bif !(y3.name==[])then true else decide (y3.num<0))) (Ur y3.num) (default:Int)) fun y7=>
          bif bif bif !(y3.name==[])then true else decide (y3.num<0)then true else y7 != 0 then
           some (LX.ret (LO.ret false))
          else
           some (LX.out s2)
         else
          some (LX.ret (LO.ret false))) fun j8=>
     some (LO.again (w64 (j8+1)))
    else
     some (LO.out ()):Int->Option (LO (Int) (Unit) _)) 0 fun o9=>
  some true
def nz(x:zg):Option Bool:=
 za (zq (decide ((x.list.length:Int)>0)) (geti x.list 0) (default:zg)) fun y1=>
 some (bif decide ((x.list.length:Int)>0)then y1.kind==4 else false)
def Oz(x:zg):Option Bool:=
 bif x.kind==3 then
  za (QV (⟨x.kind,x.name,x.num,x.decl,x.list⟩:zg)) fun y1=>
  za (zq (bif y1 then(x.list.length:Int)==1 else false) (geti x.list 0) (default:zg)) fun y2=>
  za (zq (bif y1 then(x.list.length:Int)==1 else false) (Sv (⟨y2.kind,y2.name,y2.num,y2.decl,y2.list⟩:zg)) (default:Bool)) fun y3=>
  za (zq (bif bif y1 then(x.list.length:Int)==1 else false then y3 else false) (geti x.list 0) (default:zg)) fun y4=>
  za (zq (bif bif y1 then(x.list.length:Int)==1 else false then y3 else false) (nz (⟨y4.kind,y4.name,y4.num,y4.decl,y4.list⟩:zg)) (default:Bool)) fun y5=>
  some (bif bif bif y1 then(x.list.length:Int)==1 else false then y3 else false then y5 else false)
 else
  za (Sv (⟨x.kind,x.name,x.num,x.decl,x.list⟩:zg)) fun y6=>
  some y6
def UB(x:zg):Option Bool:=
 za (Oz (⟨x.kind,x.name,x.num,x.decl,x.list⟩:zg)) fun y1=>
 some (!y1)
def Q6(x:List zg):Option Int:=
 zS (fun(s1:Int)=>
   bif decide (s1<(x.length:Int))then
    za (geti x s1) fun y2=>
    za (UB (⟨y2.kind,y2.name,y2.num,y2.decl,y2.list⟩:zg)) fun y3=>
    bif y3 then
     some (LO.ret s1)
    else
     some (LO.again (w64 (s1+1)))
   else
    some (LO.out ()):Int->Option (LO (Int) (Unit) _)) 0 fun o4=>
 some (-1)
def qi(x:List zg):Option Bool:=
 za (Q6 x) fun y1=>
 some (decide (y1>=0))
def qy(x:zg):Option Int:=
 za (zq (bif bif x.kind==2 then decide ((x.list.length:Int)>0)else false then decide ((x.list.length:Int)<=64)else false) (qi x.list) (default:Bool)) fun y1=>
 za (QV (⟨x.kind,x.name,x.num,x.decl,x.list⟩:zg)) fun y2=>
 bif bif !y2 then true else bif !(bif x.kind==1 then(x.list.length:Int)==0 else false)then !(bif bif bif x.kind==2 then decide ((x.list.length:Int)>0)else false then decide ((x.list.length:Int)<=64)else false then !y1 else false)else false then
  some 8
 else
  some 0
def Ir(x:zg):Option Int:=
 za (qy (⟨x.kind,x.name,x.num,x.decl,x.list⟩:zg)) fun y1=>
 bif y1 != 0 then
  za (ZH (⟨x.kind,x.name,x.num,x.decl,x.list⟩:zg)) fun y2=>
  some y2
 else
  some 0
def yF(x:Int×List Bool):Option (Bool×Int):=
 za (geti x.2 (w64 (w64 (x.1+1) - 1))) fun y1=>
 some (y1,w64 (x.1+1))
def vF(jl:(zg×Int)×Int×List Bool->Option (Bool×Int))(x:(zg×Int)×Int×List Bool):Option (Bool×Int):=
 bif x.1.1.kind==4 then
  some (bif x.1.1.name==[97,108,108]then true else x.1.1.name==[115,99,114,101,101,110],x.2.1)
 else
  bif x.1.1.kind==5 then
   some (decide (x.1.2>=x.1.1.num),x.2.1)
  else
   bif x.1.1.kind==6 then
    some (decide (x.1.2<=x.1.1.num),x.2.1)
   else
    bif x.1.1.kind==7 then
     za (yF (x.2.1,x.2.2)) fun y1=>
     some (y1.1,y1.2)
    else
     bif x.1.1.kind==8 then
      some (false,x.2.1)
     else
      zS (fun(s2:(Bool×Bool×Int)×Int)=>
        bif decide (s2.1.2.2<(x.1.1.list.length:Int))then
         za (geti x.1.1.list s2.1.2.2) fun y3=>
         za (jl (((⟨y3.kind,y3.name,y3.num,y3.decl,y3.list⟩:zg),x.1.2),s2.2,x.2.2)) fun y4=>
         some (LO.again ((bif s2.1.1 then y4.1 else false,bif s2.1.2.1 then true else y4.1,w64 (s2.1.2.2+1)),y4.2))
        else
         some (LO.out ((s2.1.1,s2.1.2.1),s2.2)):(Bool×Bool×Int)×Int->Option (LO ((Bool×Bool×Int)×Int) ((Bool×Bool)×Int) _)) ((true,false,0),x.2.1) fun o5=>
      bif x.1.1.kind==1 then
       some (o5.1.1,o5.2)
      else
       bif x.1.1.kind==2 then
        some (o5.1.2,o5.2)
       else
        some (!o5.1.2,o5.2)
def jl:(zg×Int)×Int×List Bool->Option (Bool×Int):=recE (vF)
def oz(x:zg×VEnv×List Bool):Option (Bool×Int):=
 za (Ir (⟨x.1.kind,x.1.name,x.1.num,x.1.decl,x.1.list⟩:zg)) fun y1=>
 bif y1 != 0 then
  some (false,y1)
 else
  za (zq (!(bif decide (x.2.1.width<0)then true else decide (x.2.1.width>1000000000))) (QQ (⟨x.1.kind,x.1.name,x.1.num,x.1.decl,x.1.list⟩:zg)) (default:List z8)) fun y2=>
  bif bif bif decide (x.2.1.width<0)then true else decide (x.2.1.width>1000000000)then true else(x.2.2.length:Int) != (y2.length:Int)then
   some (false,2)
  else
   za (jl (((⟨x.1.kind,x.1.name,x.1.num,x.1.decl,x.1.list⟩:zg),w64 (1000*x.2.1.width)),0,x.2.2)) fun y3=>
   some (y3.1,0)
def Ew(x:Str):Option Bool:=
 za (zq (!(bif x==[]then true else decide ((x.length:Int)>64))) (qK x) (default:Str)) fun y1=>
 bif bif bif bif bif bif bif x==[]then true else decide ((x.length:Int)>64)then true else !(x==y1)then true else x==[97,110,100]then true else x==[111,114]then true else x==[110,111,116]then true else x==[111,110,108,121]then
  some false
 else
  zS (fun(s2:Int)=>
    bif decide (s2<(x.length:Int))then
     za (geti x s2) fun y3=>
     bif (y3.toNat:Int)==0 then
      some (LO.ret false)
     else
      some (LO.again (w64 (s2+1)))
    else
     some (LO.out ()):Int->Option (LO (Int) (Unit) _)) 0 fun o4=>
  some true
def wu(x:Int):Option Bool:=
 some (bif decide (x>=(-1000000000000))then decide (x<=1000000000000)else false)
def jo(x:zg):Option (Bool×Bool):=
 za (zq (!(x.kind != 1)) (qh (⟨x.kind,x.name,x.num,x.decl,x.list⟩:zg)) (default:Bool)) fun y1=>
 bif bif bif x.kind != 1 then true else !y1 then true else(x.list.length:Int)==0 then
  some (false,false)
 else
  zS (fun(s2:Int)=>
    bif decide (s2<(x.list.length:Int))then
     zP (X:=Int) (
       za (geti x.list s2) fun y3=>
       za (zq (!(decide ((y3.list.length:Int)>0))) (Bp y3.decl) (default:Bool)) fun y4=>
       bif bif decide ((y3.list.length:Int)>0)then true else !y4 then
        some (LX.ret (LO.ret (false,false)))
       else
        za (zq (bif bif s2==0 then y3.kind==4 else false then y3.num==0 else false) (Ew y3.name) (default:Bool)) fun y5=>
        bif bif bif bif s2==0 then y3.kind==4 else false then y3.num==0 else false then y5 else false then
         some (LX.out s2)
        else
         za (zq (!(bif bif bif y3.kind != 5 then y3.kind != 6 else false then true else !(y3.name==[])then true else decide (y3.num<0))) (wu y3.num) (default:Bool)) fun y6=>
         bif bif bif bif bif y3.kind != 5 then y3.kind != 6 else false then true else !(y3.name==[])then true else decide (y3.num<0)then true else !y6 then
          some (LX.ret (LO.ret (false,false)))
         else
          some (LX.out s2)) fun j7=>
     some (LO.again (w64 (j7+1)))
    else
     some (LO.out ()):Int->Option (LO (Int) (Unit) _)) 0 fun o8=>
  za (geti x.list 0) fun y9=>
  some (true,y9.kind==4)
def QK(x:zg):Option Bool:=
 bif x.kind==3 then
  za (qh (⟨x.kind,x.name,x.num,x.decl,x.list⟩:zg)) fun y1=>
  bif bif !y1 then true else(x.list.length:Int) != 1 then
   some false
  else
   za (geti x.list 0) fun y2=>
   za (jo (⟨y2.kind,y2.name,y2.num,y2.decl,y2.list⟩:zg)) fun y3=>
   some (bif y3.1 then y3.2 else false)
 else
  za (jo (⟨x.kind,x.name,x.num,x.decl,x.list⟩:zg)) fun y4=>
  some y4.1
def Q4(x:zg):Option Bool:=
 za (qh (⟨x.kind,x.name,x.num,x.decl,x.list⟩:zg)) fun y1=>
 bif !y1 then
  some false
 else
  bif x.kind==1 then
   some ((x.list.length:Int)==0)
  else
   bif bif bif x.kind != 2 then true else decide ((x.list.length:Int)<1)then true else decide ((x.list.length:Int)>64)then
    some false
   else
    zS (fun(s2:Int)=>
      bif decide (s2<(x.list.length:Int))then
       za (geti x.list s2) fun y3=>
       za (QK (⟨y3.kind,y3.name,y3.num,y3.decl,y3.list⟩:zg)) fun y4=>
       bif !y4 then
        some (LO.ret false)
       else
        some (LO.again (w64 (s2+1)))
      else
       some (LO.out ()):Int->Option (LO (Int) (Unit) _)) 0 fun o5=>
    some true
def CG(jk:zg×VEnv×List Bool->Option Bool)(x:zg×VEnv×List Bool):Option Bool:=
 bif x.1.kind==4 then
  some (bif x.1.name==[97,108,108]then true else x.1.name==[115,99,114,101,101,110])
 else
  bif x.1.kind==5 then
   some (decide (w64 (1000*x.2.1.width)>=x.1.num))
  else
   bif x.1.kind==6 then
    some (decide (w64 (1000*x.2.1.width)<=x.1.num))
   else
    bif x.1.kind==7 then
     za (geti x.2.2 0) fun y1=>
     some y1
    else
     bif x.1.kind==8 then
      some false
     else
      bif x.1.kind==3 then
       za (geti x.1.list 0) fun y2=>
       za (jk ((⟨y2.kind,y2.name,y2.num,y2.decl,y2.list⟩:zg),x.2.1,x.2.2)) fun y3=>
       some (!y3)
      else
       zS (fun(s4:List Bool×Bool×Int)=>
         bif decide (s4.2.2<(x.1.list.length:Int))then
          zP (X:=List Bool×Bool×Int) (
            za (geti x.1.list s4.2.2) fun y5=>
            za (Zy (⟨y5.kind,y5.name,y5.num,y5.decl,y5.list⟩:zg)) fun y6=>
            za (geti x.1.list s4.2.2) fun y7=>
            need (decide (0<=(y6.length:Int))&&decide ((y6.length:Int)<=(s4.1.length:Int)))<|
            za (jk ((⟨y7.kind,y7.name,y7.num,y7.decl,y7.list⟩:zg),x.2.1,List.take y6.length s4.1)) fun y8=>
            need (decide (0<=(y6.length:Int))&&decide ((y6.length:Int)<=(s4.1.length:Int)))<|
            bif x.1.kind==1 then
             some (LX.out (List.drop y6.length s4.1,bif s4.2.1 then y8 else false,s4.2.2))
            else
             some (LX.out (List.drop y6.length s4.1,bif s4.2.1 then true else y8,s4.2.2))) fun j9=>
          some (LO.again (j9.1,j9.2.1,w64 (j9.2.2+1)))
         else
          some (LO.out s4.2.1):List Bool×Bool×Int->Option (LO (List Bool×Bool×Int) (Bool) _)) (x.2.2,x.1.kind==1,0) fun o10=>
       some o10
def jk:zg×VEnv×List Bool->Option Bool:=recE (CG)
def xz(x:zg×VEnv×List Bool):Option (Bool×Int):=
 za (Q4 (⟨x.1.kind,x.1.name,x.1.num,x.1.decl,x.1.list⟩:zg)) fun y1=>
 za (zq (!y1) (ZF (⟨x.1.kind,x.1.name,x.1.num,x.1.decl,x.1.list⟩:zg)) (default:Bool)) fun y2=>
 bif bif !y1 then !y2 else false then
  some (false,8)
 else
  za (zq (!(bif decide (x.2.1.width<0)then true else decide (x.2.1.width>1000000000))) (Zy (⟨x.1.kind,x.1.name,x.1.num,x.1.decl,x.1.list⟩:zg)) (default:List z8)) fun y3=>
  bif bif bif decide (x.2.1.width<0)then true else decide (x.2.1.width>1000000000)then true else(x.2.2.length:Int) != (y3.length:Int)then
   some (false,2)
  else
   za (jk ((⟨x.1.kind,x.1.name,x.1.num,x.1.decl,x.1.list⟩:zg),x.2.1,x.2.2)) fun y4=>
   some (y4,0)
def Al(x:Str):Option Int:=
 za (strings_HasPrefix (x,[45])) fun y1=>
 bif y1 then
  some 2
 else
  some 1
def Z9(x:Int×List UInt8):Option (List UInt8):=
 za (zq (bif decide (x.1>32)then decide (x.1<127)else false) (qI x.1) (default:Bool)) fun y1=>
 za (zq (bif bif decide (x.1>32)then decide (x.1<127)else false then !y1 else false) (Vv x.1) (default:Bool)) fun y2=>
 bif bif bif bif decide (x.1>32)then decide (x.1<127)else false then !y1 else false then !y2 else false then
  za (qb x.1) fun y3=>
  need (Zj x.2.length 2 1)<|
  some (x.2++[(92:UInt8),y3])
 else
  need (Zj x.2.length 1 1)<|
  za (lq ((wu64 x.1,16),x.2++[(92:UInt8)])) fun y4=>
  need (Zj y4.length 1 1)<|
  some (y4++[(32:UInt8)])
def rz(x:Str×Int):Option (List UInt8):=
 zS (fun(s1:Int×List UInt8)=>
   bif decide (s1.1<(x.1.length:Int))then
    zP (X:=Int×List UInt8) (
      za (geti x.1 s1.1) fun y2=>
      za (il (y2.toNat:Int)) fun y3=>
      za (zq (!(decide (s1.1>=x.2))&&y3) (qI (y2.toNat:Int)) (default:Bool)) fun y4=>
      bif bif bif y3 then bif decide (s1.1>=x.2)then true else !y4 else false then bif x.2==0 then true else !(x.1==[45])else false then
       za (qb (y2.toNat:Int)) fun y5=>
       need (Zj s1.2.length 1 1)<|
       some (LX.out (s1.1,s1.2++[y5]))
      else
       za (Z9 ((y2.toNat:Int),s1.2)) fun y6=>
       some (LX.out (s1.1,y6))) fun j7=>
    some (LO.again (w64 (j7.1+1),j7.2))
   else
    some (LO.out s1.2):Int×List UInt8->Option (LO (Int×List UInt8) (List UInt8) _)) (0,[]) fun o8=>
 some o8
def uq(x:Str):Option (Str×Int):=
 za (zq (!(x==[])) (strings_IndexByte (x,0)) (default:Int)) fun y1=>
 bif bif x==[]then true else decide (y1>=0)then
  some ([],8)
 else
  za (Al x) fun y2=>
  za (rz (x,y2)) fun y3=>
  bif bif decide ((x.length:Int)>4000)then true else decide ((y3.length:Int)>4000)then
   some ([],28)
  else
   some (y3,0)
def Z8(x:Int×Int×List UInt8):Option (Int×List UInt8):=
 need (decide (0<=w64 (x.2.1 - 1))&&(decide (w64 (x.2.1 - 1)<20)&&decide (w64 (x.2.1 - 1)<(x.2.2.length:Int))))<|
 za (x.2.2[(w64 (x.2.1 - 1)).toNat]?) fun y1=>
 za (qb x.1) fun y2=>
 some (w64 (x.2.1 - 1),List.set x.2.2 (w64 (x.2.1 - 1)).toNat y2)
def uz(x:Int):Option (Str×Int):=
 za (Gp [x]) fun y1=>
 bif y1 != 0 then
  some ([],y1)
 else
  zP (X:=Int) (
    bif decide (x<0)then
     some (LX.out (w64 (0 - x)))
    else
     some (LX.out x)) fun j2=>
  zS (fun(s3:(Int×Int)×List UInt8×Int)=>
    bif decide (s3.1.2<3)then
     zP (X:=(Int×Int)×List UInt8×Int) (
       zP (X:=Int×List UInt8×Int) (
         bif bif Int.tmod s3.1.1 10 != 0 then true else decide (s3.2.2<20)then
          za (Z8 (wu8 (w64 (48+Int.tmod s3.1.1 10)),s3.2.2,s3.2.1)) fun y4=>
          some (LX.out (s3.1.1,y4.2,y4.1))
         else
          some (LX.out (s3.1.1,s3.2.1,s3.2.2))) fun j5=>
       bif bif s3.1.2==2 then decide (j5.2.2<20)else false then
        za (Z8 (46,j5.2.2,j5.2.1)) fun y6=>
        some (LX.out ((w64 (Int.tdiv j5.1 10),s3.1.2),y6.2,y6.1))
       else
        some (LX.out ((w64 (Int.tdiv j5.1 10),s3.1.2),j5.2.1,j5.2.2))) fun j7=>
     some (LO.again ((j7.1.1,w64 (j7.1.2+1)),j7.2.1,j7.2.2))
    else
     some (LO.out (s3.2.1,s3.2.2)):(Int×Int)×List UInt8×Int->Option (LO ((Int×Int)×List UInt8×Int) (List UInt8×Int) _)) ((Int.tmod j2 1000,0),List.replicate 20 (0:UInt8),20) fun o8=>
  zS (fun(s9:Int×List UInt8×Int)=>
    za (Z8 (wu8 (w64 (48+Int.tmod s9.1 10)),s9.2.2,s9.2.1)) fun y10=>
    bif decide (s9.1<10)then
     some (LO.out (y10.2,y10.1))
    else
     some (LO.again (w64 (Int.tdiv s9.1 10),y10.2,y10.1)):Int×List UInt8×Int->Option (LO (Int×List UInt8×Int) (List UInt8×Int) _)) (w64 (Int.tdiv j2 1000),o8.1,o8.2) fun o11=>
  zP (X:=List UInt8×Int) (
    bif decide (x<0)then
     za (Z8 (45,o11.2,o11.1)) fun y12=>
     some (LX.out (y12.2,y12.1))
    else
     some (LX.out (o11.1,o11.2))) fun j13=>
  need (decide (0<=j13.2)&&decide (j13.2<=20)&&Nat.beq j13.1.length 20)<|
  need (decide (j13.2.toNat+(20 - j13.2.toNat)<=j13.1.length))<|
  some (List.take (20 - j13.2.toNat) (List.drop j13.2.toNat j13.1),0)
def Kv(ZK:zg->Option Str)(x:List zg×Str):Option Str:=
 zS (fun(s1:Int×List Str)=>
   bif decide (s1.1<(x.1.length:Int))then
    za (geti x.1 s1.1) fun y2=>
    za (ZK (⟨y2.kind,y2.name,y2.num,y2.decl,y2.list⟩:zg)) fun y3=>
    need (Zj s1.2.length 1 16)<|
    some (LO.again (w64 (s1.1+1),s1.2++[y3]))
   else
    some (LO.out s1.2):Int×List Str->Option (LO (Int×List Str) (List Str) _)) (0,[]) fun o4=>
 za (Bl (o4,x.2)) fun y5=>
 some y5
def uF(ZK:zg->Option Str)(x:zg):Option Str:=
 bif x.kind==4 then
  za (uq x.name) fun y1=>
  some y1.1
 else
  bif x.kind==3 then
   za (geti x.list 0) fun y2=>
   za (ZK (⟨y2.kind,y2.name,y2.num,y2.decl,y2.list⟩:zg)) fun y3=>
   need (zO ([110,111,116,32]:Str).length y3.length)<|
   some (([110,111,116,32]:Str)++y3)
  else
   bif x.kind==2 then
    za (Kv ZK (x.list,[44,32])) fun y4=>
    some y4
   else
    bif x.kind==1 then
     za (Kv ZK (x.list,[32,97,110,100,32])) fun y5=>
     some y5
    else
     za (uz x.num) fun y6=>
     bif x.kind==5 then
      need (zO ([40,109,105,110,45,119,105,100,116,104,58,32]:Str).length y6.1.length)<|
      need (zO (([40,109,105,110,45,119,105,100,116,104,58,32]:Str)++y6.1).length ([112,120,41]:Str).length)<|
      some (([40,109,105,110,45,119,105,100,116,104,58,32]:Str)++y6.1++([112,120,41]:Str))
     else
      need (zO ([40,109,97,120,45,119,105,100,116,104,58,32]:Str).length y6.1.length)<|
      need (zO (([40,109,97,120,45,119,105,100,116,104,58,32]:Str)++y6.1).length ([112,120,41]:Str).length)<|
      some (([40,109,97,120,45,119,105,100,116,104,58,32]:Str)++y6.1++([112,120,41]:Str))
def ZK:zg->Option Str:=recE (uF)
def QD(x:(Str×Int)×List UInt8):Option (List UInt8):=
 zS (fun(s1:Int×List UInt8)=>
   bif decide (s1.1<(x.1.1.length:Int))then
    zP (X:=Int×List UInt8) (
      za (geti x.1.1 s1.1) fun y2=>
      za (il (y2.toNat:Int)) fun y3=>
      za (zq (!(decide (s1.1>=x.1.2))&&y3) (qI (y2.toNat:Int)) (default:Bool)) fun y4=>
      bif bif bif y3 then bif decide (s1.1>=x.1.2)then true else !y4 else false then bif x.1.2==0 then true else !(x.1.1==[45])else false then
       za (qb (y2.toNat:Int)) fun y5=>
       need (Zj s1.2.length 1 1)<|
       some (LX.out (s1.1,s1.2++[y5]))
      else
       za (Z9 ((y2.toNat:Int),s1.2)) fun y6=>
       some (LX.out (s1.1,y6))) fun j7=>
    some (LO.again (w64 (j7.1+1),j7.2))
   else
    some (LO.out s1.2):Int×List UInt8->Option (LO (Int×List UInt8) (List UInt8) _)) (0,x.2) fun o8=>
 some o8
def cz(x:Unit):Option zaT:=
 some (⟨[32],[60,33,45,45],[45,45,62],[58],[59],[44],[91],[93],[40],[41],[123],[125]⟩:zaT)
def Js(x:(Int×Bool)×List UInt8):Option (List UInt8):=
 zP (X:=Int×List UInt8) (
   bif decide (x.1.1<0)then
    need (Zj x.2.length 1 1)<|
    some (LX.out (w64 (0 - x.1.1),x.2++[(45:UInt8)]))
   else
    some (LX.out (x.1.1,x.2))) fun j1=>
 za (mq ((w64 (Int.tdiv j1.1 1000),10),j1.2)) fun y2=>
 za (Uq (w64 (1000+Int.tmod j1.1 1000),10)) fun y3=>
 need (decide (1<=(y3.length:Int)))<|
 za (yn (List.drop 1 y3,[48])) fun y4=>
 zP (X:=List UInt8) (
   bif !(y4==[])then
    need (Zj y2.length 1 1)<|
    need (Zj (y2++[(46:UInt8)]).length y4.length 1)<|
    some (LX.out (y2++[(46:UInt8)]++y4))
   else
    bif x.1.2 then
     need (Zj y2.length ([46,48]:Str).length 1)<|
     some (LX.out (y2++([46,48]:Str)))
    else
     some (LX.out y2)) fun j5=>
 some j5
def Uv(x:ze×List UInt8):Option (List UInt8):=
 bif x.1.kind==1 then
  za (Al x.1.text) fun y1=>
  za (QD ((x.1.text,y1),x.2)) fun y2=>
  some y2
 else
  bif x.1.kind==2 then
   za (Al x.1.text) fun y3=>
   za (QD ((x.1.text,y3),x.2)) fun y4=>
   need (Zj y4.length 1 1)<|
   some (y4++[(40:UInt8)])
  else
   bif x.1.kind==3 then
    need (Zj x.2.length 1 1)<|
    za (Al x.1.text) fun y5=>
    za (QD ((x.1.text,y5),x.2++[(64:UInt8)])) fun y6=>
    some y6
   else
    bif x.1.kind==4 then
     zP (X:=Int×List UInt8) (
       bif x.1.flag then
        za (Al x.1.text) fun y7=>
        some (LX.out (y7,x.2))
       else
        some (LX.out (0,x.2))) fun j8=>
     need (Zj j8.2.length 1 1)<|
     za (QD ((x.1.text,j8.1),j8.2++[(35:UInt8)])) fun y9=>
     some y9
    else
     bif x.1.kind==5 then
      need (Zj x.2.length 1 1)<|
      need (decide (x.1.text.length<=maxLen))<|
      zS (fun(s10:Int×List UInt8)=>
        bif decide (s10.1<(x.1.text.length:Int))then
         zP (X:=Int×List UInt8) (
           need (decide (0<=s10.1)&&decide (s10.1<(x.1.text.length:Int)))<|
           za x.1.text[s10.1.toNat]? fun y11=>
           za (strings_IndexByte ([10,12,13,34,92],(y11.toNat:Int))) fun y12=>
           bif decide (y12>=0)then
            za (Z9 ((y11.toNat:Int),s10.2)) fun y13=>
            some (LX.out (s10.1,y13))
           else
            za (qb (y11.toNat:Int)) fun y14=>
            need (Zj s10.2.length 1 1)<|
            some (LX.out (s10.1,s10.2++[y14]))) fun j15=>
         some (LO.again (w64 (j15.1+1),j15.2))
        else
         some (LO.out s10.2):Int×List UInt8->Option (LO (Int×List UInt8) (List UInt8) _)) (0,x.2++[(34:UInt8)]) fun o16=>
      need (Zj o16.length 1 1)<|
      some (o16++[(34:UInt8)])
     else
      bif x.1.kind==7 then
       need (Zj x.2.length ([117,114,108,40]:Str).length 1)<|
       need (decide (x.1.text.length<=maxLen))<|
       zS (fun(s17:Int×List UInt8)=>
         bif decide (s17.1<(x.1.text.length:Int))then
          zP (X:=Int×List UInt8) (
            need (decide (0<=s17.1)&&decide (s17.1<(x.1.text.length:Int)))<|
            za x.1.text[s17.1.toNat]? fun y18=>
            za (zq (!(decide ((y18.toNat:Int)<=32))) (strings_IndexByte ([34,39,40,41,92,127],(y18.toNat:Int))) (default:Int)) fun y19=>
            bif bif decide ((y18.toNat:Int)<=32)then true else decide (y19>=0)then
             za (Z9 ((y18.toNat:Int),s17.2)) fun y20=>
             some (LX.out (s17.1,y20))
            else
             za (qb (y18.toNat:Int)) fun y21=>
             need (Zj s17.2.length 1 1)<|
             some (LX.out (s17.1,s17.2++[y21]))) fun j22=>
          some (LO.again (w64 (j22.1+1),j22.2))
         else
          some (LO.out s17.2):Int×List UInt8->Option (LO (Int×List UInt8) (List UInt8) _)) (0,x.2++([117,114,108,40]:Str)) fun o23=>
       need (Zj o23.length 1 1)<|
       some (o23++[(41:UInt8)])
      else
       bif x.1.kind==9 then
        need (Zj x.2.length x.1.text.length 1)<|
        some (x.2++x.1.text)
       else
        bif x.1.kind==10 then
         za (Js ((x.1.num, !x.1.flag),x.2)) fun y24=>
         some y24
        else
         bif x.1.kind==11 then
          za (Js ((x.1.num,false),x.2)) fun y25=>
          need (Zj y25.length 1 1)<|
          some (y25++[(37:UInt8)])
         else
          bif x.1.kind==12 then
           za (Js ((x.1.num, !x.1.flag),x.2)) fun y26=>
           za (geti x.1.unit 0) fun y27=>
           need (decide (1<=(x.1.unit.length:Int))|| !(ibOr IntKind.u8 (y27.toNat:Int) 32==101))<|
           za (zq (ibOr IntKind.u8 (y27.toNat:Int) 32==101) (Cs (List.drop 1 x.1.unit)) (default:Bool)) fun y28=>
           need (decide (1<=(x.1.unit.length:Int))|| !(bif ibOr IntKind.u8 (y27.toNat:Int) 32==101 then y28 else false))<|
           za (zq (bif ibOr IntKind.u8 (y27.toNat:Int) 32==101 then y28 else false) (strings_HasPrefix (List.drop 1 x.1.unit,[45,45])) (default:Bool)) fun y29=>
           bif bif bif ibOr IntKind.u8 (y27.toNat:Int) 32==101 then y28 else false then !y29 else false then
            za (geti x.1.unit 0) fun y30=>
            za (Z9 ((y30.toNat:Int),y26)) fun y31=>
            need (decide (1<=(x.1.unit.length:Int)))<|
            za (QD ((List.drop 1 x.1.unit,0),y31)) fun y32=>
            some y32
           else
            za (Al x.1.unit) fun y33=>
            za (QD ((x.1.unit,y33),y26)) fun y34=>
            some y34
          else
           za (cz ()) fun y35=>
           za (geti [y35.e0,y35.e1,y35.e2,y35.e3,y35.e4,y35.e5,y35.e6,y35.e7,y35.e8,y35.e9,y35.e10,y35.e11] (wu8 (x.1.kind - 13))) fun y36=>
           need (Zj x.2.length y36.length 1)<|
           some (x.2++y36)
def ZG(x:zb):Option zb:=
 zS (fun(s1:zb)=>
   need (decide (0<=s1.at_)&&decide (s1.at_<=(s1.s.length:Int)))<|
   za (strings_HasPrefix (List.drop s1.at_.toNat s1.s,[47,42])) fun y2=>
   bif y2 then
    need (decide (0<=w64 (s1.at_+2))&&decide (w64 (s1.at_+2)<=(s1.s.length:Int)))<|
    za (Km (List.drop (w64 (s1.at_+2)).toNat s1.s,[42,47])) fun y3=>
    bif decide (y3<0)then
     some (LO.ret (⟨s1.s,(s1.s.length:Int)⟩:zb))
    else
     some (LO.again (⟨s1.s,w64 (s1.at_+w64 (y3+4))⟩:zb))
   else
    some (LO.out s1):zb->Option (LO (zb) (zb) _)) x fun o4=>
 some o4
def zf(x:Int×zb):Option Int:=
 bif decide (w64 (x.2.at_+x.1)<(x.2.s.length:Int))then
  za (geti x.2.s (w64 (x.2.at_+x.1))) fun y1=>
  some (w64 (y1.toNat:Int))
 else
  some (-1)
def Ql(x:Int):Option Bool:=
 some (bif bif x==32 then true else x==9 then true else x==10)
def Zp(x:zb):Option zb:=
 zS (fun(s1:zb)=>
   za (zf (0,s1)) fun y2=>
   za (Ql y2) fun y3=>
   bif y3 then
    some (LO.again (⟨s1.s,w64 (s1.at_+1)⟩:zb))
   else
    some (LO.out s1):zb->Option (LO (zb) (zb) _)) x fun o4=>
 some o4
def qW(x:Int):Option (List UInt8):=
 bif decide (wu32 x<=2047)then
  za (qb (ibOr IntKind.u8 192 (wu8 (mh IntKind.i32 x 6)))) fun y1=>
  za (qb (ibOr IntKind.u8 128 (Ui IntKind.u8 (wu8 x) 63))) fun y2=>
  need (Zj 0 2 1)<|
  some [y1,y2]
 else
  zP (X:=Bool) (
    bif decide (wu32 x<55296)then
     some (LX.out (decide (wu32 x<55296)))
    else
     some (LX.out (bif decide (57343<wu32 x)then decide (wu32 x<=65535)else false))) fun j3=>
  bif j3 then
   za (qb (ibOr IntKind.u8 224 (wu8 (mh IntKind.i32 x 12)))) fun y4=>
   za (qb (ibOr IntKind.u8 128 (Ui IntKind.u8 (wu8 (mh IntKind.i32 x 6)) 63))) fun y5=>
   za (qb (ibOr IntKind.u8 128 (Ui IntKind.u8 (wu8 x) 63))) fun y6=>
   need (Zj 0 3 1)<|
   some [y4,y5,y6]
  else
   bif bif decide (wu32 x>65535)then decide (wu32 x<=1114111)else false then
    za (qb (ibOr IntKind.u8 240 (wu8 (mh IntKind.i32 x 18)))) fun y7=>
    za (qb (ibOr IntKind.u8 128 (Ui IntKind.u8 (wu8 (mh IntKind.i32 x 12)) 63))) fun y8=>
    za (qb (ibOr IntKind.u8 128 (Ui IntKind.u8 (wu8 (mh IntKind.i32 x 6)) 63))) fun y9=>
    za (qb (ibOr IntKind.u8 128 (Ui IntKind.u8 (wu8 x) 63))) fun y10=>
    need (Zj 0 4 1)<|
    some [y7,y8,y9,y10]
   else
    need (Zj 0 3 1)<|
    some [(239:UInt8),(191:UInt8),(189:UInt8)]
def qO(x:Int):Option (List UInt8):=
 bif decide (wu32 x<=127)then
  za (qb (wu8 x)) fun y1=>
  need (Zj 0 1 1)<|
  some [y1]
 else
  za (qW x) fun y2=>
  some y2
def qH(x:Int×Int×Int):Option Bool:=
 some (bif decide (x.2.1<=x.1)then decide (x.1<=x.2.2)else false)
def ZZ(x:Int):Option Bool:=
 za (qH (x,48,57)) fun y1=>
 some y1
def Yo(x:Int):Option Int:=
 za (ZZ x) fun y1=>
 bif y1 then
  some (w64 (x - 48))
 else
  za (zq (x != (-1)) (qH (ibOr IntKind.i64 x 32,97,102)) (default:Bool)) fun y2=>
  bif bif bif bif x != (-1)then y2 else false then decide (x>64)else false then decide (x<128)else false then
   some (w64 (w64 (ibOr IntKind.i64 x 32 - 97)+10))
  else
   some (-1)
def qB(x:zb):Option (zb×List UInt8):=
 za (zf (0,(⟨x.s,w64 (x.at_+1)⟩:zb))) fun y1=>
 bif y1==(-1)then
  za (qO 65533) fun y2=>
  some ((⟨x.s,w64 (x.at_+1)⟩:zb),y2)
 else
  za (Yo y1) fun y3=>
  bif decide (y3<0)then
   za (qb (wu8 y1)) fun y4=>
   need (Zj 0 1 1)<|
   some ((⟨x.s,w64 (w64 (x.at_+1)+1)⟩:zb),[y4])
  else
   zS (fun(s5:(Int×Int)×zb)=>
     bif decide (s5.1.2<6)then
      za (zf (0,s5.2)) fun y6=>
      za (Yo y6) fun y7=>
      bif decide (y7<0)then
       some (LO.out (s5.1.1,s5.2))
      else
       some (LO.again ((ibOr IntKind.i64 (xB IntKind.i64 s5.1.1 4) y7,w64 (s5.1.2+1)),(⟨s5.2.s,w64 (s5.2.at_+1)⟩:zb)))
     else
      some (LO.out (s5.1.1,s5.2)):(Int×Int)×zb->Option (LO ((Int×Int)×zb) (Int×zb) _)) ((0,0),(⟨x.s,w64 (x.at_+1)⟩:zb)) fun o8=>
   zP (X:=Int×zb) (
     za (zf (0,o8.2)) fun y9=>
     za (Ql y9) fun y10=>
     bif y10 then
      some (LX.out (o8.1,(⟨o8.2.s,w64 (o8.2.at_+1)⟩:zb)))
     else
      some (LX.out (o8.1,o8.2))) fun j11=>
   zP (X:=Int) (
     bif j11.1==0 then
      some (LX.out 65533)
     else
      some (LX.out j11.1)) fun j12=>
   za (qO (w32 j12)) fun y13=>
   some (j11.2,y13)
def qX(x:Int×List UInt8):Option (List UInt8):=
 bif decide (wu32 x.1<=2047)then
  za (qb (ibOr IntKind.u8 192 (wu8 (mh IntKind.i32 x.1 6)))) fun y1=>
  za (qb (ibOr IntKind.u8 128 (Ui IntKind.u8 (wu8 x.1) 63))) fun y2=>
  need (Zj x.2.length 2 1)<|
  some (x.2++[y1,y2])
 else
  zP (X:=Bool×List UInt8) (
    bif decide (wu32 x.1<55296)then
     some (LX.out (decide (wu32 x.1<55296),x.2))
    else
     some (LX.out (bif decide (57343<wu32 x.1)then decide (wu32 x.1<=65535)else false,x.2))) fun j3=>
  bif j3.1 then
   za (qb (ibOr IntKind.u8 224 (wu8 (mh IntKind.i32 x.1 12)))) fun y4=>
   za (qb (ibOr IntKind.u8 128 (Ui IntKind.u8 (wu8 (mh IntKind.i32 x.1 6)) 63))) fun y5=>
   za (qb (ibOr IntKind.u8 128 (Ui IntKind.u8 (wu8 x.1) 63))) fun y6=>
   need (Zj j3.2.length 3 1)<|
   some (j3.2++[y4,y5,y6])
  else
   bif bif decide (wu32 x.1>65535)then decide (wu32 x.1<=1114111)else false then
    za (qb (ibOr IntKind.u8 240 (wu8 (mh IntKind.i32 x.1 18)))) fun y7=>
    za (qb (ibOr IntKind.u8 128 (Ui IntKind.u8 (wu8 (mh IntKind.i32 x.1 12)) 63))) fun y8=>
    za (qb (ibOr IntKind.u8 128 (Ui IntKind.u8 (wu8 (mh IntKind.i32 x.1 6)) 63))) fun y9=>
    za (qb (ibOr IntKind.u8 128 (Ui IntKind.u8 (wu8 x.1) 63))) fun y10=>
    need (Zj j3.2.length 4 1)<|
    some (j3.2++[y7,y8,y9,y10])
   else
    need (Zj j3.2.length 3 1)<|
    some (j3.2++[(239:UInt8),(191:UInt8),(189:UInt8)])
def qP(x:Int×List UInt8):Option (List UInt8):=
 bif decide (wu32 x.1<=127)then
  za (qb (wu8 x.1)) fun y1=>
  need (Zj x.2.length 1 1)<|
  some (x.2++[y1])
 else
  za (qX (x.1,x.2)) fun y2=>
  some y2
def Zl(x:zb×List UInt8):Option (zb×List UInt8):=
 za (zf (0,(⟨x.1.s,w64 (x.1.at_+1)⟩:zb))) fun y1=>
 bif y1==(-1)then
  za (qP (65533,x.2)) fun y2=>
  some ((⟨x.1.s,w64 (x.1.at_+1)⟩:zb),y2)
 else
  za (Yo y1) fun y3=>
  bif decide (y3<0)then
   za (qb (wu8 y1)) fun y4=>
   need (Zj x.2.length 1 1)<|
   some ((⟨x.1.s,w64 (w64 (x.1.at_+1)+1)⟩:zb),x.2++[y4])
  else
   zS (fun(s5:(Int×Int)×zb)=>
     bif decide (s5.1.2<6)then
      za (zf (0,s5.2)) fun y6=>
      za (Yo y6) fun y7=>
      bif decide (y7<0)then
       some (LO.out (s5.1.1,s5.2))
      else
       some (LO.again ((ibOr IntKind.i64 (xB IntKind.i64 s5.1.1 4) y7,w64 (s5.1.2+1)),(⟨s5.2.s,w64 (s5.2.at_+1)⟩:zb)))
     else
      some (LO.out (s5.1.1,s5.2)):(Int×Int)×zb->Option (LO ((Int×Int)×zb) (Int×zb) _)) ((0,0),(⟨x.1.s,w64 (x.1.at_+1)⟩:zb)) fun o8=>
   zP (X:=Int×zb×List UInt8) (
     za (zf (0,o8.2)) fun y9=>
     za (Ql y9) fun y10=>
     bif y10 then
      some (LX.out (o8.1,(⟨o8.2.s,w64 (o8.2.at_+1)⟩:zb),x.2))
     else
      some (LX.out (o8.1,o8.2,x.2))) fun j11=>
   zP (X:=Int×List UInt8) (
     bif j11.1==0 then
      some (LX.out (65533,j11.2.2))
     else
      some (LX.out (j11.1,j11.2.2))) fun j12=>
   za (qP (w32 j12.1,j12.2)) fun y13=>
   some (j11.2.1,y13)
def Qn(x:zb):Option (ze×zb):=
 za (zf (0,x)) fun y1=>
 zS (fun(s2:zb×ze×List UInt8)=>
   za (zf (0,s2.1)) fun y3=>
   bif y3==(-1)then
    some (LO.out (s2.1,s2.2.1,s2.2.2))
   else
    bif y3==y1 then
     some (LO.out ((⟨s2.1.s,w64 (s2.1.at_+1)⟩:zb),s2.2.1,s2.2.2))
    else
     bif y3==10 then
      some (LO.ret ((⟨6,[],0,[],false⟩:ze),s2.1))
     else
      za (zq (y3==92) (zf (1,s2.1)) (default:Int)) fun y4=>
      za (zq (!(y4==(-1))&&y3==92) (zf (1,s2.1)) (default:Int)) fun y5=>
      bif bif y3==92 then bif y4==(-1)then true else y5==10 else false then
       some (LO.again ((⟨s2.1.s,if(s2.1.s.length:Int)<w64 (s2.1.at_+2)then(s2.1.s.length:Int)else w64 (s2.1.at_+2)⟩:zb),s2.2.1,s2.2.2))
      else
       bif y3==92 then
        za (Zl (s2.1,s2.2.2)) fun y6=>
        some (LO.again (y6.1,s2.2.1,y6.2))
       else
        za (qb (wu8 y3)) fun y7=>
        need (Zj s2.2.2.length 1 1)<|
        some (LO.again ((⟨s2.1.s,w64 (s2.1.at_+1)⟩:zb),s2.2.1,s2.2.2++[y7])):zb×ze×List UInt8->Option (LO (zb×ze×List UInt8) (zb×ze×List UInt8) _)) ((⟨x.s,w64 (x.at_+1)⟩:zb),(⟨0,[],0,[],false⟩:ze),[]) fun o8=>
 some ((⟨5,o8.2.2,0,[],false⟩:ze),o8.1)
def Nr(x:Int):Option Bool:=
 za (qH (ibOr IntKind.i64 x 32,97,122)) fun y1=>
 some (bif bif bif bif y1 then decide (x<128)else false then decide (x>64)else false then true else x==95 then true else decide (x>=128))
def Dw(x:Int):Option Bool:=
 za (Nr x) fun y1=>
 za (zq (!y1) (ZZ x) (default:Bool)) fun y2=>
 some (bif bif y1 then true else y2 then true else x==45)
def zD(x:Int×zb):Option Bool:=
 za (zf (x.1,x.2)) fun y1=>
 za (zq (y1==92) (zf (w64 (x.1+1),x.2)) (default:Int)) fun y2=>
 some (bif y1==92 then y2 != 10 else false)
def zW(x:Int×zb):Option Bool:=
 za (zf (x.1,x.2)) fun y1=>
 bif y1 != 45 then
  za (zf (x.1,x.2)) fun y2=>
  za (Nr y2) fun y3=>
  za (zq (!y3) (zD (x.1,x.2)) (default:Bool)) fun y4=>
  some (bif y3 then true else y4)
 else
  za (zf (w64 (x.1+1),x.2)) fun y5=>
  za (Nr y5) fun y6=>
  za (zq (!y6) (zf (w64 (x.1+1),x.2)) (default:Int)) fun y7=>
  za (zq (!(bif y6 then true else y7==45)) (zD (w64 (x.1+1),x.2)) (default:Bool)) fun y8=>
  some (bif bif y6 then true else y7==45 then true else y8)
def Zh(x:zb):Option (Str×zb):=
 zS (fun(s1:zb×List UInt8)=>
   za (zf (0,s1.1)) fun y2=>
   za (Dw y2) fun y3=>
   bif y3 then
    za (qb (wu8 y2)) fun y4=>
    need (Zj s1.2.length 1 1)<|
    some (LO.again ((⟨s1.1.s,w64 (s1.1.at_+1)⟩:zb),s1.2++[y4]))
   else
    za (zq (y2 != (-1)) (zD (0,s1.1)) (default:Bool)) fun y5=>
    bif bif y2 != (-1)then y5 else false then
     za (Zl (s1.1,s1.2)) fun y6=>
     some (LO.again (y6.1,y6.2))
    else
     some (LO.ret (s1.2,s1.1)):zb×List UInt8->Option (LO (zb×List UInt8) (Unit) _)) (x,[]) fun o7=>
 none
def Z0(x:zb):Option Bool:=
 zP (X:=Int) (
   za (zf (0,x)) fun y1=>
   bif bif y1==43 then true else y1==45 then
    some (LX.out 1)
   else
    some (LX.out 0)) fun j2=>
 zP (X:=Int) (
   za (zf (j2,x)) fun y3=>
   bif y3==46 then
    some (LX.out (w64 (j2+1)))
   else
    some (LX.out j2)) fun j4=>
 za (zf (j4,x)) fun y5=>
 za (ZZ y5) fun y6=>
 some y6
def Zn(x:zb):Option zb:=
 zS (fun(s1:zb)=>
   za (zf (0,s1)) fun y2=>
   za (ZZ y2) fun y3=>
   bif y3 then
    some (LO.again (⟨s1.s,w64 (s1.at_+1)⟩:zb))
   else
    some (LO.out s1):zb->Option (LO (zb) (zb) _)) x fun o4=>
 some o4
def Qb(x:zb):Option (Bool×zb):=
 zP (X:=zb) (
   za (zf (0,x)) fun y1=>
   bif bif y1==43 then true else y1==45 then
    some (LX.out (⟨x.s,w64 (x.at_+1)⟩:zb))
   else
    some (LX.out x)) fun j2=>
 za (Zn j2) fun y3=>
 zP (X:=Bool×zb) (
   za (zf (0,y3)) fun y4=>
   za (zq (y4==46) (zf (1,y3)) (default:Int)) fun y5=>
   za (zq (y4==46) (ZZ y5) (default:Bool)) fun y6=>
   bif bif y4==46 then y6 else false then
    za (Zn (⟨y3.s,w64 (y3.at_+1)⟩:zb)) fun y7=>
    some (LX.out (false,y7))
   else
    some (LX.out (true,y3))) fun j8=>
 zP (X:=Bool×zb) (
   za (zf (0,j8.2)) fun y9=>
   za (zq (!(y9==101)) (zf (0,j8.2)) (default:Int)) fun y10=>
   bif bif y9==101 then true else y10==69 then
    zP (X:=(Bool×Int)×zb) (
      za (zf (1,j8.2)) fun y11=>
      bif bif y11==43 then true else y11==45 then
       some (LX.out ((j8.1,2),j8.2))
      else
       some (LX.out ((j8.1,1),j8.2))) fun j12=>
    za (zf (j12.1.2,j12.2)) fun y13=>
    za (ZZ y13) fun y14=>
    bif y14 then
     za (Zn (⟨j12.2.s,w64 (j12.2.at_+j12.1.2)⟩:zb)) fun y15=>
     some (LX.out (false,y15))
    else
     some (LX.out (j12.1.1,j12.2))
   else
    some (LX.out (j8.1,j8.2))) fun j16=>
 some (j16.1,j16.2)
def qN(x:Str):Option Int:=
 za (geti x 0) fun y1=>
 za (Nk (x,[43,45])) fun y2=>
 zP (X:=Str×Int) (
   za (ek (y2,[101,69])) fun y3=>
   bif decide (y3>=0)then
    need (decide (0<=w64 (y3+1))&&decide (w64 (y3+1)<=(y2.length:Int)))<|
    za (Nk (List.drop (w64 (y3+1)).toNat y2,[43,45])) fun y4=>
    need (decide (y4.length<=maxLen))<|
    zS (fun(s5:Int×Int)=>
      bif decide (s5.2<(y4.length:Int))then
       need (decide (0<=s5.2)&&decide (s5.2<(y4.length:Int)))<|
       za y4[s5.2.toNat]? fun y6=>
       some (LO.again (if 1048576<w64 (w64 (10*s5.1)+w64 (wu8 ((y6.toNat:Int) - 48)))then 1048576 else w64 (w64 (10*s5.1)+w64 (wu8 ((y6.toNat:Int) - 48))),w64 (s5.2+1)))
      else
       some (LO.out s5.1):Int×Int->Option (LO (Int×Int) (Int) _)) (0,0) fun o7=>
    zP (X:=Str×Int×Int) (
      za (geti y2 (w64 (y3+1))) fun y8=>
      bif (y8.toNat:Int)==45 then
       some (LX.out (y2,3,w64 (0 - o7)))
      else
       some (LX.out (y2,3,o7))) fun j9=>
    need (decide (0<=y3)&&decide (y3<=(j9.1.length:Int)))<|
    some (LX.out (List.take y3.toNat j9.1,w64 (j9.2.1+j9.2.2)))
   else
    some (LX.out (y2,3))) fun j10=>
 za (cutF (j10.1,[46])) fun y11=>
 need (zO y11.1.length y11.2.1.length)<|
 zP (X:=Str×Int) (
   bif decide (w64 (j10.2 - (y11.2.1.length:Int))<0)then
    need (decide (0<=(if w64 (((y11.1++y11.2.1).length:Int)+w64 (j10.2 - (y11.2.1.length:Int)))>0 then w64 (((y11.1++y11.2.1).length:Int)+w64 (j10.2 - (y11.2.1.length:Int)))else 0))&&decide ((if w64 (((y11.1++y11.2.1).length:Int)+w64 (j10.2 - (y11.2.1.length:Int)))>0 then w64 (((y11.1++y11.2.1).length:Int)+w64 (j10.2 - (y11.2.1.length:Int)))else 0)<=((y11.1++y11.2.1).length:Int)))<|
    some (LX.out (List.take (if w64 (((y11.1++y11.2.1).length:Int)+w64 (j10.2 - (y11.2.1.length:Int)))>0 then w64 (((y11.1++y11.2.1).length:Int)+w64 (j10.2 - (y11.2.1.length:Int)))else 0).toNat (y11.1++y11.2.1),w64 (j10.2 - (y11.2.1.length:Int))))
   else
    some (LX.out (y11.1++y11.2.1,w64 (j10.2 - (y11.2.1.length:Int))))) fun j12=>
 need (decide (j12.1.length<=maxLen))<|
 zS (fun(s13:Int×Int)=>
   bif decide (s13.2<(j12.1.length:Int))then
    need (decide (0<=s13.2)&&decide (s13.2<(j12.1.length:Int)))<|
    za j12.1[s13.2.toNat]? fun y14=>
    some (LO.again (if 1000000000000<w64 (w64 (10*s13.1)+w64 (wu8 ((y14.toNat:Int) - 48)))then 1000000000000 else w64 (w64 (10*s13.1)+w64 (wu8 ((y14.toNat:Int) - 48))),w64 (s13.2+1)))
   else
    some (LO.out s13.1):Int×Int->Option (LO (Int×Int) (Int) _)) (0,0) fun o15=>
 zS (fun(s16:Int×Int)=>
   bif bif bif decide (s16.1>0)then decide (s16.2>0)else false then decide (s16.2<1000000000000)else false then
    some (LO.again (w64 (s16.1 - 1),if 1000000000000<w64 (10*s16.2)then 1000000000000 else w64 (10*s16.2)))
   else
    some (LO.out s16.2):Int×Int->Option (LO (Int×Int) (Int) _)) (j12.2,o15) fun o17=>
 zP (X:=Int) (
   bif (y1.toNat:Int)==45 then
    some (LX.out (w64 (0 - o17)))
   else
    some (LX.out o17)) fun j18=>
 some j18
def qj(x:zb):Option (ze×zb):=
 za (Qb x) fun y1=>
 need (decide (0<=x.at_)&&(decide (x.at_<=y1.2.at_)&&decide (y1.2.at_<=(y1.2.s.length:Int))))<|
 za (qN (List.drop x.at_.toNat (List.take y1.2.at_.toNat y1.2.s))) fun y2=>
 zP (X:=zb×ze×ze) (
   za (zW (0,y1.2)) fun y3=>
   bif y3 then
    za (Zh y1.2) fun y4=>
    some (LX.out (y4.2,(⟨0,[],0,[],false⟩:ze),(⟨12,[],y2,y4.1,y1.1⟩:ze)))
   else
    za (zf (0,y1.2)) fun y5=>
    bif y5==37 then
     some (LX.out ((⟨y1.2.s,w64 (y1.2.at_+1)⟩:zb),(⟨0,[],0,[],false⟩:ze),(⟨11,[],y2,[],false⟩:ze)))
    else
     some (LX.out (y1.2,(⟨0,[],0,[],false⟩:ze),(⟨10,[],y2,[],y1.1⟩:ze)))) fun j6=>
 some (j6.2.2,j6.1)
def qM(x:zb):Option (ze×zb):=
 zS (fun(s1:zb×ze)=>
   za (zf (0,s1.1)) fun y2=>
   bif y2==(-1)then
    some (LO.ret ((⟨8,[],0,[],false⟩:ze),s1.1))
   else
    za (zD (0,s1.1)) fun y3=>
    bif y3 then
     za (qB s1.1) fun y4=>
     some (LO.again (y4.1,s1.2))
    else
     za (geti s1.1.s (w64 (w64 (s1.1.at_+1) - 1))) fun y5=>
     bif (y5.toNat:Int)==41 then
      some (LO.ret ((⟨8,[],0,[],false⟩:ze),(⟨s1.1.s,w64 (s1.1.at_+1)⟩:zb)))
     else
      some (LO.again ((⟨s1.1.s,w64 (s1.1.at_+1)⟩:zb),s1.2)):zb×ze->Option (LO (zb×ze) (Unit) _)) (x,(⟨0,[],0,[],false⟩:ze)) fun o6=>
 none
def TB(x:zb):Option (ze×zb):=
 za (Zp x) fun y1=>
 zS (fun(s2:zb×ze×List UInt8)=>
   za (zf (0,s2.1)) fun y3=>
   zP (X:=Int×zb×ze×List UInt8) (
     za (Ql y3) fun y4=>
     bif y4 then
      za (Zp s2.1) fun y5=>
      za (zf (0,y5)) fun y6=>
      bif bif y6 != 41 then y6 != (-1)else false then
       za (qM y5) fun y7=>
       some (LX.ret (LO.ret (y7.1,y7.2)))
      else
       some (LX.out (y6,y5,s2.2.1,s2.2.2))
     else
      some (LX.out (y3,s2.1,s2.2.1,s2.2.2))) fun j8=>
   bif j8.1==(-1)then
    some (LO.ret ((⟨7,j8.2.2.2,0,[],false⟩:ze),j8.2.1))
   else
    bif j8.1==41 then
     some (LO.ret ((⟨7,j8.2.2.2,0,[],false⟩:ze),(⟨j8.2.1.s,w64 (j8.2.1.at_+1)⟩:zb)))
    else
     za (zq (!(bif bif bif bif j8.1==34 then true else j8.1==39 then true else j8.1==40 then true else decide (j8.1<=8)then true else j8.1==11)) (qH (j8.1,14,31)) (default:Bool)) fun y9=>
     bif bif bif bif bif bif bif j8.1==34 then true else j8.1==39 then true else j8.1==40 then true else decide (j8.1<=8)then true else j8.1==11 then true else y9 then true else j8.1==127 then
      za (qM j8.2.1) fun y10=>
      some (LO.ret (y10.1,y10.2))
     else
      bif j8.1 != 92 then
       za (qb (wu8 j8.1)) fun y11=>
       need (Zj j8.2.2.2.length 1 1)<|
       some (LO.again ((⟨j8.2.1.s,w64 (j8.2.1.at_+1)⟩:zb),j8.2.2.1,j8.2.2.2++[y11]))
      else
       za (zD (0,j8.2.1)) fun y12=>
       bif y12 then
        za (Zl (j8.2.1,j8.2.2.2)) fun y13=>
        some (LO.again (y13.1,j8.2.2.1,y13.2))
       else
        za (qM j8.2.1) fun y14=>
        some (LO.ret (y14.1,y14.2)):zb×ze×List UInt8->Option (LO (zb×ze×List UInt8) (Unit) _)) (y1,(⟨0,[],0,[],false⟩:ze),[]) fun o15=>
 none
def qf(x:zb):Option (ze×zb):=
 za (Zh x) fun y1=>
 za (zf (0,y1.2)) fun y2=>
 bif y2 != 40 then
  some ((⟨1,y1.1,0,[],false⟩:ze),y1.2)
 else
  zP (X:=zb×ze) (
    za (Kn (y1.1,[117,114,108])) fun y3=>
    bif y3 then
     za (Zp (⟨y1.2.s,w64 (y1.2.at_+1)⟩:zb)) fun y4=>
     za (zf (0,y4)) fun y5=>
     bif bif y5 != 34 then y5 != 39 else false then
      za (TB (⟨y1.2.s,w64 (y1.2.at_+1)⟩:zb)) fun y6=>
      some (LX.ret (y6.1,y6.2))
     else
      some (LX.out ((⟨y1.2.s,w64 (y1.2.at_+1)⟩:zb),(⟨0,[],0,[],false⟩:ze)))
    else
     some (LX.out ((⟨y1.2.s,w64 (y1.2.at_+1)⟩:zb),(⟨0,[],0,[],false⟩:ze)))) fun j7=>
  some ((⟨2,y1.1,0,[],false⟩:ze),j7.1)
def Qg(x:zb):Option (ze×zb):=
 za (zf (0,x)) fun y1=>
 need (decide (0<=x.at_)&&decide (x.at_<=(x.s.length:Int)))<|
 za (Ql y1) fun y2=>
 bif y2 then
  za (Zp x) fun y3=>
  some ((⟨13,[],0,[],false⟩:ze),y3)
 else
  bif bif y1==34 then true else y1==39 then
   za (Qn x) fun y4=>
   some (y4.1,y4.2)
  else
   za (zq (y1==35) (zf (1,x)) (default:Int)) fun y5=>
   za (zq (y1==35) (Dw y5) (default:Bool)) fun y6=>
   za (zq (!y6&&y1==35) (zD (1,x)) (default:Bool)) fun y7=>
   bif bif y1==35 then bif y6 then true else y7 else false then
    za (zW (1,x)) fun y8=>
    za (Zh (⟨x.s,w64 (x.at_+1)⟩:zb)) fun y9=>
    some ((⟨4,y9.1,0,[],y8⟩:ze),y9.2)
   else
    za (Z0 x) fun y10=>
    bif y10 then
     za (qj x) fun y11=>
     some (y11.1,y11.2)
    else
     za (strings_HasPrefix (List.drop x.at_.toNat x.s,[45,45,62])) fun y12=>
     bif y12 then
      some ((⟨15,[],0,[],false⟩:ze),(⟨x.s,w64 (x.at_+3)⟩:zb))
     else
      za (strings_HasPrefix (List.drop x.at_.toNat x.s,[60,33,45,45])) fun y13=>
      bif y13 then
       some ((⟨14,[],0,[],false⟩:ze),(⟨x.s,w64 (x.at_+4)⟩:zb))
      else
       za (zq (y1==64) (zW (1,x)) (default:Bool)) fun y14=>
       bif bif y1==64 then y14 else false then
        za (Zh (⟨x.s,w64 (x.at_+1)⟩:zb)) fun y15=>
        some ((⟨3,y15.1,0,[],false⟩:ze),y15.2)
       else
        za (zW (0,x)) fun y16=>
        bif y16 then
         za (qf x) fun y17=>
         some (y17.1,y17.2)
        else
         za (strings_IndexByte ([58,59,44,91,93,40,41,123,125],wu8 y1)) fun y18=>
         bif decide (y18>=0)then
          some ((⟨wu8 (16+wu8 y18),[],0,[],false⟩:ze),(⟨x.s,w64 (x.at_+1)⟩:zb))
         else
          need (decide (1<=((List.drop x.at_.toNat x.s).length:Int)))<|
          some ((⟨9,List.take 1 (List.drop x.at_.toNat x.s),0,[],false⟩:ze),(⟨x.s,w64 (x.at_+1)⟩:zb))
def WB(x:(ze×Int×Int)×List ze):Option (List ze):=
 need (Zj x.2.length 1 56)<|
 some (x.2++[x.1.1])
def KA(x:Str):Option (Int×List ze):=
 za (Rm x) fun y1=>
 bif y1.2 != 0 then
  some (y1.2,[])
 else
  za (ZG (⟨y1.1,0⟩:zb)) fun y2=>
  zS (fun(s3:Int×List ze×zb)=>
    bif decide (s3.2.2.at_<(y1.1.length:Int))then
     bif decide (w64 (s3.1+1)>1500)then
      some (LO.ret (4,s3.2.1))
     else
      za (Qg s3.2.2) fun y4=>
      za (WB ((y4.1,s3.2.2.at_,y4.2.at_),s3.2.1)) fun y5=>
      za (ZG y4.2) fun y6=>
      some (LO.again (w64 (s3.1+1),y5,y6))
    else
     some (LO.out (s3.2.1,s3.2.2)):Int×List ze×zb->Option (LO (Int×List ze×zb) (List ze×zb) _)) (0,[],y2) fun o7=>
  some (0,o7.1)
def LA(x:Str):Option (List ze×Int):=
 za (KA x) fun y1=>
 bif y1.1 != 0 then
  some ([],y1.1)
 else
  some (y1.2,0)
def Qe(x:List ze×List ze):Option Bool:=
 bif (x.1.length:Int) != (x.2.length:Int)then
  some false
 else
  zS (fun(s1:Int)=>
    bif decide (s1<(x.1.length:Int))then
     za (geti x.1 s1) fun y2=>
     za (geti x.2 s1) fun y3=>
     bif !(y2.kind==y3.kind&&(y2.text==y3.text&&(y2.num==y3.num&&(y2.unit==y3.unit&&(y2.flag==y3.flag&&true)))))then
      some (LO.ret false)
     else
      some (LO.again (w64 (s1+1)))
    else
     some (LO.out ()):Int->Option (LO (Int) (Unit) _)) 0 fun o4=>
  some true
def dz(x:List ze):Option (Str×Int):=
 za (QR x) fun y1=>
 bif y1 != 0 then
  some ([],y1)
 else
  zS (fun(s2:Int×List UInt8×List zR)=>
    bif decide (s2.1<(x.length:Int))then
     need (decide (0<=s2.1)&&decide (s2.1<=(x.length:Int)))<|
     za (QS (List.drop s2.1.toNat x)) fun y3=>
     need (decide (0<=s2.1)&&(decide (s2.1<=w64 (s2.1+y3))&&decide (w64 (s2.1+y3)<=(x.length:Int))))<|
     zS (fun(s4:Int×List UInt8)=>
       bif decide (s4.1<((List.drop s2.1.toNat (List.take (w64 (s2.1+y3)).toNat x)).length:Int))then
        za (geti (List.drop s2.1.toNat (List.take (w64 (s2.1+y3)).toNat x)) s4.1) fun y5=>
        za (Uv (y5,s4.2)) fun y6=>
        some (LO.again (w64 (s4.1+1),y6))
       else
        some (LO.out s4.2):Int×List UInt8->Option (LO (Int×List UInt8) (List UInt8) _)) (0,[]) fun o7=>
     zP (X:=Int×List UInt8×List zR×List UInt8) (
       za (geti x s2.1) fun y8=>
       bif bif y8.kind==9 then y3==2 else false then
        some (LX.out (s2.1,s2.2.1,s2.2.2,[(92:UInt8),(10:UInt8)]))
       else
        some (LX.out (s2.1,s2.2.1,s2.2.2,o7))) fun j9=>
     zP (X:=Int×List UInt8×List zR×zR) (
       bif decide (w64 ((j9.2.2.1.length:Int) - 4)>=0)then
        need (decide (0<=w64 ((j9.2.2.1.length:Int) - 4))&&decide (w64 ((j9.2.2.1.length:Int) - 4)<(j9.2.2.1.length:Int)))<|
        za (j9.2.2.1[(w64 ((j9.2.2.1.length:Int) - 4)).toNat]?) fun y10=>
        some (LX.out (j9.1,j9.2.1,j9.2.2.1,y10))
       else
        some (LX.out (j9.1,j9.2.1,j9.2.2.1,(⟨0,0⟩:zR)))) fun j11=>
     need (decide (0<=j11.2.2.2.at_)&&decide (j11.2.2.2.at_<=(j11.2.1.length:Int)))<|
     need (decide (j11.2.2.2.at_.toNat+(j11.2.1.length - j11.2.2.2.at_.toNat)<=j11.2.1.length))<|
     need (zO (List.take (j11.2.1.length - j11.2.2.2.at_.toNat) (List.drop j11.2.2.2.at_.toNat j11.2.1)).length j9.2.2.2.length)<|
     za (LA (List.take (j11.2.1.length - j11.2.2.2.at_.toNat) (List.drop j11.2.2.2.at_.toNat j11.2.1)++j9.2.2.2)) fun y12=>
     zP (X:=Int×List zR×List UInt8) (
       need (decide (0<=j11.2.2.2.token)&&(decide (j11.2.2.2.token<=w64 (j11.1+y3))&&decide (w64 (j11.1+y3)<=(x.length:Int)))|| !(!(y12.2 != 0)))<|
       za (zq (!(y12.2 != 0)) (Qe (y12.1,List.drop j11.2.2.2.token.toNat (List.take (w64 (j11.1+y3)).toNat x))) (default:Bool)) fun y13=>
       bif bif y12.2 != 0 then true else !y13 then
        need (Zj j11.2.1.length ([47,42,42,47]:Str).length 1)<|
        some (LX.out (j11.1,j11.2.2.1,j11.2.1++([47,42,42,47]:Str)))
       else
        some (LX.out (j11.1,j11.2.2.1,j11.2.1))) fun j14=>
     need (Zj j14.2.1.length 1 16)<|
     need (Zj j14.2.2.length j9.2.2.2.length 1)<|
     bif decide (((j14.2.2++j9.2.2.2).length:Int)>4000)then
      some (LO.ret ([],28))
     else
      some (LO.again (w64 (j14.1+y3),j14.2.2++j9.2.2.2,j14.2.1++[(⟨j14.1,(j14.2.2.length:Int)⟩:zR)]))
    else
     some (LO.out s2.2.1):Int×List UInt8×List zR->Option (LO (Int×List UInt8×List zR) (List UInt8) _)) (0,[],[]) fun o15=>
  some (o15,0)
def Cz(x:List zh):Option (Str×Int):=
 za (uk x) fun y1=>
 bif y1 != 0 then
  some ([],y1)
 else
  za (Ep x) fun y2=>
  za (dz y2) fun y3=>
  some (y3.1,y3.2)
def Kz(x:z8):Option (Str×Int):=
 za (wo x) fun y1=>
 bif y1 != 0 then
  some ([],y1)
 else
  za (uq x.name) fun y2=>
  bif y2.2 != 0 then
   some ([],y2.2)
  else
   za (Cz x.value) fun y3=>
   bif y3.2 != 0 then
    some ([],y3.2)
   else
    need (zO y2.1.length ([58,32]:Str).length)<|
    need (zO (y2.1++([58,32]:Str)).length y3.1.length)<|
    zP (X:=Str) (
      bif x.important then
       need (zO (y2.1++([58,32]:Str)++y3.1).length ([32,33,105,109,112,111,114,116,97,110,116]:Str).length)<|
       some (LX.out (y2.1++([58,32]:Str)++y3.1++([32,33,105,109,112,111,114,116,97,110,116]:Str)))
      else
       some (LX.out (y2.1++([58,32]:Str)++y3.1))) fun j4=>
    bif decide ((j4.length:Int)>4000)then
     some ([],28)
    else
     some (j4,0)
def QC(zG:zg×Bool->Option (Str×Bool))(x:zg×Bool):Option (Str×Bool):=
 za (zG ((⟨x.1.kind,x.1.name,x.1.num,x.1.decl,x.1.list⟩:zg),x.2)) fun y1=>
 za (Cr (⟨x.1.kind,x.1.name,x.1.num,x.1.decl,x.1.list⟩:zg)) fun y2=>
 bif y2 then
  some (y1.1,y1.2)
 else
  need (zO ([40]:Str).length y1.1.length)<|
  need (zO (([40]:Str)++y1.1).length ([41]:Str).length)<|
  some (([40]:Str)++y1.1++([41]:Str),y1.2)
def Yv(zG:zg×Bool->Option (Str×Bool))(x:(List zg×Str)×Bool):Option (Str×Bool):=
 zS (fun(s1:Int×Bool×List Str)=>
   bif decide (s1.1<(x.1.1.length:Int))then
    za (geti x.1.1 s1.1) fun y2=>
    za (QC zG ((⟨y2.kind,y2.name,y2.num,y2.decl,y2.list⟩:zg),s1.2.1)) fun y3=>
    need (Zj s1.2.2.length 1 16)<|
    some (LO.again (w64 (s1.1+1),y3.2,s1.2.2++[y3.1]))
   else
    some (LO.out (s1.2.1,s1.2.2)):Int×Bool×List Str->Option (LO (Int×Bool×List Str) (Bool×List Str) _)) (0,x.2,[]) fun o4=>
 za (Bl (o4.2,x.1.2)) fun y5=>
 some (y5,o4.1)
def wG(zG:zg×Bool->Option (Str×Bool))(x:zg×Bool):Option (Str×Bool):=
 bif x.1.kind==7 then
  za (Kz x.1.decl) fun y1=>
  need (zO ([40]:Str).length y1.1.length)<|
  need (zO (([40]:Str)++y1.1).length ([41]:Str).length)<|
  some (([40]:Str)++y1.1++([41]:Str),bif x.2 then true else y1.2 != 0)
 else
  bif x.1.kind==8 then
   some ([40,117,110,107,110,111,119,110,41],x.2)
  else
   bif x.1.kind==3 then
    za (geti x.1.list 0) fun y2=>
    za (QC zG ((⟨y2.kind,y2.name,y2.num,y2.decl,y2.list⟩:zg),x.2)) fun y3=>
    need (zO ([110,111,116,32]:Str).length y3.1.length)<|
    some (([110,111,116,32]:Str)++y3.1,y3.2)
   else
    bif x.1.kind==2 then
     za (Yv zG ((x.1.list,[32,111,114,32]),x.2)) fun y4=>
     some (y4.1,y4.2)
    else
     za (Yv zG ((x.1.list,[32,97,110,100,32]),x.2)) fun y5=>
     some (y5.1,y5.2)
def zG:zg×Bool->Option (Str×Bool):=recE (wG)
def Pz(x:zg):Option (Str×Int):=
 za (Ir (⟨x.kind,x.name,x.num,x.decl,x.list⟩:zg)) fun y1=>
 bif y1 != 0 then
  some ([],y1)
 else
  zP (X:=Str×Bool) (
    za (qy (⟨x.kind,x.name,x.num,x.decl,x.list⟩:zg)) fun y2=>
    bif y2==0 then
     za (ZK (⟨x.kind,x.name,x.num,x.decl,x.list⟩:zg)) fun y3=>
     some (LX.out (y3,false))
    else
     za (zG ((⟨x.kind,x.name,x.num,x.decl,x.list⟩:zg),false)) fun y4=>
     some (LX.out (y4.1,y4.2))) fun j5=>
  bif bif j5.2 then true else decide ((j5.1.length:Int)>4000)then
   some ([],28)
  else
   some (j5.1,0)
def Qu(x:Int):Option Str:=
 za (qd x) fun y1=>
 za (zq (bif decide (x>=33)then decide (x<=126)else false) (zC x) (default:Bool)) fun y2=>
 bif bif bif bif decide (x>=33)then decide (x<=126)else false then !y2 else false then bif decide (y1<97)then true else decide (y1>122)else false then
  za (qb x) fun y3=>
  some [(92:UInt8),y3]
 else
  need (decide (0<=Int.tmod x 16)&&(decide (Int.tmod x 16<=wu8 (Int.tmod x 16+1))&&decide (wu8 (Int.tmod x 16+1)<=16)))<|
  zP (X:=Str) (
    bif decide (x>=16)then
     need (decide (0<=wu8 (Int.tdiv x 16))&&(decide (wu8 (Int.tdiv x 16)<=wu8 (wu8 (Int.tdiv x 16)+1))&&decide (wu8 (wu8 (Int.tdiv x 16)+1)<=16)))<|
     need (zO (List.drop (wu8 (Int.tdiv x 16)).toNat (List.take (wu8 (wu8 (Int.tdiv x 16)+1)).toNat ([48,49,50,51,52,53,54,55,56,57,97,98,99,100,101,102]:Str))).length (List.drop (Int.tmod x 16).toNat (List.take (wu8 (Int.tmod x 16+1)).toNat ([48,49,50,51,52,53,54,55,56,57,97,98,99,100,101,102]:Str))).length)<|
     some (LX.out (List.drop (wu8 (Int.tdiv x 16)).toNat (List.take (wu8 (wu8 (Int.tdiv x 16)+1)).toNat ([48,49,50,51,52,53,54,55,56,57,97,98,99,100,101,102]:Str))++List.drop (Int.tmod x 16).toNat (List.take (wu8 (Int.tmod x 16+1)).toNat ([48,49,50,51,52,53,54,55,56,57,97,98,99,100,101,102]:Str))))
    else
     some (LX.out (List.drop (Int.tmod x 16).toNat (List.take (wu8 (Int.tmod x 16+1)).toNat ([48,49,50,51,52,53,54,55,56,57,97,98,99,100,101,102]:Str))))) fun j4=>
  need (zO ([92]:Str).length j4.length)<|
  need (zO (([92]:Str)++j4).length ([32]:Str).length)<|
  some (([92]:Str)++j4++([32]:Str))
def ZQ(x:Str×Bool):Option Str:=
 zS (fun(s1:Str×Int)=>
   bif decide (s1.2<(x.1.length:Int))then
    zP (X:=Str×Int) (
      za (geti x.1 s1.2) fun y2=>
      za (zq (s1.2==1&& !(s1.2==0)) (geti x.1 0) 0) fun y3=>
      za (ZP (y2.toNat:Int)) fun y4=>
      zP (X:=Str×Bool) (
        za (zq (!x.2) (zC (y2.toNat:Int)) (default:Bool)) fun y5=>
        bif bif !x.2 then bif bif y5 then bif s1.2==0 then true else bif s1.2==1 then(y3.toNat:Int)==45 else false else false then true else x.1==[45]else false then
         some (LX.out (s1.1,false))
        else
         some (LX.out (s1.1,y4))) fun j6=>
      bif j6.2 then
       need (decide (0<=s1.2)&&(decide (s1.2<=w64 (s1.2+1))&&decide (w64 (s1.2+1)<=(x.1.length:Int))))<|
       need (zO j6.1.length (List.drop s1.2.toNat (List.take (w64 (s1.2+1)).toNat x.1)).length)<|
       some (LX.out (j6.1++List.drop s1.2.toNat (List.take (w64 (s1.2+1)).toNat x.1),s1.2))
      else
       za (Qu (y2.toNat:Int)) fun y7=>
       need (zO j6.1.length y7.length)<|
       some (LX.out (j6.1++y7,s1.2))) fun j8=>
    some (LO.again (j8.1,w64 (j8.2+1)))
   else
    some (LO.out s1.1):Str×Int->Option (LO (Str×Int) (Str) _)) ([],0) fun o9=>
 some o9
def YG(qG:Int->Option Str)(x:Int):Option Str:=
 za (qb (wu8 (w64 (48+Int.tmod x 10)))) fun y1=>
 bif decide (x<10)then
  some [y1]
 else
  za (qG (w64 (Int.tdiv x 10))) fun y2=>
  need (zO y2.length [y1].length)<|
  some (y2++[y1])
def qG:Int->Option Str:=recE (YG)
def GG(nk:Int->Option Str)(x:Int):Option Str:=
 bif decide (x<0)then
  za (nk (w64 (0 - x))) fun y1=>
  need (zO ([45]:Str).length y1.length)<|
  some (([45]:Str)++y1)
 else
  za (qG (w64 (Int.tdiv x 1000))) fun y2=>
  bif Int.tmod x 1000==0 then
   some y2
  else
   need (zO y2.length ([46]:Str).length)<|
   zS (fun(s3:Str×Int×Int)=>
     bif decide (s3.2.1>0)then
      need (s3.2.2 != 0)<|
      za (qG (w64 (Int.tdiv s3.2.1 s3.2.2))) fun y4=>
      need (zO s3.1.length y4.length)<|
      need (s3.2.2 != 0)<|
      some (LO.again (s3.1++y4,Int.tmod s3.2.1 s3.2.2,w64 (Int.tdiv s3.2.2 10)))
     else
      some (LO.out s3.1):Str×Int×Int->Option (LO (Str×Int×Int) (Str) _)) (y2++([46]:Str),Int.tmod x 1000,100) fun o5=>
   some o5
def nk:Int->Option Str:=recE (GG)
def vv(x:Str×Bool):Option Str:=
 zS (fun(s1:Str×Int)=>
   bif decide (s1.2<(x.1.length:Int))then
    zP (X:=Str×Int) (
      za (geti x.1 s1.2) fun y2=>
      zP (X:=Str×Bool) (
        bif x.2 then
         some (LX.out (s1.1,bif bif bif bif bif bif bif bif bif (y2.toNat:Int)==10 then true else(y2.toNat:Int)==12 then true else(y2.toNat:Int)==13 then true else(y2.toNat:Int)==34 then true else(y2.toNat:Int)==92 then true else decide ((y2.toNat:Int)<=32)then true else(y2.toNat:Int)==127 then true else(y2.toNat:Int)==39 then true else(y2.toNat:Int)==40 then true else(y2.toNat:Int)==41))
        else
         some (LX.out (s1.1,bif bif bif bif (y2.toNat:Int)==10 then true else(y2.toNat:Int)==12 then true else(y2.toNat:Int)==13 then true else(y2.toNat:Int)==34 then true else(y2.toNat:Int)==92))) fun j3=>
      bif j3.2 then
       za (Qu (y2.toNat:Int)) fun y4=>
       need (zO j3.1.length y4.length)<|
       some (LX.out (j3.1++y4,s1.2))
      else
       need (decide (0<=s1.2)&&(decide (s1.2<=w64 (s1.2+1))&&decide (w64 (s1.2+1)<=(x.1.length:Int))))<|
       need (zO j3.1.length (List.drop s1.2.toNat (List.take (w64 (s1.2+1)).toNat x.1)).length)<|
       some (LX.out (j3.1++List.drop s1.2.toNat (List.take (w64 (s1.2+1)).toNat x.1),s1.2))) fun j5=>
    some (LO.again (j5.1,w64 (j5.2+1)))
   else
    some (LO.out s1.1):Str×Int->Option (LO (Str×Int) (Str) _)) ([],0) fun o6=>
 some o6
def eG(Qa:Int->Option Str)(x:Int):Option Str:=
 bif decide (x<10)then
  need (decide (0<=x)&&(decide (x<=w64 (x+1))&&decide (w64 (x+1)<=16)))<|
  some (List.drop x.toNat (List.take (w64 (x+1)).toNat ([48,49,50,51,52,53,54,55,56,57,97,98,99,100,101,102]:Str)))
 else
  za (Qa (w64 (Int.tdiv x 10))) fun y1=>
  need (decide (0<=Int.tmod x 10)&&(decide (Int.tmod x 10<=w64 (Int.tmod x 10+1))&&decide (w64 (Int.tmod x 10+1)<=16)))<|
  need (zO y1.length (List.drop (Int.tmod x 10).toNat (List.take (w64 (Int.tmod x 10+1)).toNat ([48,49,50,51,52,53,54,55,56,57,97,98,99,100,101,102]:Str))).length)<|
  some (y1++List.drop (Int.tmod x 10).toNat (List.take (w64 (Int.tmod x 10+1)).toNat ([48,49,50,51,52,53,54,55,56,57,97,98,99,100,101,102]:Str)))
def Qa:Int->Option Str:=recE (eG)
def dG(qF:Int×Bool->Option Str)(x:Int×Bool):Option Str:=
 bif decide (x.1<0)then
  za (qF (w64 (0 - x.1),x.2)) fun y1=>
  need (zO ([45]:Str).length y1.length)<|
  some (([45]:Str)++y1)
 else
  za (Qa (w64 (Int.tdiv x.1 1000))) fun y2=>
  bif Int.tmod x.1 1000==0 then
   bif x.2 then
    need (zO y2.length ([46,48]:Str).length)<|
    some (y2++([46,48]:Str))
   else
    some y2
  else
   za (Qa (w64 (Int.tmod x.1 1000+1000))) fun y3=>
   need (decide (1<=(y3.length:Int)))<|
   zS (fun(s4:Str)=>
     za (geti s4 (w64 ((s4.length:Int) - 1))) fun y5=>
     bif (y5.toNat:Int)==48 then
      need (decide (0<=w64 ((s4.length:Int) - 1))&&decide (w64 ((s4.length:Int) - 1)<=(s4.length:Int)))<|
      some (LO.again (List.take (w64 ((s4.length:Int) - 1)).toNat s4))
     else
      some (LO.out s4):Str->Option (LO (Str) (Str) _)) (List.drop 1 y3) fun o6=>
   need (zO y2.length ([46]:Str).length)<|
   need (zO (y2++([46]:Str)).length o6.length)<|
   some (y2++([46]:Str)++o6)
def qF:Int×Bool->Option Str:=recE (dG)
def Vz(x:Str):Option Str:=
 za (geti x 0) fun y1=>
 za (qd (y1.toNat:Int)) fun y2=>
 za (zq (y2==101) (zB (x,1)) (default:Int)) fun y3=>
 za (zq (y2==101) (zC y3) (default:Bool)) fun y4=>
 za (zq (!y4&&y2==101) (zB (x,1)) (default:Int)) fun y5=>
 za (zq (y5==45&&(!y4&&y2==101)) (zB (x,2)) (default:Int)) fun y6=>
 za (zq (y5==45&&(!y4&&y2==101)) (zC y6) (default:Bool)) fun y7=>
 bif bif y2==101 then bif y4 then true else bif y5==45 then y7 else false else false then
  za (geti x 0) fun y8=>
  za (Qu (y8.toNat:Int)) fun y9=>
  zS (fun(s10:Str×Int)=>
    bif decide (s10.2<(x.length:Int))then
     zP (X:=Str×Int) (
       za (geti x s10.2) fun y11=>
       za (ZP (y11.toNat:Int)) fun y12=>
       bif y12 then
        need (decide (0<=s10.2)&&(decide (s10.2<=w64 (s10.2+1))&&decide (w64 (s10.2+1)<=(x.length:Int))))<|
        need (zO s10.1.length (List.drop s10.2.toNat (List.take (w64 (s10.2+1)).toNat x)).length)<|
        some (LX.out (s10.1++List.drop s10.2.toNat (List.take (w64 (s10.2+1)).toNat x),s10.2))
       else
        za (geti x s10.2) fun y13=>
        za (Qu (y13.toNat:Int)) fun y14=>
        need (zO s10.1.length y14.length)<|
        some (LX.out (s10.1++y14,s10.2))) fun j15=>
     some (LO.again (j15.1,w64 (j15.2+1)))
    else
     some (LO.out s10.1):Str×Int->Option (LO (Str×Int) (Str) _)) (y9,1) fun o16=>
  some o16
 else
  za (ZQ (x,false)) fun y17=>
  some y17
def Kr(x:ze):Option Str:=
 bif x.kind==1 then
  za (ZQ (x.text,false)) fun y1=>
  some y1
 else
  bif x.kind==2 then
   za (ZQ (x.text,false)) fun y2=>
   need (zO y2.length ([40]:Str).length)<|
   some (y2++([40]:Str))
  else
   bif x.kind==3 then
    za (ZQ (x.text,false)) fun y3=>
    need (zO ([64]:Str).length y3.length)<|
    some (([64]:Str)++y3)
   else
    bif x.kind==4 then
     za (ZQ (x.text, !x.flag)) fun y4=>
     need (zO ([35]:Str).length y4.length)<|
     some (([35]:Str)++y4)
    else
     bif x.kind==5 then
      za (vv (x.text,false)) fun y5=>
      need (zO ([34]:Str).length y5.length)<|
      need (zO (([34]:Str)++y5).length ([34]:Str).length)<|
      some (([34]:Str)++y5++([34]:Str))
     else
      bif x.kind==7 then
       za (vv (x.text,true)) fun y6=>
       need (zO ([117,114,108,40]:Str).length y6.length)<|
       need (zO (([117,114,108,40]:Str)++y6).length ([41]:Str).length)<|
       some (([117,114,108,40]:Str)++y6++([41]:Str))
      else
       bif x.kind==9 then
        some x.text
       else
        bif x.kind==10 then
         za (qF (x.num, !x.flag)) fun y7=>
         some y7
        else
         bif x.kind==11 then
          za (qF (x.num,false)) fun y8=>
          need (zO y8.length ([37]:Str).length)<|
          some (y8++([37]:Str))
         else
          bif x.kind==12 then
           za (qF (x.num, !x.flag)) fun y9=>
           za (Vz x.unit) fun y10=>
           need (zO y9.length y10.length)<|
           some (y9++y10)
          else
           za (geti [[32],[60,33,45,45],[45,45,62],[58],[59],[44],[91],[93],[40],[41],[123],[125]] (wu8 (x.kind - 13))) fun y11=>
           some y11
def JA(x:List ze):Option (Int×Str):=
 za (geti x 0) fun y1=>
 bif bif y1.kind==9 then y1.text==[92]else false then
  some (2,[92,10])
 else
  za (zq (y1.kind==2) (qJ (y1.text,[117,114,108])) (default:Bool)) fun y2=>
  bif bif y1.kind==2 then y2 else false then
   za (Kr y1) fun y3=>
   zS (fun(s4:Int×Str)=>
     za (geti x (w64 (s4.1 - 1))) fun y5=>
     bif y5.kind != 5 then
      za (geti x s4.1) fun y6=>
      za (Kr y6) fun y7=>
      need (zO s4.2.length y7.length)<|
      some (LO.again (w64 (s4.1+1),s4.2++y7))
     else
      some (LO.out (s4.1,s4.2)):Int×Str->Option (LO (Int×Str) (Int×Str) _)) (1,y3) fun o8=>
   some (o8.1,o8.2)
  else
   za (Kr y1) fun y9=>
   some (1,y9)
def Er(x:Str×Int):Option Int:=
 zS (fun(s1:Int)=>
   za (aj (x.1,s1,[47,42])) fun y2=>
   bif y2 then
    zS (fun(s3:Int)=>
      za (zq (decide (s3<(x.1.length:Int))) (aj (x.1,s3,[42,47])) (default:Bool)) fun y4=>
      bif bif decide (s3<(x.1.length:Int))then !y4 else false then
       some (LO.again (w64 (s3+1)))
      else
       some (LO.out s3):Int->Option (LO (Int) (Int) _)) (w64 (s1+2)) fun o5=>
    some (LO.again (if w64 (o5+2)<(x.1.length:Int)then w64 (o5+2)else(x.1.length:Int)))
   else
    some (LO.out s1):Int->Option (LO (Int) (Int) _)) x.2 fun o6=>
 some o6
def Bz(x:Str):Option (List ze×List ZC):=
 za (Er (x,0)) fun y1=>
 zS (fun(s2:Int×List ze×List ZC)=>
   bif decide (s2.1<(x.length:Int))then
    za (Rl (x,s2.1)) fun y3=>
    need (Zj s2.2.1.length 1 56)<|
    need (Zj s2.2.2.length 1 16)<|
    za (Er (x,y3.2)) fun y4=>
    some (LO.again (y4,s2.2.1++[y3.1],s2.2.2++[(⟨s2.1,y3.2⟩:ZC)]))
   else
    some (LO.out (s2.2.1,s2.2.2)):Int×List ze×List ZC->Option (LO (Int×List ze×List ZC) (List ze×List ZC) _)) (y1,[],[]) fun o5=>
 some (o5.1,o5.2)
def Yz(x:List ze×List ze):Option Bool:=
 bif (x.1.length:Int) != (x.2.length:Int)then
  some false
 else
  zS (fun(s1:Int)=>
    bif decide (s1<(x.1.length:Int))then
     za (geti x.1 s1) fun y2=>
     za (geti x.2 s1) fun y3=>
     bif !(y2.kind==y3.kind&&(y2.text==y3.text&&(y2.num==y3.num&&(y2.unit==y3.unit&&(y2.flag==y3.flag&&true)))))then
      some (LO.ret false)
     else
      some (LO.again (w64 (s1+1)))
    else
     some (LO.out ()):Int->Option (LO (Int) (Unit) _)) 0 fun o4=>
  some true
def Iw(x:List ze):Option Str:=
 zS (fun(s1:Str×Int)=>
   bif decide (s1.2<(x.length:Int))then
    need (decide (0<=s1.2)&&decide (s1.2<=(x.length:Int)))<|
    za (JA (List.drop s1.2.toNat x)) fun y2=>
    zP (X:=Str×Int) (
      need (zO s1.1.length y2.2.length)<|
      za (Bz (s1.1++y2.2)) fun y3=>
      need (decide (0<=w64 (s1.2+y2.1))&&decide (w64 (s1.2+y2.1)<=(x.length:Int)))<|
      za (Yz (y3.1,List.take (w64 (s1.2+y2.1)).toNat x)) fun y4=>
      bif !y4 then
       need (zO s1.1.length ([47,42,42,47]:Str).length)<|
       some (LX.out (s1.1++([47,42,42,47]:Str),s1.2))
      else
       some (LX.out (s1.1,s1.2))) fun j5=>
    need (zO j5.1.length y2.2.length)<|
    some (LO.again (j5.1++y2.2,w64 (j5.2+y2.1)))
   else
    some (LO.out s1.1):Str×Int->Option (LO (Str×Int) (Str) _)) ([],0) fun o6=>
 some o6
def uA(x:z8):Option Str:=
 za (ZQ (x.name,false)) fun y1=>
 need (zO y1.length ([58,32]:Str).length)<|
 za (Z4 x.value) fun y2=>
 za (Iw y2) fun y3=>
 need (zO (y1++([58,32]:Str)).length y3.length)<|
 zP (X:=Str) (
   bif x.important then
    need (zO (y1++([58,32]:Str)++y3).length ([32,33,105,109,112,111,114,116,97,110,116]:Str).length)<|
    some (LX.out (y1++([58,32]:Str)++y3++([32,33,105,109,112,111,114,116,97,110,116]:Str)))
   else
    some (LX.out (y1++([58,32]:Str)++y3))) fun j4=>
 some j4
def Xr(x:zg):Option Bool:=
 za (jo (⟨x.kind,x.name,x.num,x.decl,x.list⟩:zg)) fun y1=>
 some y1.1
def Vr(zy:zg->Option Str)(x:zg):Option Str:=
 bif bif x.kind==7 then true else x.kind==8 then
  za (zy (⟨x.kind,x.name,x.num,x.decl,x.list⟩:zg)) fun y1=>
  some y1
 else
  za (zy (⟨x.kind,x.name,x.num,x.decl,x.list⟩:zg)) fun y2=>
  need (zO ([40]:Str).length y2.length)<|
  need (zO (([40]:Str)++y2).length ([41]:Str).length)<|
  some (([40]:Str)++y2++([41]:Str))
def Yr(zy:zg->Option Str)(x:List zg×Str×Bool):Option Str:=
 zS (fun(s1:Str×Int)=>
   bif decide (s1.2<(x.1.length:Int))then
    zP (X:=Str×Int) (
      zP (X:=Str) (
        bif decide (s1.2>0)then
         need (zO s1.1.length x.2.1.length)<|
         some (LX.out (s1.1++x.2.1))
        else
         some (LX.out s1.1)) fun j2=>
      bif x.2.2 then
       za (geti x.1 s1.2) fun y3=>
       za (Vr zy (⟨y3.kind,y3.name,y3.num,y3.decl,y3.list⟩:zg)) fun y4=>
       need (zO j2.length y4.length)<|
       some (LX.out (j2++y4,s1.2))
      else
       za (geti x.1 s1.2) fun y5=>
       za (zy (⟨y5.kind,y5.name,y5.num,y5.decl,y5.list⟩:zg)) fun y6=>
       need (zO j2.length y6.length)<|
       some (LX.out (j2++y6,s1.2))) fun j7=>
    some (LO.again (j7.1,w64 (j7.2+1)))
   else
    some (LO.out s1.1):Str×Int->Option (LO (Str×Int) (Str) _)) ([],0) fun o8=>
 some o8
def WG(zy:zg->Option Str)(x:zg):Option Str:=
 bif x.kind==4 then
  za (ZQ (x.name,false)) fun y1=>
  some y1
 else
  bif x.kind==5 then
   za (nk x.num) fun y2=>
   need (zO ([40,109,105,110,45,119,105,100,116,104,58,32]:Str).length y2.length)<|
   need (zO (([40,109,105,110,45,119,105,100,116,104,58,32]:Str)++y2).length ([112,120,41]:Str).length)<|
   some (([40,109,105,110,45,119,105,100,116,104,58,32]:Str)++y2++([112,120,41]:Str))
  else
   bif x.kind==6 then
    za (nk x.num) fun y3=>
    need (zO ([40,109,97,120,45,119,105,100,116,104,58,32]:Str).length y3.length)<|
    need (zO (([40,109,97,120,45,119,105,100,116,104,58,32]:Str)++y3).length ([112,120,41]:Str).length)<|
    some (([40,109,97,120,45,119,105,100,116,104,58,32]:Str)++y3++([112,120,41]:Str))
   else
    bif x.kind==7 then
     za (uA x.decl) fun y4=>
     need (zO ([40]:Str).length y4.length)<|
     need (zO (([40]:Str)++y4).length ([41]:Str).length)<|
     some (([40]:Str)++y4++([41]:Str))
    else
     bif x.kind==8 then
      some [40,117,110,107,110,111,119,110,41]
     else
      bif x.kind==3 then
       za (geti x.list 0) fun y5=>
       za (zq (y5.kind==1) (geti x.list 0) (default:zg)) fun y6=>
       za (zq (y5.kind==1) (Xr (⟨y6.kind,y6.name,y6.num,y6.decl,y6.list⟩:zg)) (default:Bool)) fun y7=>
       bif bif y5.kind==1 then y7 else false then
        za (geti x.list 0) fun y8=>
        za (zy (⟨y8.kind,y8.name,y8.num,y8.decl,y8.list⟩:zg)) fun y9=>
        need (zO ([110,111,116,32]:Str).length y9.length)<|
        some (([110,111,116,32]:Str)++y9)
       else
        za (geti x.list 0) fun y10=>
        za (Vr zy (⟨y10.kind,y10.name,y10.num,y10.decl,y10.list⟩:zg)) fun y11=>
        need (zO ([110,111,116,32]:Str).length y11.length)<|
        some (([110,111,116,32]:Str)++y11)
      else
       za (zq (!((x.list.length:Int)==0)) (Xr (⟨x.kind,x.name,x.num,x.decl,x.list⟩:zg)) (default:Bool)) fun y12=>
       za (zq (x.kind==2&& !(bif (x.list.length:Int)==0 then true else y12)) (geti x.list 0) (default:zg)) fun y13=>
       za (zq (x.kind==2&& !(bif (x.list.length:Int)==0 then true else y12)) (QK (⟨y13.kind,y13.name,y13.num,y13.decl,y13.list⟩:zg)) (default:Bool)) fun y14=>
       bif bif x.kind==2 then bif bif (x.list.length:Int)==0 then true else y12 then true else bif x.kind==2 then y14 else false else false then
        za (Yr zy (x.list,[44,32],false)) fun y15=>
        some y15
       else
        bif x.kind==2 then
         za (Yr zy (x.list,[32,111,114,32],true)) fun y16=>
         some y16
        else
         za (Yr zy (x.list,[32,97,110,100,32], !(bif bif (x.list.length:Int)==0 then true else y12 then true else bif x.kind==2 then y14 else false))) fun y17=>
         some y17
def zy:zg->Option Str:=recE (WG)
def Uz(x:zg):Option (Str×Int):=
 za (Q4 (⟨x.kind,x.name,x.num,x.decl,x.list⟩:zg)) fun y1=>
 za (zq (!y1) (ZF (⟨x.kind,x.name,x.num,x.decl,x.list⟩:zg)) (default:Bool)) fun y2=>
 bif bif !y1 then !y2 else false then
  some ([],8)
 else
  za (zy (⟨x.kind,x.name,x.num,x.decl,x.list⟩:zg)) fun y3=>
  bif decide ((y3.length:Int)<=4000)then
   some (y3,0)
  else
   some ([],28)
def XB(x:zg):Option Int:=
 za (Q4 (⟨x.kind,x.name,x.num,x.decl,x.list⟩:zg)) fun y1=>
 bif !y1 then
  some 8
 else
  some 0
def QJ(x:zg):Option Int:=
 za (ZF (⟨x.kind,x.name,x.num,x.decl,x.list⟩:zg)) fun y1=>
 bif !y1 then
  some 8
 else
  some 0
def IG(ol:List zh×List zh->Option Bool)(x:List zh×List zh):Option Bool:=
 bif (x.1.length:Int) != (x.2.length:Int)then
  some false
 else
  zS (fun(s1:Int)=>
    bif decide (s1<(x.1.length:Int))then
     za (geti x.1 s1) fun y2=>
     za (geti x.2 s1) fun y3=>
     za (zq (!(!(y2.token.kind==y3.token.kind&&(y2.token.text==y3.token.text&&(y2.token.num==y3.token.num&&(y2.token.unit==y3.token.unit&&(y2.token.flag==y3.token.flag&&true))))))) (geti x.1 s1) (default:zh)) fun y4=>
     za (zq (!(!(y2.token.kind==y3.token.kind&&(y2.token.text==y3.token.text&&(y2.token.num==y3.token.num&&(y2.token.unit==y3.token.unit&&(y2.token.flag==y3.token.flag&&true))))))) (geti x.2 s1) (default:zh)) fun y5=>
     za (zq (!(!(y2.token.kind==y3.token.kind&&(y2.token.text==y3.token.text&&(y2.token.num==y3.token.num&&(y2.token.unit==y3.token.unit&&(y2.token.flag==y3.token.flag&&true))))))) (ol (y4.list,y5.list)) (default:Bool)) fun y6=>
     bif bif !(y2.token.kind==y3.token.kind&&(y2.token.text==y3.token.text&&(y2.token.num==y3.token.num&&(y2.token.unit==y3.token.unit&&(y2.token.flag==y3.token.flag&&true)))))then true else !y6 then
      some (LO.ret false)
     else
      some (LO.again (w64 (s1+1)))
    else
     some (LO.out ()):Int->Option (LO (Int) (Unit) _)) 0 fun o7=>
  some true
def ol:List zh×List zh->Option Bool:=recE (IG)
def BA(x:z8×z8):Option Bool:=
 za (zq (bif x.1.name==x.2.name then x.1.important==x.2.important else false) (ol (x.1.value,x.2.value)) (default:Bool)) fun y1=>
 some (bif bif x.1.name==x.2.name then x.1.important==x.2.important else false then y1 else false)
def Jr(x:List z8×List z8):Option Bool:=
 bif (x.1.length:Int) != (x.2.length:Int)then
  some false
 else
  zS (fun(s1:Int)=>
    bif decide (s1<(x.1.length:Int))then
     za (geti x.1 s1) fun y2=>
     za (geti x.2 s1) fun y3=>
     za (BA (y2,y3)) fun y4=>
     bif !y4 then
      some (LO.ret false)
     else
      some (LO.again (w64 (s1+1)))
    else
     some (LO.out ()):Int->Option (LO (Int) (Unit) _)) 0 fun o5=>
  some true
def vG(x:zg×VEnv×List Bool):Option Bool:=
 za (yz (⟨x.1.kind,x.1.name,x.1.num,x.1.decl,x.1.list⟩:zg)) fun y1=>
 bif bif y1 then true else decide ((x.2.2.length:Int)>110)then
  some true
 else
  za (Sz (⟨x.1.kind,x.1.name,x.1.num,x.1.decl,x.1.list⟩:zg)) fun y2=>
  za (AA (⟨x.1.kind,x.1.name,x.1.num,x.1.decl,x.1.list⟩:zg)) fun y3=>
  za (oz ((⟨x.1.kind,x.1.name,x.1.num,x.1.decl,x.1.list⟩:zg),x.2.1,x.2.2)) fun y4=>
  za (xz ((⟨x.1.kind,x.1.name,x.1.num,x.1.decl,x.1.list⟩:zg),x.2.1,x.2.2)) fun y5=>
  za (Pz (⟨x.1.kind,x.1.name,x.1.num,x.1.decl,x.1.list⟩:zg)) fun y6=>
  za (Uz (⟨x.1.kind,x.1.name,x.1.num,x.1.decl,x.1.list⟩:zg)) fun y7=>
  za (qy (⟨x.1.kind,x.1.name,x.1.num,x.1.decl,x.1.list⟩:zg)) fun y8=>
  za (XB (⟨x.1.kind,x.1.name,x.1.num,x.1.decl,x.1.list⟩:zg)) fun y9=>
  za (zq (y8==y9) (ZH (⟨x.1.kind,x.1.name,x.1.num,x.1.decl,x.1.list⟩:zg)) (default:Int)) fun y10=>
  za (zq (y8==y9) (QJ (⟨x.1.kind,x.1.name,x.1.num,x.1.decl,x.1.list⟩:zg)) (default:Int)) fun y11=>
  za (zq (bif y8==y9 then y10==y11 else false) (Jr (y2.1,y3.1)) (default:Bool)) fun y12=>
  some (bif bif bif bif bif bif bif y8==y9 then y10==y11 else false then y12 else false then y2.2==y3.2 else false then y4.1==y5.1 else false then y4.2==y5.2 else false then y6.1==y7.1 else false then y6.2==y7.2 else false)
end Go.Lv.VT
end
