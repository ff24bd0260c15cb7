/- Texts. -/
import Derived.Test.YtnfhfeipljhciaaGreatDoorTy
import Derived.Test.YtnfhfeipljhciaaGreatDoorLf
noncomputable section
set_option linter.unusedSimpArgs false
set_option linter.unusedVariables false
namespace Go.Lv.VT
set_option maxRecDepth 100000
def Ny(x:List zb):Option Bool:=
 bif bif bif decide ((x.length:Int)>100)then decide ((x.length:Int)<=1500)else false then true else decide ((x.length:Int)>1510)then
  some true
 else
  Zp (fun(s1:Int×Int)=>
    bif decide (s1.2<(x.length:Int))then
     ze (geti x s1.2) fun y2=>
     ze (geti x s1.2) fun y3=>
     bif decide (w64 (s1.1+w64 ((y2.text.length:Int)+(y3.unit.length:Int)))>1000)then
      some (LO.ret true)
     else
      some (LO.again (w64 (s1.1+w64 ((y2.text.length:Int)+(y3.unit.length:Int))),w64 (s1.2+1)))
    else
     some (LO.out ()):Int×Int->Option (LO (Int×Int) (Unit) _)) (0,0) fun o4=>
  some false
def Qc(x:Str):Option Bool:=
 Zp (fun(s1:Int)=>
   bif decide (s1<(x.length:Int))then
    ze (geti x s1) fun y2=>
    bif (y2.toNat:Int)==0 then
     some (LO.ret false)
    else
     some (LO.again (w64 (s1+1)))
   else
    some (LO.out ()):Int->Option (LO (Int) (Unit) _)) 0 fun o3=>
 some true
def zB(x:Int):Option Bool:=
 some (bif decide (x>=48)then decide (x<=57)else false)
def Dy(x:Str):Option Bool:=
 bif x==[]then
  some false
 else
  ze (geti x 0) fun y1=>
  ze (zB (y1.toNat:Int)) fun y2=>
  ze (zq (!(bif y2 then true else x==[45])) (geti x 0) 0) fun y3=>
  ze (zq ((y3.toNat:Int)==45&& !(bif y2 then true else x==[45])) (geti x 1) 0) fun y4=>
  ze (zq ((y3.toNat:Int)==45&& !(bif y2 then true else x==[45])) (zB (y4.toNat:Int)) (default:Bool)) fun y5=>
  some (bif bif y2 then true else x==[45]then true else bif (y3.toNat:Int)==45 then y5 else false)
def Qa(x:Int):Option Bool:=
 some (bif bif x==10 then true else x==9 then true else x==32)
def zD(x:Str×Int):Option Int:=
 bif decide (x.2<(x.1.length:Int))then
  ze (geti x.1 x.2) fun y1=>
  some (y1.toNat:Int)
 else
  some 0
def qC(x:Str×Int):Option Int:=
 Zp (fun(s1:Int)=>
   ze (zD (x.1,s1)) fun y2=>
   ze (Qa y2) fun y3=>
   bif y3 then
    some (LO.again (w64 (s1+1)))
   else
    some (LO.out s1):Int->Option (LO (Int) (Int) _)) x.2 fun o4=>
 some o4
def Aq(x:Unit):Option Str:=
 some [(239:UInt8),(191:UInt8),(189:UInt8)]
def ZP(x:Int):Option Int:=
 bif bif decide (x>=65)then decide (x<=90)else false then
  some (wu8 (wu8 (x - 65)+97))
 else
  some x
def Nt(x:Int):Option Int:=
 ze (zB x) fun y1=>
 bif y1 then
  some (w64 (wu8 (x - 48)))
 else
  ze (ZP x) fun y2=>
  bif bif decide (y2>=97)then decide (y2<=102)else false then
   some (w64 (w64 (wu8 (y2 - 97))+10))
  else
   some (-1)
def Gy(x:Int):Option Str:=
 bif bif bif x==0 then true else bif decide (x>=55296)then decide (x<=57343)else false then true else decide (x>1114111)then
  ze (Aq ()) fun y1=>
  some y1
 else
  bif decide (x<128)then
   ze (ZK (wu8 x)) fun y2=>
   some [y2]
  else
   bif decide (x<2048)then
    ze (ZK (wu8 (w64 (192+w64 (Int.tdiv x 64))))) fun y3=>
    ze (ZK (wu8 (w64 (128+Int.tmod x 64)))) fun y4=>
    some [y3,y4]
   else
    bif decide (x<65536)then
     ze (ZK (wu8 (w64 (224+w64 (Int.tdiv x 4096))))) fun y5=>
     ze (ZK (wu8 (w64 (128+Int.tmod (w64 (Int.tdiv x 64)) 64)))) fun y6=>
     ze (ZK (wu8 (w64 (128+Int.tmod x 64)))) fun y7=>
     some [y5,y6,y7]
    else
     ze (ZK (wu8 (w64 (240+w64 (Int.tdiv x 262144))))) fun y8=>
     ze (ZK (wu8 (w64 (128+Int.tmod (w64 (Int.tdiv x 4096)) 64)))) fun y9=>
     ze (ZK (wu8 (w64 (128+Int.tmod (w64 (Int.tdiv x 64)) 64)))) fun y10=>
     ze (ZK (wu8 (w64 (128+Int.tmod x 64)))) fun y11=>
     some [y8,y9,y10,y11]
def Zt(x:Str×Int):Option (Str×Int):=
 bif decide (w64 (x.2+1)>=(x.1.length:Int))then
  ze (Aq ()) fun y1=>
  some (y1,w64 (x.2+1))
 else
  ze (geti x.1 (w64 (x.2+1))) fun y2=>
  ze (Nt (y2.toNat:Int)) fun y3=>
  bif decide (y3<0)then
   need (decide (0<=w64 (x.2+1))&&(decide (w64 (x.2+1)<=w64 (w64 (x.2+1)+1))&&decide (w64 (w64 (x.2+1)+1)<=(x.1.length:Int))))<|
   some (List.drop (w64 (x.2+1)).toNat (List.take (w64 (w64 (x.2+1)+1)).toNat x.1),w64 (w64 (x.2+1)+1))
  else
   Zp (fun(s4:Int×Int)=>
     ze (zq (bif decide (s4.2<(x.1.length:Int))then decide (s4.2<w64 (w64 (x.2+1)+6))else false) (geti x.1 s4.2) 0) fun y5=>
     ze (zq (bif decide (s4.2<(x.1.length:Int))then decide (s4.2<w64 (w64 (x.2+1)+6))else false) (Nt (y5.toNat:Int)) (default:Int)) fun y6=>
     bif bif bif decide (s4.2<(x.1.length:Int))then decide (s4.2<w64 (w64 (x.2+1)+6))else false then decide (y6>=0)else false then
      ze (geti x.1 s4.2) fun y7=>
      ze (Nt (y7.toNat:Int)) fun y8=>
      some (LO.again (w64 (w64 (16*s4.1)+y8),w64 (s4.2+1)))
     else
      some (LO.out (s4.1,s4.2)):Int×Int->Option (LO (Int×Int) (Int×Int) _)) (0,w64 (x.2+1)) fun o9=>
   zV (X:=Int) (
     ze (zD (x.1,o9.2)) fun y10=>
     ze (Qa y10) fun y11=>
     bif y11 then
      some (LX.out (w64 (o9.2+1)))
     else
      some (LX.out o9.2)) fun j12=>
   ze (Gy o9.1) fun y13=>
   some (y13,j12)
def Uy(x:Str×Int):Option (zb×Int):=
 ze (geti x.1 x.2) fun y1=>
 Zp (fun(s2:Int×zb×zb)=>
   bif decide (s2.1<(x.1.length:Int))then
    ze (geti x.1 s2.1) fun y3=>
    bif (y3.toNat:Int)==(y1.toNat:Int)then
     some (LO.ret (s2.2.2,w64 (s2.1+1)))
    else
     ze (geti x.1 s2.1) fun y4=>
     bif (y4.toNat:Int)==10 then
      some (LO.ret ((⟨6,[],0,[],false⟩:zb),s2.1))
     else
      ze (geti x.1 s2.1) fun y5=>
      bif bif (y5.toNat:Int)==92 then w64 (s2.1+1)==(x.1.length:Int)else false then
       some (LO.again (w64 (s2.1+1),s2.2.1,s2.2.2))
      else
       ze (geti x.1 s2.1) fun y6=>
       ze (zq ((y6.toNat:Int)==92) (geti x.1 (w64 (s2.1+1))) 0) fun y7=>
       bif bif (y6.toNat:Int)==92 then(y7.toNat:Int)==10 else false then
        some (LO.again (w64 (s2.1+2),s2.2.1,s2.2.2))
       else
        ze (geti x.1 s2.1) fun y8=>
        bif (y8.toNat:Int)==92 then
         ze (Zt (x.1,s2.1)) fun y9=>
         need (Zw s2.2.2.text.length y9.1.length)<|
         some (LO.again (y9.2,s2.2.1,(⟨s2.2.2.kind,s2.2.2.text++y9.1,s2.2.2.num,s2.2.2.unit,s2.2.2.flag⟩:zb)))
        else
         need (decide (0<=s2.1)&&(decide (s2.1<=w64 (s2.1+1))&&decide (w64 (s2.1+1)<=(x.1.length:Int))))<|
         need (Zw s2.2.2.text.length (List.drop s2.1.toNat (List.take (w64 (s2.1+1)).toNat x.1)).length)<|
         some (LO.again (w64 (s2.1+1),s2.2.1,(⟨s2.2.2.kind,s2.2.2.text++List.drop s2.1.toNat (List.take (w64 (s2.1+1)).toNat x.1),s2.2.2.num,s2.2.2.unit,s2.2.2.flag⟩:zb)))
   else
    some (LO.out (s2.1,s2.2.1,s2.2.2)):Int×zb×zb->Option (LO (Int×zb×zb) (Int×zb×zb) _)) (w64 (x.2+1),(⟨0,[],0,[],false⟩:zb),(⟨5,[],0,[],false⟩:zb)) fun o10=>
 some (o10.2.2,o10.1)
def QX(x:Int):Option Bool:=
 ze (ZP x) fun y1=>
 some (bif bif bif decide (y1>=97)then decide (y1<=122)else false then true else x==95 then true else decide (x>=128))
def ZH(x:Int):Option Bool:=
 ze (QX x) fun y1=>
 ze (zq (!y1) (zB x) (default:Bool)) fun y2=>
 some (bif bif y1 then true else y2 then true else x==45)
def Zd(x:Str×Int):Option Bool:=
 ze (zD (x.1,x.2)) fun y1=>
 ze (zq (y1==92) (zD (x.1,w64 (x.2+1))) (default:Int)) fun y2=>
 some (bif y1==92 then y2 != 10 else false)
def qZ(x:Str×Int):Option (Str×Int):=
 Zp (fun(s1:Int×Str)=>
   ze (zq (decide (s1.1<(x.1.length:Int))) (geti x.1 s1.1) 0) fun y2=>
   ze (zq (decide (s1.1<(x.1.length:Int))) (ZH (y2.toNat:Int)) (default:Bool)) fun y3=>
   bif bif decide (s1.1<(x.1.length:Int))then y3 else false then
    need (decide (0<=s1.1)&&(decide (s1.1<=w64 (s1.1+1))&&decide (w64 (s1.1+1)<=(x.1.length:Int))))<|
    need (Zw s1.2.length (List.drop s1.1.toNat (List.take (w64 (s1.1+1)).toNat x.1)).length)<|
    some (LO.again (w64 (s1.1+1),s1.2++List.drop s1.1.toNat (List.take (w64 (s1.1+1)).toNat x.1)))
   else
    ze (zq (decide (s1.1<(x.1.length:Int))) (Zd (x.1,s1.1)) (default:Bool)) fun y4=>
    bif bif decide (s1.1<(x.1.length:Int))then y4 else false then
     ze (Zt (x.1,s1.1)) fun y5=>
     need (Zw s1.2.length y5.1.length)<|
     some (LO.again (y5.2,s1.2++y5.1))
    else
     some (LO.ret (s1.2,s1.1)):Int×Str->Option (LO (Int×Str) (Unit) _)) (x.2,[]) fun o6=>
 none
def qW(x:Str×Int):Option Bool:=
 ze (zD (x.1,x.2)) fun y1=>
 bif y1==45 then
  ze (zD (x.1,w64 (x.2+1))) fun y2=>
  ze (QX y2) fun y3=>
  ze (zq (!y3) (zD (x.1,w64 (x.2+1))) (default:Int)) fun y4=>
  ze (zq (!(bif y3 then true else y4==45)) (Zd (x.1,w64 (x.2+1))) (default:Bool)) fun y5=>
  some (bif bif y3 then true else y4==45 then true else y5)
 else
  ze (zD (x.1,x.2)) fun y6=>
  ze (QX y6) fun y7=>
  ze (zq (!y7) (Zd (x.1,x.2)) (default:Bool)) fun y8=>
  some (bif y7 then true else y8)
def Xy(x:Str×Int):Option Bool:=
 zV (X:=Int) (
   ze (zD (x.1,x.2)) fun y1=>
   bif bif y1==43 then true else y1==45 then
    some (LX.out (w64 (x.2+1)))
   else
    some (LX.out x.2)) fun j2=>
 zV (X:=Int) (
   ze (zD (x.1,j2)) fun y3=>
   bif y3==46 then
    some (LX.out (w64 (j2+1)))
   else
    some (LX.out j2)) fun j4=>
 ze (zD (x.1,j4)) fun y5=>
 ze (zB y5) fun y6=>
 some y6
def Qr(x:Str×Int):Option Int:=
 Zp (fun(s1:Int)=>
   ze (zD (x.1,s1)) fun y2=>
   ze (zB y2) fun y3=>
   bif y3 then
    some (LO.again (w64 (s1+1)))
   else
    some (LO.out s1):Int->Option (LO (Int) (Int) _)) x.2 fun o4=>
 some o4
def QW(x:Str×Int):Option (Int×Bool):=
 zV (X:=Int) (
   ze (zD (x.1,x.2)) fun y1=>
   bif bif y1==43 then true else y1==45 then
    some (LX.out (w64 (x.2+1)))
   else
    some (LX.out x.2)) fun j2=>
 ze (Qr (x.1,j2)) fun y3=>
 zV (X:=Int×Bool) (
   ze (zD (x.1,y3)) fun y4=>
   ze (zq (y4==46) (zD (x.1,w64 (y3+1))) (default:Int)) fun y5=>
   ze (zq (y4==46) (zB y5) (default:Bool)) fun y6=>
   bif bif y4==46 then y6 else false then
    ze (Qr (x.1,w64 (y3+1))) fun y7=>
    some (LX.out (y7,false))
   else
    some (LX.out (y3,true))) fun j8=>
 zV (X:=Int×Bool) (
   ze (zD (x.1,j8.1)) fun y9=>
   bif bif y9==101 then true else y9==69 then
    zV (X:=Int×Bool×Int) (
      ze (zD (x.1,w64 (j8.1+1))) fun y10=>
      bif bif y10==43 then true else y10==45 then
       some (LX.out (j8.1,j8.2,w64 (w64 (j8.1+1)+1)))
      else
       some (LX.out (j8.1,j8.2,w64 (j8.1+1)))) fun j11=>
    ze (zD (x.1,j11.2.2)) fun y12=>
    ze (zB y12) fun y13=>
    bif y13 then
     ze (Qr (x.1,j11.2.2)) fun y14=>
     some (LX.out (y14,false))
    else
     some (LX.out (j11.1,j11.2.1))
   else
    some (LX.out (j8.1,j8.2))) fun j15=>
 some (j15.1,j15.2)
def Qj(x:Str):Option Int:=
 ze (geti x 0) fun y1=>
 zV (X:=Str×Int×Int) (
   ze (geti x 0) fun y2=>
   bif bif (y2.toNat:Int)==43 then true else(y1.toNat:Int)==45 then
    some (LX.out ([],3,1))
   else
    some (LX.out ([],3,0))) fun j3=>
 Zp (fun(s4:Str×Int)=>
   ze (zD (x,s4.2)) fun y5=>
   ze (zB y5) fun y6=>
   bif y6 then
    need (decide (0<=s4.2)&&(decide (s4.2<=w64 (s4.2+1))&&decide (w64 (s4.2+1)<=(x.length:Int))))<|
    need (Zw s4.1.length (List.drop s4.2.toNat (List.take (w64 (s4.2+1)).toNat x)).length)<|
    some (LO.again (s4.1++List.drop s4.2.toNat (List.take (w64 (s4.2+1)).toNat x),w64 (s4.2+1)))
   else
    some (LO.out (s4.1,s4.2)):Str×Int->Option (LO (Str×Int) (Str×Int) _)) (j3.1,j3.2.2) fun o7=>
 zV (X:=Str×Int×Int) (
   ze (zD (x,o7.2)) fun y8=>
   bif y8==46 then
    Zp (fun(s9:Str×Int×Int)=>
      ze (zD (x,s9.2.2)) fun y10=>
      ze (zB y10) fun y11=>
      bif y11 then
       need (decide (0<=s9.2.2)&&(decide (s9.2.2<=w64 (s9.2.2+1))&&decide (w64 (s9.2.2+1)<=(x.length:Int))))<|
       need (Zw s9.1.length (List.drop s9.2.2.toNat (List.take (w64 (s9.2.2+1)).toNat x)).length)<|
       some (LO.again (s9.1++List.drop s9.2.2.toNat (List.take (w64 (s9.2.2+1)).toNat x),w64 (s9.2.1 - 1),w64 (s9.2.2+1)))
      else
       some (LO.out (s9.1,s9.2.1,s9.2.2)):Str×Int×Int->Option (LO (Str×Int×Int) (Str×Int×Int) _)) (o7.1,j3.2.1,w64 (o7.2+1)) fun o12=>
    some (LX.out (o12.1,o12.2.1,o12.2.2))
   else
    some (LX.out (o7.1,j3.2.1,o7.2))) fun j13=>
 zV (X:=Int) (
   bif decide (j13.2.2<(x.length:Int))then
    ze (geti x (w64 (j13.2.2+1))) fun y14=>
    zV (X:=Int×Int) (
      ze (geti x (w64 (j13.2.2+1))) fun y15=>
      bif bif (y15.toNat:Int)==43 then true else(y14.toNat:Int)==45 then
       some (LX.out (j13.2.1,w64 (w64 (j13.2.2+1)+1)))
      else
       some (LX.out (j13.2.1,w64 (j13.2.2+1)))) fun j16=>
    Zp (fun(s17:Int×Int)=>
      bif decide (s17.1<(x.length:Int))then
       ze (geti x s17.1) fun y18=>
       some (LO.again (w64 (s17.1+1),if w64 (w64 (10*s17.2)+w64 (wu8 ((y18.toNat:Int) - 48)))<10000 then w64 (w64 (10*s17.2)+w64 (wu8 ((y18.toNat:Int) - 48)))else 10000))
      else
       some (LO.out s17.2):Int×Int->Option (LO (Int×Int) (Int) _)) (j16.2,0) fun o19=>
    zV (X:=Int×Int) (
      bif (y14.toNat:Int)==45 then
       some (LX.out (j16.1,w64 (0 - o19)))
      else
       some (LX.out (j16.1,o19))) fun j20=>
    some (LX.out (w64 (j20.1+j20.2)))
   else
    some (LX.out j13.2.1)) fun j21=>
 Zp (fun(s22:Int×Int)=>
   bif bif decide (s22.2<w64 ((j13.1.length:Int)+j21))then decide (s22.2<(j13.1.length:Int))else false then
    ze (geti j13.1 s22.2) fun y23=>
    some (LO.again (if w64 (w64 (10*s22.1)+w64 (wu8 ((y23.toNat:Int) - 48)))<1000000000000 then w64 (w64 (10*s22.1)+w64 (wu8 ((y23.toNat:Int) - 48)))else 1000000000000,w64 (s22.2+1)))
   else
    some (LO.out s22.1):Int×Int->Option (LO (Int×Int) (Int) _)) (0,0) fun o24=>
 Zp (fun(s25:Int×Int)=>
   bif bif bif decide (s25.1>0)then decide (s25.2>0)else false then decide (s25.2<1000000000000)else false then
    some (LO.again (w64 (s25.1 - 1),if w64 (10*s25.2)<1000000000000 then w64 (10*s25.2)else 1000000000000))
   else
    some (LO.out s25.2):Int×Int->Option (LO (Int×Int) (Int) _)) (j21,o24) fun o26=>
 bif (y1.toNat:Int)==45 then
  some (w64 (0 - o26))
 else
  some o26
def Ry(x:Str×Int):Option (zb×Int):=
 ze (QW (x.1,x.2)) fun y1=>
 need (decide (0<=x.2)&&(decide (x.2<=y1.1)&&decide (y1.1<=(x.1.length:Int))))<|
 ze (Qj (List.drop x.2.toNat (List.take y1.1.toNat x.1))) fun y2=>
 zV (X:=Int×zb×zb) (
   ze (qW (x.1,y1.1)) fun y3=>
   bif y3 then
    ze (qZ (x.1,y1.1)) fun y4=>
    some (LX.out (y4.2,(⟨0,[],0,[],false⟩:zb),(⟨12,[],y2,y4.1,y1.2⟩:zb)))
   else
    ze (zD (x.1,y1.1)) fun y5=>
    bif y5==37 then
     some (LX.out (w64 (y1.1+1),(⟨0,[],0,[],false⟩:zb),(⟨11,[],y2,[],false⟩:zb)))
    else
     some (LX.out (y1.1,(⟨0,[],0,[],false⟩:zb),(⟨10,[],y2,[],y1.2⟩:zb)))) fun j6=>
 some (j6.2.2,j6.1)
def Uk(x:Str×Int×Str):Option Bool:=
 need (decide (0<=x.2.1)&&(decide (x.2.1<=w64 (x.2.1+(x.2.2.length:Int)))&&decide (w64 (x.2.1+(x.2.2.length:Int))<=(x.1.length:Int)))|| !(decide (w64 ((x.1.length:Int) - x.2.1)>=(x.2.2.length:Int))))<|
 some (bif decide (w64 ((x.1.length:Int) - x.2.1)>=(x.2.2.length:Int))then List.drop x.2.1.toNat (List.take (w64 (x.2.1+(x.2.2.length:Int))).toNat x.1)==x.2.2 else false)
def Au(x:Str):Option Str:=
 need (decide (x.length<=maxLen))<|
 Zp (fun(s1:Int×List UInt8)=>
   bif decide (s1.1<(s1.2.length:Int))then
    need (decide (0<=s1.1)&&decide (s1.1<(s1.2.length:Int)))<|
    ze s1.2[s1.1.toNat]? fun y2=>
    ze (ZP (y2.toNat:Int)) fun y3=>
    need (decide (0<=s1.1)&&decide (s1.1<(s1.2.length:Int)))<|
    ze s1.2[s1.1.toNat]? fun y4=>
    ze (ZK y3) fun y5=>
    some (LO.again (w64 (s1.1+1),List.set s1.2 s1.1.toNat y5))
   else
    some (LO.out s1.2):Int×List UInt8->Option (LO (Int×List UInt8) (List UInt8) _)) (0,x) fun o6=>
 some o6
def qI(x:Str×Str):Option Bool:=
 ze (Au x.1) fun y1=>
 ze (Au x.2) fun y2=>
 some (y1==y2)
def wm(x:Str×Int):Option (zb×Int):=
 Zp (fun(s1:Int)=>
   ze (zq (decide (s1<(x.1.length:Int))) (geti x.1 s1) 0) fun y2=>
   bif bif decide (s1<(x.1.length:Int))then(y2.toNat:Int) != 41 else false then
    ze (Zd (x.1,s1)) fun y3=>
    bif y3 then
     ze (Zt (x.1,s1)) fun y4=>
     some (LO.again y4.2)
    else
     some (LO.again (w64 (s1+1)))
   else
    some (LO.out s1):Int->Option (LO (Int) (Int) _)) x.2 fun o5=>
 some ((⟨8,[],0,[],false⟩:zb),if w64 (o5+1)<(x.1.length:Int)then w64 (o5+1)else(x.1.length:Int))
def Qk(x:Int):Option Bool:=
 some (bif bif bif decide (x<=8)then true else x==11 then true else bif decide (x>=14)then decide (x<=31)else false then true else x==127)
def Vx(x:Str×Int):Option (zb×Int):=
 ze (qC (x.1,x.2)) fun y1=>
 Zp (fun(s2:Int×zb×zb)=>
   ze (zq (decide (s2.1<(x.1.length:Int))) (geti x.1 s2.1) 0) fun y3=>
   bif bif decide (s2.1<(x.1.length:Int))then(y3.toNat:Int) != 41 else false then
    ze (geti x.1 s2.1) fun y4=>
    ze (Qa (y4.toNat:Int)) fun y5=>
    bif y5 then
     ze (qC (x.1,s2.1)) fun y6=>
     ze (zq (decide (y6<(x.1.length:Int))) (geti x.1 y6) 0) fun y7=>
     bif bif decide (y6<(x.1.length:Int))then(y7.toNat:Int) != 41 else false then
      ze (wm (x.1,y6)) fun y8=>
      some (LO.ret (y8.1,y8.2))
     else
      some (LO.again (y6,s2.2.1,s2.2.2))
    else
     ze (zq (!(bif bif (y4.toNat:Int)==34 then true else(y4.toNat:Int)==39 then true else(y4.toNat:Int)==40)) (Qk (y4.toNat:Int)) (default:Bool)) fun y9=>
     ze (zq ((y4.toNat:Int)==92&& !(bif bif bif (y4.toNat:Int)==34 then true else(y4.toNat:Int)==39 then true else(y4.toNat:Int)==40 then true else y9)) (Zd (x.1,s2.1)) (default:Bool)) fun y10=>
     bif bif bif bif bif (y4.toNat:Int)==34 then true else(y4.toNat:Int)==39 then true else(y4.toNat:Int)==40 then true else y9 then true else bif (y4.toNat:Int)==92 then !y10 else false then
      ze (wm (x.1,s2.1)) fun y11=>
      some (LO.ret (y11.1,y11.2))
     else
      bif (y4.toNat:Int)==92 then
       ze (Zt (x.1,s2.1)) fun y12=>
       need (Zw s2.2.2.text.length y12.1.length)<|
       some (LO.again (y12.2,s2.2.1,(⟨s2.2.2.kind,s2.2.2.text++y12.1,s2.2.2.num,s2.2.2.unit,s2.2.2.flag⟩:zb)))
      else
       need (decide (0<=s2.1)&&(decide (s2.1<=w64 (s2.1+1))&&decide (w64 (s2.1+1)<=(x.1.length:Int))))<|
       need (Zw s2.2.2.text.length (List.drop s2.1.toNat (List.take (w64 (s2.1+1)).toNat x.1)).length)<|
       some (LO.again (w64 (s2.1+1),s2.2.1,(⟨s2.2.2.kind,s2.2.2.text++List.drop s2.1.toNat (List.take (w64 (s2.1+1)).toNat x.1),s2.2.2.num,s2.2.2.unit,s2.2.2.flag⟩:zb)))
   else
    some (LO.out (s2.1,s2.2.1,s2.2.2)):Int×zb×zb->Option (LO (Int×zb×zb) (Int×zb×zb) _)) (y1,(⟨0,[],0,[],false⟩:zb),(⟨7,[],0,[],false⟩:zb)) fun o13=>
 some (o13.2.2,if w64 (o13.1+1)<(x.1.length:Int)then w64 (o13.1+1)else(x.1.length:Int))
def Ey(x:Str×Int):Option (zb×Int):=
 ze (qZ (x.1,x.2)) fun y1=>
 ze (zD (x.1,y1.2)) fun y2=>
 bif y2 != 40 then
  some ((⟨1,y1.1,0,[],false⟩:zb),y1.2)
 else
  zV (X:=zb) (
    ze (qI (y1.1,[117,114,108])) fun y3=>
    bif y3 then
     ze (qC (x.1,w64 (y1.2+1))) fun y4=>
     ze (zD (x.1,y4)) fun y5=>
     bif bif y5 != 34 then y5 != 39 else false then
      ze (Vx (x.1,w64 (y1.2+1))) fun y6=>
      some (LX.ret (y6.1,y6.2))
     else
      some (LX.out (⟨0,[],0,[],false⟩:zb))
    else
     some (LX.out (⟨0,[],0,[],false⟩:zb))) fun j7=>
  some ((⟨2,y1.1,0,[],false⟩:zb),w64 (y1.2+1))
def Fy(x:Int):Option Int:=
 bif x==58 then
  some 16
 else
  bif x==59 then
   some 17
  else
   bif x==44 then
    some 18
   else
    bif x==91 then
     some 19
    else
     bif x==93 then
      some 20
     else
      bif x==40 then
       some 21
      else
       bif x==41 then
        some 22
       else
        bif x==123 then
         some 23
        else
         bif x==125 then
          some 24
         else
          some 0
def Yl(x:Str×Int):Option (zb×Int):=
 ze (geti x.1 x.2) fun y1=>
 ze (Qa (y1.toNat:Int)) fun y2=>
 bif y2 then
  ze (qC (x.1,x.2)) fun y3=>
  some ((⟨13,[],0,[],false⟩:zb),y3)
 else
  bif bif (y1.toNat:Int)==34 then true else(y1.toNat:Int)==39 then
   ze (Uy (x.1,x.2)) fun y4=>
   some (y4.1,y4.2)
  else
   ze (zq (decide (w64 (x.2+1)<(x.1.length:Int))&&(y1.toNat:Int)==35) (geti x.1 (w64 (x.2+1))) 0) fun y5=>
   ze (zq (decide (w64 (x.2+1)<(x.1.length:Int))&&(y1.toNat:Int)==35) (ZH (y5.toNat:Int)) (default:Bool)) fun y6=>
   ze (zq (!(bif decide (w64 (x.2+1)<(x.1.length:Int))then y6 else false)&&(y1.toNat:Int)==35) (Zd (x.1,w64 (x.2+1))) (default:Bool)) fun y7=>
   bif bif (y1.toNat:Int)==35 then bif bif decide (w64 (x.2+1)<(x.1.length:Int))then y6 else false then true else y7 else false then
    ze (qZ (x.1,w64 (x.2+1))) fun y8=>
    ze (qW (x.1,w64 (x.2+1))) fun y9=>
    some ((⟨4,y8.1,0,[],y9⟩:zb),y8.2)
   else
    ze (Xy (x.1,x.2)) fun y10=>
    bif y10 then
     ze (Ry (x.1,x.2)) fun y11=>
     some (y11.1,y11.2)
    else
     ze (Uk (x.1,x.2,[45,45,62])) fun y12=>
     bif y12 then
      some ((⟨15,[],0,[],false⟩:zb),w64 (x.2+3))
     else
      ze (Uk (x.1,x.2,[60,33,45,45])) fun y13=>
      bif y13 then
       some ((⟨14,[],0,[],false⟩:zb),w64 (x.2+4))
      else
       ze (zq ((y1.toNat:Int)==64) (qW (x.1,w64 (x.2+1))) (default:Bool)) fun y14=>
       bif bif (y1.toNat:Int)==64 then y14 else false then
        ze (qZ (x.1,w64 (x.2+1))) fun y15=>
        some ((⟨3,y15.1,0,[],false⟩:zb),y15.2)
       else
        ze (qW (x.1,x.2)) fun y16=>
        bif y16 then
         ze (Ey (x.1,x.2)) fun y17=>
         some (y17.1,y17.2)
        else
         ze (Fy (y1.toNat:Int)) fun y18=>
         bif y18 != 0 then
          ze (Fy (y1.toNat:Int)) fun y19=>
          some ((⟨y19,[],0,[],false⟩:zb),w64 (x.2+1))
         else
          need (decide (0<=x.2)&&(decide (x.2<=w64 (x.2+1))&&decide (w64 (x.2+1)<=(x.1.length:Int))))<|
          some ((⟨9,List.drop x.2.toNat (List.take (w64 (x.2+1)).toNat x.1),0,[],false⟩:zb),w64 (x.2+1))
def Qb(x:Int):Option Bool:=
 ze (ZK x) fun y1=>
 ze (Yl ([y1,(10:UInt8)],0)) fun y2=>
 some (bif bif bif bif decide (x>=1)then decide (x<=127)else false then x != 12 else false then x != 13 else false then y2.1.kind==9 else false)
def gp(x:zb):Option Bool:=
 zV (X:=Bool×zb) (
   bif x.kind==1 then
    some (LX.out (x.kind==1,x))
   else
    bif x.kind==2 then
     some (LX.out (x.kind==2,x))
    else
     some (LX.out (x.kind==3,x))) fun j1=>
 bif j1.1 then
  ze (zq (!(x.text==[])) (Qc x.text) (default:Bool)) fun y2=>
  some (bif bif !(x.text==[])then y2 else false then j1.2.kind==x.kind&&(([]:Str)==[]&&(j1.2.num==0&&(j1.2.unit==[]&&(j1.2.flag==false&&true))))else false)
 else
  bif x.kind==4 then
   ze (zq (!(x.text==[])) (Qc x.text) (default:Bool)) fun y3=>
   ze (zq (!x.flag&&(bif !(x.text==[])then y3 else false)) (Dy x.text) (default:Bool)) fun y4=>
   some (bif bif bif !(x.text==[])then y3 else false then bif x.flag then true else y4 else false then j1.2.kind==x.kind&&(([]:Str)==[]&&(j1.2.num==0&&(j1.2.unit==[]&&(false==false&&true))))else false)
  else
   zV (X:=Bool×zb) (
     bif x.kind==5 then
      some (LX.out (x.kind==5,j1.2))
     else
      some (LX.out (x.kind==7,j1.2))) fun j5=>
   bif j5.1 then
    ze (Qc x.text) fun y6=>
    some (bif y6 then j5.2.kind==x.kind&&(([]:Str)==[]&&(j5.2.num==0&&(j5.2.unit==[]&&(j5.2.flag==false&&true))))else false)
   else
    bif x.kind==9 then
     ze (zq ((x.text.length:Int)==1) (geti x.text 0) 0) fun y7=>
     ze (zq ((x.text.length:Int)==1) (Qb (y7.toNat:Int)) (default:Bool)) fun y8=>
     some (bif bif (x.text.length:Int)==1 then y8 else false then j5.2.kind==x.kind&&(([]:Str)==[]&&(j5.2.num==0&&(j5.2.unit==[]&&(j5.2.flag==false&&true))))else false)
    else
     zV (X:=Bool×zb) (
       bif x.kind==10 then
        some (LX.out (x.kind==10,j5.2))
       else
        bif x.kind==11 then
         some (LX.out (x.kind==11,j5.2))
        else
         some (LX.out (x.kind==12,j5.2))) fun j9=>
     bif j9.1 then
      ze (zq ((!(x.unit==[]))==(x.kind==12)) (Qc x.unit) (default:Bool)) fun y10=>
      some (bif bif bif bif bif decide (x.num>=(-1000000000000))then decide (x.num<=1000000000000)else false then bif !x.flag then true else Int.tmod x.num 1000==0 else false then bif (!(x.unit==[]))==(x.kind==12)then y10 else false else false then bif x.kind != 11 then true else !x.flag else false then j9.2.kind==x.kind&&(j9.2.text==[]&&(0==0&&(([]:Str)==[]&&(false==false&&true))))else false)
     else
      zV (X:=Bool) (
        bif x.kind==6 then
         some (LX.out (x.kind==6))
        else
         some (LX.out (x.kind==8))) fun j11=>
      bif j11 then
       some false
      else
       some (bif bif decide (x.kind>=1)then decide (x.kind<=24)else false then x.kind==x.kind&&(x.text==[]&&(x.num==0&&(x.unit==[]&&(x.flag==false&&true))))else false)
def Fq(x:List zb):Option Int:=
 bif decide ((x.length:Int)>1500)then
  some 4
 else
  Zp (fun(s1:Int)=>
    bif decide (s1<(x.length:Int))then
     ze (geti x s1) fun y2=>
     ze (gp y2) fun y3=>
     bif !y3 then
      some (LO.ret 8)
     else
      zV (X:=Unit) (
        ze (geti x s1) fun y4=>
        ze (zq (y4.kind==2) (geti x s1) (default:zb)) fun y5=>
        ze (zq (y4.kind==2) (qI (y5.text,[117,114,108])) (default:Bool)) fun y6=>
        bif bif y4.kind==2 then y6 else false then
         zV (X:=Int) (
           ze (zq (decide (w64 (s1+1)<(x.length:Int))) (geti x (w64 (s1+1))) (default:zb)) fun y7=>
           bif bif decide (w64 (s1+1)<(x.length:Int))then y7.kind==13 else false then
            some (LX.out (w64 (w64 (s1+1)+1)))
           else
            some (LX.out (w64 (s1+1)))) fun j8=>
         ze (zq (!(decide (j8>=(x.length:Int)))) (geti x j8) (default:zb)) fun y9=>
         bif bif decide (j8>=(x.length:Int))then true else y9.kind != 5 then
          some (LX.ret (LO.ret 8))
         else
          some (LX.out ())
        else
         some (LX.out ())) fun j10=>
      ze (geti x s1) fun y11=>
      ze (zq (y11.kind==9) (geti x s1) (default:zb)) fun y12=>
      ze (zq (!(w64 (s1+1)==(x.length:Int))&&(bif y11.kind==9 then y12.text==[92]else false)) (geti x (w64 (s1+1))) (default:zb)) fun y13=>
      bif bif bif y11.kind==9 then y12.text==[92]else false then bif w64 (s1+1)==(x.length:Int)then true else y13.kind != 13 else false then
       some (LO.ret 8)
      else
       some (LO.again (w64 (s1+1)))
    else
     some (LO.out ()):Int->Option (LO (Int) (Unit) _)) 0 fun o14=>
  some 0
def strings_IndexByte(x:Str×Int):Option Int:=
 ze (Cw (x.1,x.2)) fun y1=>
 some y1
def stringslite_HasPrefix(x:Str×Str):Option Bool:=
 need (decide (0<=(x.2.length:Int))&&decide ((x.2.length:Int)<=(x.1.length:Int))|| !(decide ((x.1.length:Int)>=(x.2.length:Int))))<|
 some (bif decide ((x.1.length:Int)>=(x.2.length:Int))then List.take x.2.length x.1==x.2 else false)
def stringslite_TrimPrefix(x:Str×Str):Option Str:=
 ze (stringslite_HasPrefix (x.1,x.2)) fun y1=>
 bif y1 then
  need (decide (0<=(x.2.length:Int))&&decide ((x.2.length:Int)<=(x.1.length:Int)))<|
  some (List.drop x.2.length x.1)
 else
  some x.1
def strings_TrimPrefix(x:Str×Str):Option Str:=
 ze (stringslite_TrimPrefix (x.1,x.2)) fun y1=>
 some y1
def ZY(x:Int):Option Bool:=
 some (bif decide (48<=x)then decide (x<=57)else false)
def qR(x:Str):Option Bool:=
 ze (strings_TrimPrefix (x,[45])) fun y1=>
 ze (zq (!(y1==[])) (geti y1 0) 0) fun y2=>
 ze (zq (!(y1==[])) (ZY (y2.toNat:Int)) (default:Bool)) fun y3=>
 some (bif !(y1==[])then y3 else false)
def strings_HasPrefix(x:Str×Str):Option Bool:=
 ze (stringslite_HasPrefix (x.1,x.2)) fun y1=>
 some y1
def yt(x:Int):Option Bool:=
 some (bif bif decide (97<=ibOr IntKind.u8 x 32)then decide (ibOr IntKind.u8 x 32<=122)else false then decide (x<128)else false)
def QG(x:Int):Option Bool:=
 ze (yt x) fun y1=>
 ze (zq (!y1) (ZY x) (default:Bool)) fun y2=>
 some (bif bif bif bif y1 then true else y2 then true else x==95 then true else x==45 then true else decide (x>=128))
def strings_Contains(x:Str×Str):Option Bool:=
 ze (Gl (x.1,x.2)) fun y1=>
 some (decide (y1>=0))
def Pp(x:zb):Option Bool:=
 need (Zw x.text.length x.unit.length)<|
 ze (strings_IndexByte (x.text++x.unit,0)) fun y1=>
 zV (X:=Bool×Bool×Bool×Bool×Bool) (
   zV (X:=Bool×Bool×Bool×Bool×Bool×Bool) (
     bif x.kind==1 then
      some (LX.out (false,false,false,false,decide (y1<0),x.kind==1))
     else
      bif x.kind==2 then
       some (LX.out (false,false,false,false,decide (y1<0),x.kind==2))
      else
       some (LX.out (false,false,false,false,decide (y1<0),x.kind==3))) fun j2=>
   bif j2.2.2.2.2.2 then
    some (LX.out (true,j2.2.1,j2.2.2.1,j2.2.2.2.1,bif j2.2.2.2.2.1 then !(x.text==[])else false))
   else
    bif x.kind==4 then
     ze (zq (!x.flag&&(bif j2.2.2.2.2.1 then !(x.text==[])else false)) (qR x.text) (default:Bool)) fun y3=>
     ze (zq (y3&&(!x.flag&&(bif j2.2.2.2.2.1 then !(x.text==[])else false))) (strings_HasPrefix (x.text,[45,45])) (default:Bool)) fun y4=>
     some (LX.out (true,j2.2.1,j2.2.2.1,true,bif bif j2.2.2.2.2.1 then !(x.text==[])else false then bif bif x.flag then true else bif y3 then !y4 else false then true else x.text==[45]else false))
    else
     zV (X:=Bool×Bool×Bool×Bool×Bool×Bool) (
       bif x.kind==5 then
        some (LX.out (j2.1,j2.2.1,j2.2.2.1,j2.2.2.2.1,j2.2.2.2.2.1,x.kind==5))
       else
        some (LX.out (j2.1,j2.2.1,j2.2.2.1,j2.2.2.2.1,j2.2.2.2.2.1,x.kind==7))) fun j5=>
     bif j5.2.2.2.2.2 then
      some (LX.out (true,j5.2.1,j5.2.2.1,j5.2.2.2.1,j5.2.2.2.2.1))
     else
      bif x.kind==9 then
       ze (zq (bif j5.2.2.2.2.1 then(x.text.length:Int)==1 else false) (geti x.text 0) 0) fun y6=>
       ze (zq (bif j5.2.2.2.2.1 then(x.text.length:Int)==1 else false) (QG (y6.toNat:Int)) (default:Bool)) fun y7=>
       ze (zq (bif bif bif j5.2.2.2.2.1 then(x.text.length:Int)==1 else false then !y7 else false then true else x.text==[45]) (strings_Contains ([32,9,10,12,13,34,39,58,59,44,91,93,40,41,123,125],x.text)) (default:Bool)) fun y8=>
       some (LX.out (true,j5.2.1,j5.2.2.1,j5.2.2.2.1,bif bif bif bif j5.2.2.2.2.1 then(x.text.length:Int)==1 else false then !y7 else false then true else x.text==[45]then !y8 else false))
      else
       zV (X:=Bool×Bool×Bool×Bool×Bool) (
         bif x.kind==10 then
          some (LX.out (j5.2.1,j5.2.2.1,j5.2.2.2.1,j5.2.2.2.2.1,x.kind==10))
         else
          bif x.kind==11 then
           some (LX.out (j5.2.1,j5.2.2.1,j5.2.2.2.1,j5.2.2.2.2.1,x.kind==11))
          else
           some (LX.out (j5.2.1,j5.2.2.1,j5.2.2.2.1,j5.2.2.2.2.1,x.kind==12))) fun j9=>
       bif j9.2.2.2.2 then
        some (LX.out (j5.1,x.kind==12,true,x.kind != 11,bif bif bif bif j9.2.2.2.1 then decide (x.num>=(-1000000000000))else false then decide (x.num<=1000000000000)else false then bif !x.flag then true else Int.tmod x.num 1000==0 else false then bif !(x.kind==12)then true else !(x.unit==[])else false))
       else
        some (LX.out (j5.1,j9.1,j9.2.1,j9.2.2.1,bif decide (x.kind>=13)then decide (x.kind<=24)else false))) fun j10=>
 some (bif bif bif bif j10.2.2.2.2 then bif j10.1 then true else x.text==[]else false then bif j10.2.1 then true else x.unit==[]else false then bif j10.2.2.1 then true else x.num==0 else false then bif j10.2.2.2.1 then true else !x.flag else false)
def ZT(x:(Int×Int)×List zb):Option Bool:=
 ze (zq (decide (x.1.1<(x.2.length:Int))) (geti x.2 x.1.1) (default:zb)) fun y1=>
 some (bif decide (x.1.1<(x.2.length:Int))then y1.kind==x.1.2 else false)
def ut(x:Str):Option Str:=
 need (decide (x.length<=maxLen))<|
 Zp (fun(s1:Int×List UInt8)=>
   bif decide (s1.1<(x.length:Int))then
    zV (X:=Int×List UInt8) (
      need (decide (0<=s1.1)&&decide (s1.1<(s1.2.length:Int)))<|
      ze s1.2[s1.1.toNat]? fun y2=>
      bif bif decide (65<=(y2.toNat:Int))then decide ((y2.toNat:Int)<=90)else false then
       need (decide (0<=s1.1)&&decide (s1.1<(s1.2.length:Int)))<|
       ze s1.2[s1.1.toNat]? fun y3=>
       need (decide (0<=s1.1)&&decide (s1.1<(s1.2.length:Int)))<|
       ze s1.2[s1.1.toNat]? fun y4=>
       ze (ZK (ibOr IntKind.u8 (y3.toNat:Int) 32)) fun y5=>
       some (LX.out (s1.1,List.set s1.2 s1.1.toNat y5))
      else
       some (LX.out (s1.1,s1.2))) fun j6=>
    some (LO.again (w64 (j6.1+1),j6.2))
   else
    some (LO.out s1.2):Int×List UInt8->Option (LO (Int×List UInt8) (List UInt8) _)) (0,x) fun o7=>
 some o7
def Gq(x:Str×Str):Option Bool:=
 ze (ut x.1) fun y1=>
 ze (ut x.2) fun y2=>
 some (y1==y2)
def QH(x:List zb):Option Int:=
 ze (geti x 0) fun y1=>
 bif bif y1.kind==9 then y1.text==[92]else false then
  ze (ZT ((1,13),x)) fun y2=>
  bif !y2 then
   some 0
  else
   some 2
 else
  ze (zq (y1.kind==2) (Gq (y1.text,[117,114,108])) (default:Bool)) fun y3=>
  bif bif y1.kind==2 then y3 else false then
   zV (X:=Int) (
     ze (ZT ((1,13),x)) fun y4=>
     bif y4 then
      some (LX.out 2)
     else
      some (LX.out 1)) fun j5=>
   ze (ZT ((j5,5),x)) fun y6=>
   bif !y6 then
    some 0
   else
    some (w64 (j5+1))
  else
   some 1
def Yp(x:List zb):Option Int:=
 bif decide ((x.length:Int)>1500)then
  some 4
 else
  Zp (fun(s1:Int)=>
    bif decide (s1<(x.length:Int))then
     ze (geti x s1) fun y2=>
     ze (Pp y2) fun y3=>
     need (decide (0<=s1)&&decide (s1<=(x.length:Int))|| !(!(!y3)))<|
     ze (zq (!(!y3)) (QH (List.drop s1.toNat x)) (default:Int)) fun y4=>
     bif bif !y3 then true else y4==0 then
      some (LO.ret 8)
     else
      some (LO.again (w64 (s1+1)))
    else
     some (LO.out ()):Int->Option (LO (Int) (Unit) _)) 0 fun o5=>
  some 0
def ZF(x:Str):Option Int:=
 ze (strings_HasPrefix (x,[45])) fun y1=>
 bif y1 then
  some 2
 else
  some 1
def Za(x:Int×List UInt8):Option (List UInt8):=
 ze (zq (bif decide (x.1>32)then decide (x.1<127)else false) (ZY x.1) (default:Bool)) fun y1=>
 ze (zq (bif bif decide (x.1>32)then decide (x.1<127)else false then !y1 else false) (yt x.1) (default:Bool)) fun y2=>
 bif bif bif bif decide (x.1>32)then decide (x.1<127)else false then !y1 else false then !y2 else false then
  ze (ZK x.1) fun y3=>
  need (zP x.2.length 2 1)<|
  some (x.2++[(92:UInt8),y3])
 else
  need (zP x.2.length 1 1)<|
  ze (uo ((wu64 x.1,16),x.2++[(92:UInt8)])) fun y4=>
  need (zP y4.length 1 1)<|
  some (y4++[(32:UInt8)])
def qY(x:Str×Int):Option (List UInt8):=
 Zp (fun(s1:Int×List UInt8)=>
   bif decide (s1.1<(x.1.length:Int))then
    zV (X:=Int×List UInt8) (
      ze (geti x.1 s1.1) fun y2=>
      ze (QG (y2.toNat:Int)) fun y3=>
      ze (zq (!(decide (s1.1>=x.2))&&y3) (ZY (y2.toNat:Int)) (default:Bool)) fun y4=>
      bif bif bif y3 then bif decide (s1.1>=x.2)then true else !y4 else false then bif x.2==0 then true else !(x.1==[45])else false then
       ze (ZK (y2.toNat:Int)) fun y5=>
       need (zP s1.2.length 1 1)<|
       some (LX.out (s1.1,s1.2++[y5]))
      else
       ze (Za ((y2.toNat:Int),s1.2)) fun y6=>
       some (LX.out (s1.1,y6))) fun j7=>
    some (LO.again (w64 (j7.1+1),j7.2))
   else
    some (LO.out s1.2):Int×List UInt8->Option (LO (Int×List UInt8) (List UInt8) _)) (0,[]) fun o8=>
 some o8
def Zk(x:(Str×Int)×List UInt8):Option (List UInt8):=
 Zp (fun(s1:Int×List UInt8)=>
   bif decide (s1.1<(x.1.1.length:Int))then
    zV (X:=Int×List UInt8) (
      ze (geti x.1.1 s1.1) fun y2=>
      ze (QG (y2.toNat:Int)) fun y3=>
      ze (zq (!(decide (s1.1>=x.1.2))&&y3) (ZY (y2.toNat:Int)) (default:Bool)) fun y4=>
      bif bif bif y3 then bif decide (s1.1>=x.1.2)then true else !y4 else false then bif x.1.2==0 then true else !(x.1.1==[45])else false then
       ze (ZK (y2.toNat:Int)) fun y5=>
       need (zP s1.2.length 1 1)<|
       some (LX.out (s1.1,s1.2++[y5]))
      else
       ze (Za ((y2.toNat:Int),s1.2)) fun y6=>
       some (LX.out (s1.1,y6))) fun j7=>
    some (LO.again (w64 (j7.1+1),j7.2))
   else
    some (LO.out s1.2):Int×List UInt8->Option (LO (Int×List UInt8) (List UInt8) _)) (0,x.2) fun o8=>
 some o8
def qP(x:Int×Bool):Option (List UInt8):=
 zV (X:=Int×List UInt8) (
   bif decide (x.1<0)then
    need (zP 0 1 1)<|
    some (LX.out (w64 (0 - x.1),[(45:UInt8)]))
   else
    some (LX.out (x.1,[]))) fun j1=>
 ze (Dj ((w64 (Int.tdiv j1.1 1000),10),j1.2)) fun y2=>
 ze (Bj (w64 (1000+Int.tmod j1.1 1000),10)) fun y3=>
 need (decide (1<=(y3.length:Int)))<|
 ze (ji (List.drop 1 y3,[48])) fun y4=>
 zV (X:=List UInt8) (
   bif !(y4==[])then
    need (zP y2.length 1 1)<|
    need (zP (y2++[(46:UInt8)]).length y4.length 1)<|
    some (LX.out (y2++[(46:UInt8)]++y4))
   else
    bif x.2 then
     need (zP y2.length ([46,48]:Str).length 1)<|
     some (LX.out (y2++([46,48]:Str)))
    else
     some (LX.out y2)) fun j5=>
 some j5
def Xp(x:Unit):Option QE:=
 some (⟨[32],[60,33,45,45],[45,45,62],[58],[59],[44],[91],[93],[40],[41],[123],[125]⟩:QE)
def Oy(x:zb):Option (List UInt8):=
 bif x.kind==1 then
  ze (ZF x.text) fun y1=>
  ze (qY (x.text,y1)) fun y2=>
  some y2
 else
  bif x.kind==2 then
   ze (ZF x.text) fun y3=>
   ze (qY (x.text,y3)) fun y4=>
   need (zP y4.length 1 1)<|
   some (y4++[(40:UInt8)])
  else
   bif x.kind==3 then
    need (zP 0 1 1)<|
    ze (ZF x.text) fun y5=>
    ze (Zk ((x.text,y5),[(64:UInt8)])) fun y6=>
    some y6
   else
    bif x.kind==4 then
     zV (X:=Int) (
       bif x.flag then
        ze (ZF x.text) fun y7=>
        some (LX.out y7)
       else
        some (LX.out 0)) fun j8=>
     need (zP 0 1 1)<|
     ze (Zk ((x.text,j8),[(35:UInt8)])) fun y9=>
     some y9
    else
     bif x.kind==5 then
      need (zP 0 1 1)<|
      need (decide (x.text.length<=maxLen))<|
      Zp (fun(s10:Int×List UInt8)=>
        bif decide (s10.1<(x.text.length:Int))then
         zV (X:=Int×List UInt8) (
           need (decide (0<=s10.1)&&decide (s10.1<(x.text.length:Int)))<|
           ze x.text[s10.1.toNat]? fun y11=>
           ze (strings_IndexByte ([10,12,13,34,92],(y11.toNat:Int))) fun y12=>
           bif decide (y12>=0)then
            ze (Za ((y11.toNat:Int),s10.2)) fun y13=>
            some (LX.out (s10.1,y13))
           else
            ze (ZK (y11.toNat:Int)) fun y14=>
            need (zP s10.2.length 1 1)<|
            some (LX.out (s10.1,s10.2++[y14]))) fun j15=>
         some (LO.again (w64 (j15.1+1),j15.2))
        else
         some (LO.out s10.2):Int×List UInt8->Option (LO (Int×List UInt8) (List UInt8) _)) (0,[(34:UInt8)]) fun o16=>
      need (zP o16.length 1 1)<|
      some (o16++[(34:UInt8)])
     else
      bif x.kind==7 then
       need (zP 0 ([117,114,108,40]:Str).length 1)<|
       need (decide (x.text.length<=maxLen))<|
       Zp (fun(s17:Int×List UInt8)=>
         bif decide (s17.1<(x.text.length:Int))then
          zV (X:=Int×List UInt8) (
            need (decide (0<=s17.1)&&decide (s17.1<(x.text.length:Int)))<|
            ze x.text[s17.1.toNat]? fun y18=>
            ze (zq (!(decide ((y18.toNat:Int)<=32))) (strings_IndexByte ([34,39,40,41,92,127],(y18.toNat:Int))) (default:Int)) fun y19=>
            bif bif decide ((y18.toNat:Int)<=32)then true else decide (y19>=0)then
             ze (Za ((y18.toNat:Int),s17.2)) fun y20=>
             some (LX.out (s17.1,y20))
            else
             ze (ZK (y18.toNat:Int)) fun y21=>
             need (zP s17.2.length 1 1)<|
             some (LX.out (s17.1,s17.2++[y21]))) fun j22=>
          some (LO.again (w64 (j22.1+1),j22.2))
         else
          some (LO.out s17.2):Int×List UInt8->Option (LO (Int×List UInt8) (List UInt8) _)) (0,([117,114,108,40]:Str)) fun o23=>
       need (zP o23.length 1 1)<|
       some (o23++[(41:UInt8)])
      else
       bif x.kind==9 then
        need (zP 0 x.text.length 1)<|
        some x.text
       else
        bif x.kind==10 then
         ze (qP (x.num, !x.flag)) fun y24=>
         some y24
        else
         bif x.kind==11 then
          ze (qP (x.num,false)) fun y25=>
          need (zP y25.length 1 1)<|
          some (y25++[(37:UInt8)])
         else
          bif x.kind==12 then
           ze (qP (x.num, !x.flag)) fun y26=>
           ze (geti x.unit 0) fun y27=>
           need (decide (1<=(x.unit.length:Int))|| !(ibOr IntKind.u8 (y27.toNat:Int) 32==101))<|
           ze (zq (ibOr IntKind.u8 (y27.toNat:Int) 32==101) (qR (List.drop 1 x.unit)) (default:Bool)) fun y28=>
           need (decide (1<=(x.unit.length:Int))|| !(bif ibOr IntKind.u8 (y27.toNat:Int) 32==101 then y28 else false))<|
           ze (zq (bif ibOr IntKind.u8 (y27.toNat:Int) 32==101 then y28 else false) (strings_HasPrefix (List.drop 1 x.unit,[45,45])) (default:Bool)) fun y29=>
           bif bif bif ibOr IntKind.u8 (y27.toNat:Int) 32==101 then y28 else false then !y29 else false then
            ze (geti x.unit 0) fun y30=>
            ze (Za ((y30.toNat:Int),y26)) fun y31=>
            need (decide (1<=(x.unit.length:Int)))<|
            ze (Zk ((List.drop 1 x.unit,0),y31)) fun y32=>
            some y32
           else
            ze (ZF x.unit) fun y33=>
            ze (Zk ((x.unit,y33),y26)) fun y34=>
            some y34
          else
           ze (Xp ()) fun y35=>
           ze (geti [y35.e0,y35.e1,y35.e2,y35.e3,y35.e4,y35.e5,y35.e6,y35.e7,y35.e8,y35.e9,y35.e10,y35.e11] (wu8 (x.kind - 13))) fun y36=>
           need (zP 0 y36.length 1)<|
           some y36
def qQ(x:(Int×Bool)×List UInt8):Option (List UInt8):=
 zV (X:=Int×List UInt8) (
   bif decide (x.1.1<0)then
    need (zP x.2.length 1 1)<|
    some (LX.out (w64 (0 - x.1.1),x.2++[(45:UInt8)]))
   else
    some (LX.out (x.1.1,x.2))) fun j1=>
 ze (Dj ((w64 (Int.tdiv j1.1 1000),10),j1.2)) fun y2=>
 ze (Bj (w64 (1000+Int.tmod j1.1 1000),10)) fun y3=>
 need (decide (1<=(y3.length:Int)))<|
 ze (ji (List.drop 1 y3,[48])) fun y4=>
 zV (X:=List UInt8) (
   bif !(y4==[])then
    need (zP y2.length 1 1)<|
    need (zP (y2++[(46:UInt8)]).length y4.length 1)<|
    some (LX.out (y2++[(46:UInt8)]++y4))
   else
    bif x.1.2 then
     need (zP y2.length ([46,48]:Str).length 1)<|
     some (LX.out (y2++([46,48]:Str)))
    else
     some (LX.out y2)) fun j5=>
 some j5
def QR(x:zb×List UInt8):Option (List UInt8):=
 bif x.1.kind==1 then
  ze (ZF x.1.text) fun y1=>
  ze (Zk ((x.1.text,y1),x.2)) fun y2=>
  some y2
 else
  bif x.1.kind==2 then
   ze (ZF x.1.text) fun y3=>
   ze (Zk ((x.1.text,y3),x.2)) fun y4=>
   need (zP y4.length 1 1)<|
   some (y4++[(40:UInt8)])
  else
   bif x.1.kind==3 then
    need (zP x.2.length 1 1)<|
    ze (ZF x.1.text) fun y5=>
    ze (Zk ((x.1.text,y5),x.2++[(64:UInt8)])) fun y6=>
    some y6
   else
    bif x.1.kind==4 then
     zV (X:=Int×List UInt8) (
       bif x.1.flag then
        ze (ZF x.1.text) fun y7=>
        some (LX.out (y7,x.2))
       else
        some (LX.out (0,x.2))) fun j8=>
     need (zP j8.2.length 1 1)<|
     ze (Zk ((x.1.text,j8.1),j8.2++[(35:UInt8)])) fun y9=>
     some y9
    else
     bif x.1.kind==5 then
      need (zP x.2.length 1 1)<|
      need (decide (x.1.text.length<=maxLen))<|
      Zp (fun(s10:Int×List UInt8)=>
        bif decide (s10.1<(x.1.text.length:Int))then
         zV (X:=Int×List UInt8) (
           need (decide (0<=s10.1)&&decide (s10.1<(x.1.text.length:Int)))<|
           ze x.1.text[s10.1.toNat]? fun y11=>
           ze (strings_IndexByte ([10,12,13,34,92],(y11.toNat:Int))) fun y12=>
           bif decide (y12>=0)then
            ze (Za ((y11.toNat:Int),s10.2)) fun y13=>
            some (LX.out (s10.1,y13))
           else
            ze (ZK (y11.toNat:Int)) fun y14=>
            need (zP s10.2.length 1 1)<|
            some (LX.out (s10.1,s10.2++[y14]))) fun j15=>
         some (LO.again (w64 (j15.1+1),j15.2))
        else
         some (LO.out s10.2):Int×List UInt8->Option (LO (Int×List UInt8) (List UInt8) _)) (0,x.2++[(34:UInt8)]) fun o16=>
      need (zP o16.length 1 1)<|
      some (o16++[(34:UInt8)])
     else
      bif x.1.kind==7 then
       need (zP x.2.length ([117,114,108,40]:Str).length 1)<|
       need (decide (x.1.text.length<=maxLen))<|
       Zp (fun(s17:Int×List UInt8)=>
         bif decide (s17.1<(x.1.text.length:Int))then
          zV (X:=Int×List UInt8) (
            need (decide (0<=s17.1)&&decide (s17.1<(x.1.text.length:Int)))<|
            ze x.1.text[s17.1.toNat]? fun y18=>
            ze (zq (!(decide ((y18.toNat:Int)<=32))) (strings_IndexByte ([34,39,40,41,92,127],(y18.toNat:Int))) (default:Int)) fun y19=>
            bif bif decide ((y18.toNat:Int)<=32)then true else decide (y19>=0)then
             ze (Za ((y18.toNat:Int),s17.2)) fun y20=>
             some (LX.out (s17.1,y20))
            else
             ze (ZK (y18.toNat:Int)) fun y21=>
             need (zP s17.2.length 1 1)<|
             some (LX.out (s17.1,s17.2++[y21]))) fun j22=>
          some (LO.again (w64 (j22.1+1),j22.2))
         else
          some (LO.out s17.2):Int×List UInt8->Option (LO (Int×List UInt8) (List UInt8) _)) (0,x.2++([117,114,108,40]:Str)) fun o23=>
       need (zP o23.length 1 1)<|
       some (o23++[(41:UInt8)])
      else
       bif x.1.kind==9 then
        need (zP x.2.length x.1.text.length 1)<|
        some (x.2++x.1.text)
       else
        bif x.1.kind==10 then
         ze (qQ ((x.1.num, !x.1.flag),x.2)) fun y24=>
         some y24
        else
         bif x.1.kind==11 then
          ze (qQ ((x.1.num,false),x.2)) fun y25=>
          need (zP y25.length 1 1)<|
          some (y25++[(37:UInt8)])
         else
          bif x.1.kind==12 then
           ze (qQ ((x.1.num, !x.1.flag),x.2)) fun y26=>
           ze (geti x.1.unit 0) fun y27=>
           need (decide (1<=(x.1.unit.length:Int))|| !(ibOr IntKind.u8 (y27.toNat:Int) 32==101))<|
           ze (zq (ibOr IntKind.u8 (y27.toNat:Int) 32==101) (qR (List.drop 1 x.1.unit)) (default:Bool)) fun y28=>
           need (decide (1<=(x.1.unit.length:Int))|| !(bif ibOr IntKind.u8 (y27.toNat:Int) 32==101 then y28 else false))<|
           ze (zq (bif ibOr IntKind.u8 (y27.toNat:Int) 32==101 then y28 else false) (strings_HasPrefix (List.drop 1 x.1.unit,[45,45])) (default:Bool)) fun y29=>
           bif bif bif ibOr IntKind.u8 (y27.toNat:Int) 32==101 then y28 else false then !y29 else false then
            ze (geti x.1.unit 0) fun y30=>
            ze (Za ((y30.toNat:Int),y26)) fun y31=>
            need (decide (1<=(x.1.unit.length:Int)))<|
            ze (Zk ((List.drop 1 x.1.unit,0),y31)) fun y32=>
            some y32
           else
            ze (ZF x.1.unit) fun y33=>
            ze (Zk ((x.1.unit,y33),y26)) fun y34=>
            some y34
          else
           ze (Xp ()) fun y35=>
           ze (geti [y35.e0,y35.e1,y35.e2,y35.e3,y35.e4,y35.e5,y35.e6,y35.e7,y35.e8,y35.e9,y35.e10,y35.e11] (wu8 (x.1.kind - 13))) fun y36=>
           need (zP x.2.length y36.length 1)<|
           some (x.2++y36)
def Zl(x:za):Option za:=
 Zp (fun(s1:za)=>
   need (decide (0<=s1.at_)&&decide (s1.at_<=(s1.s.length:Int)))<|
   ze (strings_HasPrefix (List.drop s1.at_.toNat s1.s,[47,42])) fun y2=>
   bif y2 then
    need (decide (0<=w64 (s1.at_+2))&&decide (w64 (s1.at_+2)<=(s1.s.length:Int)))<|
    ze (Gl (List.drop (w64 (s1.at_+2)).toNat s1.s,[42,47])) fun y3=>
    bif decide (y3<0)then
     some (LO.ret (⟨s1.s,(s1.s.length:Int)⟩:za))
    else
     some (LO.again (⟨s1.s,w64 (s1.at_+w64 (y3+4))⟩:za))
   else
    some (LO.out s1):za->Option (LO (za) (za) _)) x fun o4=>
 some o4
def zf(x:Int×za):Option Int:=
 bif decide (w64 (x.2.at_+x.1)<(x.2.s.length:Int))then
  ze (geti x.2.s (w64 (x.2.at_+x.1))) fun y1=>
  some (w64 (y1.toNat:Int))
 else
  some (-1)
def ql(x:Int):Option Bool:=
 some (bif bif x==32 then true else x==9 then true else x==10)
def zS(x:za):Option za:=
 Zp (fun(s1:za)=>
   ze (zf (0,s1)) fun y2=>
   ze (ql y2) fun y3=>
   bif y3 then
    some (LO.again (⟨s1.s,w64 (s1.at_+1)⟩:za))
   else
    some (LO.out s1):za->Option (LO (za) (za) _)) x fun o4=>
 some o4
def Z9(x:Int):Option (List UInt8):=
 bif decide (wu32 x<=2047)then
  ze (ZK (ibOr IntKind.u8 192 (wu8 (Oh IntKind.i32 x 6)))) fun y1=>
  ze (ZK (ibOr IntKind.u8 128 (Gi IntKind.u8 (wu8 x) 63))) fun y2=>
  need (zP 0 2 1)<|
  some [y1,y2]
 else
  zV (X:=Bool) (
    bif decide (wu32 x<55296)then
     some (LX.out (decide (wu32 x<55296)))
    else
     some (LX.out (bif decide (57343<wu32 x)then decide (wu32 x<=65535)else false))) fun j3=>
  bif j3 then
   ze (ZK (ibOr IntKind.u8 224 (wu8 (Oh IntKind.i32 x 12)))) fun y4=>
   ze (ZK (ibOr IntKind.u8 128 (Gi IntKind.u8 (wu8 (Oh IntKind.i32 x 6)) 63))) fun y5=>
   ze (ZK (ibOr IntKind.u8 128 (Gi IntKind.u8 (wu8 x) 63))) fun y6=>
   need (zP 0 3 1)<|
   some [y4,y5,y6]
  else
   bif bif decide (wu32 x>65535)then decide (wu32 x<=1114111)else false then
    ze (ZK (ibOr IntKind.u8 240 (wu8 (Oh IntKind.i32 x 18)))) fun y7=>
    ze (ZK (ibOr IntKind.u8 128 (Gi IntKind.u8 (wu8 (Oh IntKind.i32 x 12)) 63))) fun y8=>
    ze (ZK (ibOr IntKind.u8 128 (Gi IntKind.u8 (wu8 (Oh IntKind.i32 x 6)) 63))) fun y9=>
    ze (ZK (ibOr IntKind.u8 128 (Gi IntKind.u8 (wu8 x) 63))) fun y10=>
    need (zP 0 4 1)<|
    some [y7,y8,y9,y10]
   else
    need (zP 0 3 1)<|
    some [(239:UInt8),(191:UInt8),(189:UInt8)]
def Z4(x:Int):Option (List UInt8):=
 bif decide (wu32 x<=127)then
  ze (ZK (wu8 x)) fun y1=>
  need (zP 0 1 1)<|
  some [y1]
 else
  ze (Z9 x) fun y2=>
  some y2
def ZV(x:Int×Int×Int):Option Bool:=
 some (bif decide (x.2.1<=x.1)then decide (x.1<=x.2.2)else false)
def Zu(x:Int):Option Bool:=
 ze (ZV (x,48,57)) fun y1=>
 some y1
def um(x:Int):Option Int:=
 ze (Zu x) fun y1=>
 bif y1 then
  some (w64 (x - 48))
 else
  ze (zq (x != (-1)) (ZV (ibOr IntKind.i64 x 32,97,102)) (default:Bool)) fun y2=>
  bif bif bif bif x != (-1)then y2 else false then decide (x>64)else false then decide (x<128)else false then
   some (w64 (w64 (ibOr IntKind.i64 x 32 - 97)+10))
  else
   some (-1)
def ZQ(x:za):Option (za×List UInt8):=
 ze (zf (0,(⟨x.s,w64 (x.at_+1)⟩:za))) fun y1=>
 bif y1==(-1)then
  ze (Z4 65533) fun y2=>
  some ((⟨x.s,w64 (x.at_+1)⟩:za),y2)
 else
  ze (um y1) fun y3=>
  bif decide (y3<0)then
   ze (ZK (wu8 y1)) fun y4=>
   need (zP 0 1 1)<|
   some ((⟨x.s,w64 (w64 (x.at_+1)+1)⟩:za),[y4])
  else
   Zp (fun(s5:(Int×Int)×za)=>
     bif decide (s5.1.2<6)then
      ze (zf (0,s5.2)) fun y6=>
      ze (um y6) fun y7=>
      bif decide (y7<0)then
       some (LO.out (s5.1.1,s5.2))
      else
       some (LO.again ((ibOr IntKind.i64 (Tu IntKind.i64 s5.1.1 4) y7,w64 (s5.1.2+1)),(⟨s5.2.s,w64 (s5.2.at_+1)⟩:za)))
     else
      some (LO.out (s5.1.1,s5.2)):(Int×Int)×za->Option (LO ((Int×Int)×za) (Int×za) _)) ((0,0),(⟨x.s,w64 (x.at_+1)⟩:za)) fun o8=>
   zV (X:=Int×za) (
     ze (zf (0,o8.2)) fun y9=>
     ze (ql y9) fun y10=>
     bif y10 then
      some (LX.out (o8.1,(⟨o8.2.s,w64 (o8.2.at_+1)⟩:za)))
     else
      some (LX.out (o8.1,o8.2))) fun j11=>
   zV (X:=Int) (
     bif j11.1==0 then
      some (LX.out 65533)
     else
      some (LX.out j11.1)) fun j12=>
   ze (Z4 (w32 j12)) fun y13=>
   some (j11.2,y13)
def qa(x:Int×List UInt8):Option (List UInt8):=
 bif decide (wu32 x.1<=2047)then
  ze (ZK (ibOr IntKind.u8 192 (wu8 (Oh IntKind.i32 x.1 6)))) fun y1=>
  ze (ZK (ibOr IntKind.u8 128 (Gi IntKind.u8 (wu8 x.1) 63))) fun y2=>
  need (zP x.2.length 2 1)<|
  some (x.2++[y1,y2])
 else
  zV (X:=Bool×List UInt8) (
    bif decide (wu32 x.1<55296)then
     some (LX.out (decide (wu32 x.1<55296),x.2))
    else
     some (LX.out (bif decide (57343<wu32 x.1)then decide (wu32 x.1<=65535)else false,x.2))) fun j3=>
  bif j3.1 then
   ze (ZK (ibOr IntKind.u8 224 (wu8 (Oh IntKind.i32 x.1 12)))) fun y4=>
   ze (ZK (ibOr IntKind.u8 128 (Gi IntKind.u8 (wu8 (Oh IntKind.i32 x.1 6)) 63))) fun y5=>
   ze (ZK (ibOr IntKind.u8 128 (Gi IntKind.u8 (wu8 x.1) 63))) fun y6=>
   need (zP j3.2.length 3 1)<|
   some (j3.2++[y4,y5,y6])
  else
   bif bif decide (wu32 x.1>65535)then decide (wu32 x.1<=1114111)else false then
    ze (ZK (ibOr IntKind.u8 240 (wu8 (Oh IntKind.i32 x.1 18)))) fun y7=>
    ze (ZK (ibOr IntKind.u8 128 (Gi IntKind.u8 (wu8 (Oh IntKind.i32 x.1 12)) 63))) fun y8=>
    ze (ZK (ibOr IntKind.u8 128 (Gi IntKind.u8 (wu8 (Oh IntKind.i32 x.1 6)) 63))) fun y9=>
    ze (ZK (ibOr IntKind.u8 128 (Gi IntKind.u8 (wu8 x.1) 63))) fun y10=>
    need (zP j3.2.length 4 1)<|
    some (j3.2++[y7,y8,y9,y10])
   else
    need (zP j3.2.length 3 1)<|
    some (j3.2++[(239:UInt8),(191:UInt8),(189:UInt8)])
def Z5(x:Int×List UInt8):Option (List UInt8):=
 bif decide (wu32 x.1<=127)then
  ze (ZK (wu8 x.1)) fun y1=>
  need (zP x.2.length 1 1)<|
  some (x.2++[y1])
 else
  ze (qa (x.1,x.2)) fun y2=>
  some y2
def zO(x:za×List UInt8):Option (za×List UInt8):=
 ze (zf (0,(⟨x.1.s,w64 (x.1.at_+1)⟩:za))) fun y1=>
 bif y1==(-1)then
  ze (Z5 (65533,x.2)) fun y2=>
  some ((⟨x.1.s,w64 (x.1.at_+1)⟩:za),y2)
 else
  ze (um y1) fun y3=>
  bif decide (y3<0)then
   ze (ZK (wu8 y1)) fun y4=>
   need (zP x.2.length 1 1)<|
   some ((⟨x.1.s,w64 (w64 (x.1.at_+1)+1)⟩:za),x.2++[y4])
  else
   Zp (fun(s5:(Int×Int)×za)=>
     bif decide (s5.1.2<6)then
      ze (zf (0,s5.2)) fun y6=>
      ze (um y6) fun y7=>
      bif decide (y7<0)then
       some (LO.out (s5.1.1,s5.2))
      else
       some (LO.again ((ibOr IntKind.i64 (Tu IntKind.i64 s5.1.1 4) y7,w64 (s5.1.2+1)),(⟨s5.2.s,w64 (s5.2.at_+1)⟩:za)))
     else
      some (LO.out (s5.1.1,s5.2)):(Int×Int)×za->Option (LO ((Int×Int)×za) (Int×za) _)) ((0,0),(⟨x.1.s,w64 (x.1.at_+1)⟩:za)) fun o8=>
   zV (X:=Int×za×List UInt8) (
     ze (zf (0,o8.2)) fun y9=>
     ze (ql y9) fun y10=>
     bif y10 then
      some (LX.out (o8.1,(⟨o8.2.s,w64 (o8.2.at_+1)⟩:za),x.2))
     else
      some (LX.out (o8.1,o8.2,x.2))) fun j11=>
   zV (X:=Int×List UInt8) (
     bif j11.1==0 then
      some (LX.out (65533,j11.2.2))
     else
      some (LX.out (j11.1,j11.2.2))) fun j12=>
   ze (Z5 (w32 j12.1,j12.2)) fun y13=>
   some (j11.2.1,y13)
def qy(x:za):Option (zb×za):=
 ze (zf (0,x)) fun y1=>
 Zp (fun(s2:za×zb×List UInt8)=>
   ze (zf (0,s2.1)) fun y3=>
   bif y3==(-1)then
    some (LO.out (s2.1,s2.2.1,s2.2.2))
   else
    bif y3==y1 then
     some (LO.out ((⟨s2.1.s,w64 (s2.1.at_+1)⟩:za),s2.2.1,s2.2.2))
    else
     bif y3==10 then
      some (LO.ret ((⟨6,[],0,[],false⟩:zb),s2.1))
     else
      ze (zq (y3==92) (zf (1,s2.1)) (default:Int)) fun y4=>
      ze (zq (!(y4==(-1))&&y3==92) (zf (1,s2.1)) (default:Int)) fun y5=>
      bif bif y3==92 then bif y4==(-1)then true else y5==10 else false then
       some (LO.again ((⟨s2.1.s,if(s2.1.s.length:Int)<w64 (s2.1.at_+2)then(s2.1.s.length:Int)else w64 (s2.1.at_+2)⟩:za),s2.2.1,s2.2.2))
      else
       bif y3==92 then
        ze (zO (s2.1,s2.2.2)) fun y6=>
        some (LO.again (y6.1,s2.2.1,y6.2))
       else
        ze (ZK (wu8 y3)) fun y7=>
        need (zP s2.2.2.length 1 1)<|
        some (LO.again ((⟨s2.1.s,w64 (s2.1.at_+1)⟩:za),s2.2.1,s2.2.2++[y7])):za×zb×List UInt8->Option (LO (za×zb×List UInt8) (za×zb×List UInt8) _)) ((⟨x.s,w64 (x.at_+1)⟩:za),(⟨0,[],0,[],false⟩:zb),[]) fun o8=>
 some ((⟨5,o8.2.2,0,[],false⟩:zb),o8.1)
def Cq(x:Int):Option Bool:=
 ze (ZV (ibOr IntKind.i64 x 32,97,122)) fun y1=>
 some (bif bif bif bif y1 then decide (x<128)else false then decide (x>64)else false then true else x==95 then true else decide (x>=128))
def Bu(x:Int):Option Bool:=
 ze (Cq x) fun y1=>
 ze (zq (!y1) (Zu x) (default:Bool)) fun y2=>
 some (bif bif y1 then true else y2 then true else x==45)
def zt(x:Int×za):Option Bool:=
 ze (zf (x.1,x.2)) fun y1=>
 ze (zq (y1==92) (zf (w64 (x.1+1),x.2)) (default:Int)) fun y2=>
 some (bif y1==92 then y2 != 10 else false)
def zH(x:Int×za):Option Bool:=
 ze (zf (x.1,x.2)) fun y1=>
 bif y1 != 45 then
  ze (zf (x.1,x.2)) fun y2=>
  ze (Cq y2) fun y3=>
  ze (zq (!y3) (zt (x.1,x.2)) (default:Bool)) fun y4=>
  some (bif y3 then true else y4)
 else
  ze (zf (w64 (x.1+1),x.2)) fun y5=>
  ze (Cq y5) fun y6=>
  ze (zq (!y6) (zf (w64 (x.1+1),x.2)) (default:Int)) fun y7=>
  ze (zq (!(bif y6 then true else y7==45)) (zt (w64 (x.1+1),x.2)) (default:Bool)) fun y8=>
  some (bif bif y6 then true else y7==45 then true else y8)
def zL(x:za):Option (Str×za):=
 Zp (fun(s1:za×List UInt8)=>
   ze (zf (0,s1.1)) fun y2=>
   ze (Bu y2) fun y3=>
   bif y3 then
    ze (ZK (wu8 y2)) fun y4=>
    need (zP s1.2.length 1 1)<|
    some (LO.again ((⟨s1.1.s,w64 (s1.1.at_+1)⟩:za),s1.2++[y4]))
   else
    ze (zq (y2 != (-1)) (zt (0,s1.1)) (default:Bool)) fun y5=>
    bif bif y2 != (-1)then y5 else false then
     ze (zO (s1.1,s1.2)) fun y6=>
     some (LO.again (y6.1,y6.2))
    else
     some (LO.ret (s1.2,s1.1)):za×List UInt8->Option (LO (za×List UInt8) (Unit) _)) (x,[]) fun o7=>
 none
def Zv(x:za):Option Bool:=
 zV (X:=Int) (
   ze (zf (0,x)) fun y1=>
   bif bif y1==43 then true else y1==45 then
    some (LX.out 1)
   else
    some (LX.out 0)) fun j2=>
 zV (X:=Int) (
   ze (zf (j2,x)) fun y3=>
   bif y3==46 then
    some (LX.out (w64 (j2+1)))
   else
    some (LX.out j2)) fun j4=>
 ze (zf (j4,x)) fun y5=>
 ze (Zu y5) fun y6=>
 some y6
def zQ(x:za):Option za:=
 Zp (fun(s1:za)=>
   ze (zf (0,s1)) fun y2=>
   ze (Zu y2) fun y3=>
   bif y3 then
    some (LO.again (⟨s1.s,w64 (s1.at_+1)⟩:za))
   else
    some (LO.out s1):za->Option (LO (za) (za) _)) x fun o4=>
 some o4
def qc(x:za):Option (Bool×za):=
 zV (X:=za) (
   ze (zf (0,x)) fun y1=>
   bif bif y1==43 then true else y1==45 then
    some (LX.out (⟨x.s,w64 (x.at_+1)⟩:za))
   else
    some (LX.out x)) fun j2=>
 ze (zQ j2) fun y3=>
 zV (X:=Bool×za) (
   ze (zf (0,y3)) fun y4=>
   ze (zq (y4==46) (zf (1,y3)) (default:Int)) fun y5=>
   ze (zq (y4==46) (Zu y5) (default:Bool)) fun y6=>
   bif bif y4==46 then y6 else false then
    ze (zQ (⟨y3.s,w64 (y3.at_+1)⟩:za)) fun y7=>
    some (LX.out (false,y7))
   else
    some (LX.out (true,y3))) fun j8=>
 zV (X:=Bool×za) (
   ze (zf (0,j8.2)) fun y9=>
   ze (zq (!(y9==101)) (zf (0,j8.2)) (default:Int)) fun y10=>
   bif bif y9==101 then true else y10==69 then
    zV (X:=(Bool×Int)×za) (
      ze (zf (1,j8.2)) fun y11=>
      bif bif y11==43 then true else y11==45 then
       some (LX.out ((j8.1,2),j8.2))
      else
       some (LX.out ((j8.1,1),j8.2))) fun j12=>
    ze (zf (j12.1.2,j12.2)) fun y13=>
    ze (Zu y13) fun y14=>
    bif y14 then
     ze (zQ (⟨j12.2.s,w64 (j12.2.at_+j12.1.2)⟩:za)) fun y15=>
     some (LX.out (false,y15))
    else
     some (LX.out (j12.1.1,j12.2))
   else
    some (LX.out (j8.1,j8.2))) fun j16=>
 some (j16.1,j16.2)
def Z0(x:Str):Option Int:=
 ze (geti x 0) fun y1=>
 ze (Oj (x,[43,45])) fun y2=>
 zV (X:=Str×Int) (
   ze (QS (y2,[101,69])) fun y3=>
   bif decide (y3>=0)then
    need (decide (0<=w64 (y3+1))&&decide (w64 (y3+1)<=(y2.length:Int)))<|
    ze (Oj (List.drop (w64 (y3+1)).toNat y2,[43,45])) fun y4=>
    need (decide (y4.length<=maxLen))<|
    Zp (fun(s5:Int×Int)=>
      bif decide (s5.2<(y4.length:Int))then
       need (decide (0<=s5.2)&&decide (s5.2<(y4.length:Int)))<|
       ze y4[s5.2.toNat]? fun y6=>
       some (LO.again (if 1048576<w64 (w64 (10*s5.1)+w64 (wu8 ((y6.toNat:Int) - 48)))then 1048576 else w64 (w64 (10*s5.1)+w64 (wu8 ((y6.toNat:Int) - 48))),w64 (s5.2+1)))
      else
       some (LO.out s5.1):Int×Int->Option (LO (Int×Int) (Int) _)) (0,0) fun o7=>
    zV (X:=Str×Int×Int) (
      ze (geti y2 (w64 (y3+1))) fun y8=>
      bif (y8.toNat:Int)==45 then
       some (LX.out (y2,3,w64 (0 - o7)))
      else
       some (LX.out (y2,3,o7))) fun j9=>
    need (decide (0<=y3)&&decide (y3<=(j9.1.length:Int)))<|
    some (LX.out (List.take y3.toNat j9.1,w64 (j9.2.1+j9.2.2)))
   else
    some (LX.out (y2,3))) fun j10=>
 ze (cutF (j10.1,[46])) fun y11=>
 need (Zw y11.1.length y11.2.1.length)<|
 zV (X:=Str×Int) (
   bif decide (w64 (j10.2 - (y11.2.1.length:Int))<0)then
    need (decide (0<=(if w64 (((y11.1++y11.2.1).length:Int)+w64 (j10.2 - (y11.2.1.length:Int)))>0 then w64 (((y11.1++y11.2.1).length:Int)+w64 (j10.2 - (y11.2.1.length:Int)))else 0))&&decide ((if w64 (((y11.1++y11.2.1).length:Int)+w64 (j10.2 - (y11.2.1.length:Int)))>0 then w64 (((y11.1++y11.2.1).length:Int)+w64 (j10.2 - (y11.2.1.length:Int)))else 0)<=((y11.1++y11.2.1).length:Int)))<|
    some (LX.out (List.take (if w64 (((y11.1++y11.2.1).length:Int)+w64 (j10.2 - (y11.2.1.length:Int)))>0 then w64 (((y11.1++y11.2.1).length:Int)+w64 (j10.2 - (y11.2.1.length:Int)))else 0).toNat (y11.1++y11.2.1),w64 (j10.2 - (y11.2.1.length:Int))))
   else
    some (LX.out (y11.1++y11.2.1,w64 (j10.2 - (y11.2.1.length:Int))))) fun j12=>
 need (decide (j12.1.length<=maxLen))<|
 Zp (fun(s13:Int×Int)=>
   bif decide (s13.2<(j12.1.length:Int))then
    need (decide (0<=s13.2)&&decide (s13.2<(j12.1.length:Int)))<|
    ze j12.1[s13.2.toNat]? fun y14=>
    some (LO.again (if 1000000000000<w64 (w64 (10*s13.1)+w64 (wu8 ((y14.toNat:Int) - 48)))then 1000000000000 else w64 (w64 (10*s13.1)+w64 (wu8 ((y14.toNat:Int) - 48))),w64 (s13.2+1)))
   else
    some (LO.out s13.1):Int×Int->Option (LO (Int×Int) (Int) _)) (0,0) fun o15=>
 Zp (fun(s16:Int×Int)=>
   bif bif bif decide (s16.1>0)then decide (s16.2>0)else false then decide (s16.2<1000000000000)else false then
    some (LO.again (w64 (s16.1 - 1),if 1000000000000<w64 (10*s16.2)then 1000000000000 else w64 (10*s16.2)))
   else
    some (LO.out s16.2):Int×Int->Option (LO (Int×Int) (Int) _)) (j12.2,o15) fun o17=>
 zV (X:=Int) (
   bif (y1.toNat:Int)==45 then
    some (LX.out (w64 (0 - o17)))
   else
    some (LX.out o17)) fun j18=>
 some j18
def ZI(x:za):Option (zb×za):=
 ze (qc x) fun y1=>
 need (decide (0<=x.at_)&&(decide (x.at_<=y1.2.at_)&&decide (y1.2.at_<=(y1.2.s.length:Int))))<|
 ze (Z0 (List.drop x.at_.toNat (List.take y1.2.at_.toNat y1.2.s))) fun y2=>
 zV (X:=za×zb×zb) (
   ze (zH (0,y1.2)) fun y3=>
   bif y3 then
    ze (zL y1.2) fun y4=>
    some (LX.out (y4.2,(⟨0,[],0,[],false⟩:zb),(⟨12,[],y2,y4.1,y1.1⟩:zb)))
   else
    ze (zf (0,y1.2)) fun y5=>
    bif y5==37 then
     some (LX.out ((⟨y1.2.s,w64 (y1.2.at_+1)⟩:za),(⟨0,[],0,[],false⟩:zb),(⟨11,[],y2,[],false⟩:zb)))
    else
     some (LX.out (y1.2,(⟨0,[],0,[],false⟩:zb),(⟨10,[],y2,[],y1.1⟩:zb)))) fun j6=>
 some (j6.2.2,j6.1)
def ZZ(x:za):Option (zb×za):=
 Zp (fun(s1:za×zb)=>
   ze (zf (0,s1.1)) fun y2=>
   bif y2==(-1)then
    some (LO.ret ((⟨8,[],0,[],false⟩:zb),s1.1))
   else
    ze (zt (0,s1.1)) fun y3=>
    bif y3 then
     ze (ZQ s1.1) fun y4=>
     some (LO.again (y4.1,s1.2))
    else
     ze (geti s1.1.s (w64 (w64 (s1.1.at_+1) - 1))) fun y5=>
     bif (y5.toNat:Int)==41 then
      some (LO.ret ((⟨8,[],0,[],false⟩:zb),(⟨s1.1.s,w64 (s1.1.at_+1)⟩:za)))
     else
      some (LO.again ((⟨s1.1.s,w64 (s1.1.at_+1)⟩:za),s1.2)):za×zb->Option (LO (za×zb) (Unit) _)) (x,(⟨0,[],0,[],false⟩:zb)) fun o6=>
 none
def Qn(x:za):Option (zb×za):=
 ze (zS x) fun y1=>
 Zp (fun(s2:za×zb×List UInt8)=>
   ze (zf (0,s2.1)) fun y3=>
   zV (X:=Int×za×zb×List UInt8) (
     ze (ql y3) fun y4=>
     bif y4 then
      ze (zS s2.1) fun y5=>
      ze (zf (0,y5)) fun y6=>
      bif bif y6 != 41 then y6 != (-1)else false then
       ze (ZZ y5) fun y7=>
       some (LX.ret (LO.ret (y7.1,y7.2)))
      else
       some (LX.out (y6,y5,s2.2.1,s2.2.2))
     else
      some (LX.out (y3,s2.1,s2.2.1,s2.2.2))) fun j8=>
   bif j8.1==(-1)then
    some (LO.ret ((⟨7,j8.2.2.2,0,[],false⟩:zb),j8.2.1))
   else
    bif j8.1==41 then
     some (LO.ret ((⟨7,j8.2.2.2,0,[],false⟩:zb),(⟨j8.2.1.s,w64 (j8.2.1.at_+1)⟩:za)))
    else
     ze (zq (!(bif bif bif bif j8.1==34 then true else j8.1==39 then true else j8.1==40 then true else decide (j8.1<=8)then true else j8.1==11)) (ZV (j8.1,14,31)) (default:Bool)) fun y9=>
     bif bif bif bif bif bif bif j8.1==34 then true else j8.1==39 then true else j8.1==40 then true else decide (j8.1<=8)then true else j8.1==11 then true else y9 then true else j8.1==127 then
      ze (ZZ j8.2.1) fun y10=>
      some (LO.ret (y10.1,y10.2))
     else
      bif j8.1 != 92 then
       ze (ZK (wu8 j8.1)) fun y11=>
       need (zP j8.2.2.2.length 1 1)<|
       some (LO.again ((⟨j8.2.1.s,w64 (j8.2.1.at_+1)⟩:za),j8.2.2.1,j8.2.2.2++[y11]))
      else
       ze (zt (0,j8.2.1)) fun y12=>
       bif y12 then
        ze (zO (j8.2.1,j8.2.2.2)) fun y13=>
        some (LO.again (y13.1,j8.2.2.1,y13.2))
       else
        ze (ZZ j8.2.1) fun y14=>
        some (LO.ret (y14.1,y14.2)):za×zb×List UInt8->Option (LO (za×zb×List UInt8) (Unit) _)) (y1,(⟨0,[],0,[],false⟩:zb),[]) fun o15=>
 none
def ZC(x:za):Option (zb×za):=
 ze (zL x) fun y1=>
 ze (zf (0,y1.2)) fun y2=>
 bif y2 != 40 then
  some ((⟨1,y1.1,0,[],false⟩:zb),y1.2)
 else
  zV (X:=za×zb) (
    ze (Gq (y1.1,[117,114,108])) fun y3=>
    bif y3 then
     ze (zS (⟨y1.2.s,w64 (y1.2.at_+1)⟩:za)) fun y4=>
     ze (zf (0,y4)) fun y5=>
     bif bif y5 != 34 then y5 != 39 else false then
      ze (Qn (⟨y1.2.s,w64 (y1.2.at_+1)⟩:za)) fun y6=>
      some (LX.ret (y6.1,y6.2))
     else
      some (LX.out ((⟨y1.2.s,w64 (y1.2.at_+1)⟩:za),(⟨0,[],0,[],false⟩:zb)))
    else
     some (LX.out ((⟨y1.2.s,w64 (y1.2.at_+1)⟩:za),(⟨0,[],0,[],false⟩:zb)))) fun j7=>
  some ((⟨2,y1.1,0,[],false⟩:zb),j7.1)
def qh(x:za):Option (zb×za):=
 ze (zf (0,x)) fun y1=>
 need (decide (0<=x.at_)&&decide (x.at_<=(x.s.length:Int)))<|
 ze (ql y1) fun y2=>
 bif y2 then
  ze (zS x) fun y3=>
  some ((⟨13,[],0,[],false⟩:zb),y3)
 else
  bif bif y1==34 then true else y1==39 then
   ze (qy x) fun y4=>
   some (y4.1,y4.2)
  else
   ze (zq (y1==35) (zf (1,x)) (default:Int)) fun y5=>
   ze (zq (y1==35) (Bu y5) (default:Bool)) fun y6=>
   ze (zq (!y6&&y1==35) (zt (1,x)) (default:Bool)) fun y7=>
   bif bif y1==35 then bif y6 then true else y7 else false then
    ze (zH (1,x)) fun y8=>
    ze (zL (⟨x.s,w64 (x.at_+1)⟩:za)) fun y9=>
    some ((⟨4,y9.1,0,[],y8⟩:zb),y9.2)
   else
    ze (Zv x) fun y10=>
    bif y10 then
     ze (ZI x) fun y11=>
     some (y11.1,y11.2)
    else
     ze (strings_HasPrefix (List.drop x.at_.toNat x.s,[45,45,62])) fun y12=>
     bif y12 then
      some ((⟨15,[],0,[],false⟩:zb),(⟨x.s,w64 (x.at_+3)⟩:za))
     else
      ze (strings_HasPrefix (List.drop x.at_.toNat x.s,[60,33,45,45])) fun y13=>
      bif y13 then
       some ((⟨14,[],0,[],false⟩:zb),(⟨x.s,w64 (x.at_+4)⟩:za))
      else
       ze (zq (y1==64) (zH (1,x)) (default:Bool)) fun y14=>
       bif bif y1==64 then y14 else false then
        ze (zL (⟨x.s,w64 (x.at_+1)⟩:za)) fun y15=>
        some ((⟨3,y15.1,0,[],false⟩:zb),y15.2)
       else
        ze (zH (0,x)) fun y16=>
        bif y16 then
         ze (ZC x) fun y17=>
         some (y17.1,y17.2)
        else
         ze (strings_IndexByte ([58,59,44,91,93,40,41,123,125],wu8 y1)) fun y18=>
         bif decide (y18>=0)then
          some ((⟨wu8 (16+wu8 y18),[],0,[],false⟩:zb),(⟨x.s,w64 (x.at_+1)⟩:za))
         else
          need (decide (1<=((List.drop x.at_.toNat x.s).length:Int)))<|
          some ((⟨9,List.take 1 (List.drop x.at_.toNat x.s),0,[],false⟩:zb),(⟨x.s,w64 (x.at_+1)⟩:za))
def QB(x:(zb×Int×Int)×List zb):Option (List zb):=
 need (zP x.2.length 1 56)<|
 some (x.2++[x.1.1])
def Sy(x:Str):Option (Int×List zb):=
 ze (Il x) fun y1=>
 bif y1.2 != 0 then
  some (y1.2,[])
 else
  ze (Zl (⟨y1.1,0⟩:za)) fun y2=>
  Zp (fun(s3:Int×List zb×za)=>
    bif decide (s3.2.2.at_<(y1.1.length:Int))then
     bif decide (w64 (s3.1+1)>1500)then
      some (LO.ret (4,s3.2.1))
     else
      ze (qh s3.2.2) fun y4=>
      ze (QB ((y4.1,s3.2.2.at_,y4.2.at_),s3.2.1)) fun y5=>
      ze (Zl y4.2) fun y6=>
      some (LO.again (w64 (s3.1+1),y5,y6))
    else
     some (LO.out (s3.2.1,s3.2.2)):Int×List zb×za->Option (LO (Int×List zb×za) (List zb×za) _)) (0,[],y2) fun o7=>
  some (0,o7.1)
def Ty(x:Str):Option (List zb×Int):=
 ze (Sy x) fun y1=>
 bif y1.1 != 0 then
  some ([],y1.1)
 else
  some (y1.2,0)
def qg(x:List zb×List zb):Option Bool:=
 bif (x.1.length:Int) != (x.2.length:Int)then
  some false
 else
  Zp (fun(s1:Int)=>
    bif decide (s1<(x.1.length:Int))then
     ze (geti x.1 s1) fun y2=>
     ze (geti x.2 s1) fun y3=>
     bif !(y2.kind==y3.kind&&(y2.text==y3.text&&(y2.num==y3.num&&(y2.unit==y3.unit&&(y2.flag==y3.flag&&true)))))then
      some (LO.ret false)
     else
      some (LO.again (w64 (s1+1)))
    else
     some (LO.out ()):Int->Option (LO (Int) (Unit) _)) 0 fun o4=>
  some true
def Yx(x:List zb):Option (Str×Int):=
 ze (Yp x) fun y1=>
 bif y1 != 0 then
  some ([],y1)
 else
  Zp (fun(s2:Int×List UInt8×List zA)=>
    bif decide (s2.1<(x.length:Int))then
     need (decide (0<=s2.1)&&decide (s2.1<=(x.length:Int)))<|
     ze (QH (List.drop s2.1.toNat x)) fun y3=>
     need (decide (0<=s2.1)&&(decide (s2.1<=w64 (s2.1+y3))&&decide (w64 (s2.1+y3)<=(x.length:Int))))<|
     Zp (fun(s4:Int×List UInt8)=>
       bif decide (s4.1<((List.drop s2.1.toNat (List.take (w64 (s2.1+y3)).toNat x)).length:Int))then
        ze (geti (List.drop s2.1.toNat (List.take (w64 (s2.1+y3)).toNat x)) s4.1) fun y5=>
        ze (QR (y5,s4.2)) fun y6=>
        some (LO.again (w64 (s4.1+1),y6))
       else
        some (LO.out s4.2):Int×List UInt8->Option (LO (Int×List UInt8) (List UInt8) _)) (0,[]) fun o7=>
     zV (X:=Int×List UInt8×List zA×List UInt8) (
       ze (geti x s2.1) fun y8=>
       bif bif y8.kind==9 then y3==2 else false then
        some (LX.out (s2.1,s2.2.1,s2.2.2,[(92:UInt8),(10:UInt8)]))
       else
        some (LX.out (s2.1,s2.2.1,s2.2.2,o7))) fun j9=>
     zV (X:=Int×List UInt8×List zA×zA) (
       bif decide (w64 ((j9.2.2.1.length:Int) - 4)>=0)then
        need (decide (0<=w64 ((j9.2.2.1.length:Int) - 4))&&decide (w64 ((j9.2.2.1.length:Int) - 4)<(j9.2.2.1.length:Int)))<|
        ze (j9.2.2.1[(w64 ((j9.2.2.1.length:Int) - 4)).toNat]?) fun y10=>
        some (LX.out (j9.1,j9.2.1,j9.2.2.1,y10))
       else
        some (LX.out (j9.1,j9.2.1,j9.2.2.1,(⟨0,0⟩:zA)))) fun j11=>
     need (decide (0<=j11.2.2.2.at_)&&decide (j11.2.2.2.at_<=(j11.2.1.length:Int)))<|
     need (decide (j11.2.2.2.at_.toNat+(j11.2.1.length - j11.2.2.2.at_.toNat)<=j11.2.1.length))<|
     need (Zw (List.take (j11.2.1.length - j11.2.2.2.at_.toNat) (List.drop j11.2.2.2.at_.toNat j11.2.1)).length j9.2.2.2.length)<|
     ze (Ty (List.take (j11.2.1.length - j11.2.2.2.at_.toNat) (List.drop j11.2.2.2.at_.toNat j11.2.1)++j9.2.2.2)) fun y12=>
     zV (X:=Int×List zA×List UInt8) (
       need (decide (0<=j11.2.2.2.token)&&(decide (j11.2.2.2.token<=w64 (j11.1+y3))&&decide (w64 (j11.1+y3)<=(x.length:Int)))|| !(!(y12.2 != 0)))<|
       ze (zq (!(y12.2 != 0)) (qg (y12.1,List.drop j11.2.2.2.token.toNat (List.take (w64 (j11.1+y3)).toNat x))) (default:Bool)) fun y13=>
       bif bif y12.2 != 0 then true else !y13 then
        need (zP j11.2.1.length ([47,42,42,47]:Str).length 1)<|
        some (LX.out (j11.1,j11.2.2.1,j11.2.1++([47,42,42,47]:Str)))
       else
        some (LX.out (j11.1,j11.2.2.1,j11.2.1))) fun j14=>
     need (zP j14.2.1.length 1 16)<|
     need (zP j14.2.2.length j9.2.2.2.length 1)<|
     bif decide (((j14.2.2++j9.2.2.2).length:Int)>4000)then
      some (LO.ret ([],28))
     else
      some (LO.again (w64 (j14.1+y3),j14.2.2++j9.2.2.2,j14.2.1++[(⟨j14.1,(j14.2.2.length:Int)⟩:zA)]))
    else
     some (LO.out s2.2.1):Int×List UInt8×List zA->Option (LO (Int×List UInt8×List zA) (List UInt8) _)) (0,[],[]) fun o15=>
  some (o15,0)
def Hy(x:List zb×List zb):Option Bool:=
 bif (x.1.length:Int) != (x.2.length:Int)then
  some false
 else
  Zp (fun(s1:Int)=>
    bif decide (s1<(x.1.length:Int))then
     ze (geti x.1 s1) fun y2=>
     ze (geti x.2 s1) fun y3=>
     bif !(y2.kind==y3.kind&&(y2.text==y3.text&&(y2.num==y3.num&&(y2.unit==y3.unit&&(y2.flag==y3.flag&&true)))))then
      some (LO.ret false)
     else
      some (LO.again (w64 (s1+1)))
    else
     some (LO.out ()):Int->Option (LO (Int) (Unit) _)) 0 fun o4=>
  some true
def ow(x:zb):Option (Str×Int):=
 ze (Pp x) fun y1=>
 bif !y1 then
  some ([],8)
 else
  ze (Oy x) fun y2=>
  some (y2,0)
def Lx(x:Str):Option (Str×Int):=
 ze (zq (!(x==[])) (strings_IndexByte (x,0)) (default:Int)) fun y1=>
 bif bif x==[]then true else decide (y1>=0)then
  some ([],8)
 else
  ze (ZF x) fun y2=>
  ze (qY (x,y2)) fun y3=>
  bif bif decide ((x.length:Int)>4000)then true else decide ((y3.length:Int)>4000)then
   some ([],28)
  else
   some (y3,0)
def qD(x:Int):Option Str:=
 ze (ZP x) fun y1=>
 ze (zq (bif decide (x>=33)then decide (x<=126)else false) (zB x) (default:Bool)) fun y2=>
 bif bif bif bif decide (x>=33)then decide (x<=126)else false then !y2 else false then bif decide (y1<97)then true else decide (y1>122)else false then
  ze (ZK x) fun y3=>
  some [(92:UInt8),y3]
 else
  need (decide (0<=Int.tmod x 16)&&(decide (Int.tmod x 16<=wu8 (Int.tmod x 16+1))&&decide (wu8 (Int.tmod x 16+1)<=16)))<|
  zV (X:=Str) (
    bif decide (x>=16)then
     need (decide (0<=wu8 (Int.tdiv x 16))&&(decide (wu8 (Int.tdiv x 16)<=wu8 (wu8 (Int.tdiv x 16)+1))&&decide (wu8 (wu8 (Int.tdiv x 16)+1)<=16)))<|
     need (Zw (List.drop (wu8 (Int.tdiv x 16)).toNat (List.take (wu8 (wu8 (Int.tdiv x 16)+1)).toNat ([48,49,50,51,52,53,54,55,56,57,97,98,99,100,101,102]:Str))).length (List.drop (Int.tmod x 16).toNat (List.take (wu8 (Int.tmod x 16+1)).toNat ([48,49,50,51,52,53,54,55,56,57,97,98,99,100,101,102]:Str))).length)<|
     some (LX.out (List.drop (wu8 (Int.tdiv x 16)).toNat (List.take (wu8 (wu8 (Int.tdiv x 16)+1)).toNat ([48,49,50,51,52,53,54,55,56,57,97,98,99,100,101,102]:Str))++List.drop (Int.tmod x 16).toNat (List.take (wu8 (Int.tmod x 16+1)).toNat ([48,49,50,51,52,53,54,55,56,57,97,98,99,100,101,102]:Str))))
    else
     some (LX.out (List.drop (Int.tmod x 16).toNat (List.take (wu8 (Int.tmod x 16+1)).toNat ([48,49,50,51,52,53,54,55,56,57,97,98,99,100,101,102]:Str))))) fun j4=>
  need (Zw ([92]:Str).length j4.length)<|
  need (Zw (([92]:Str)++j4).length ([32]:Str).length)<|
  some (([92]:Str)++j4++([32]:Str))
def ZB(x:Str×Bool):Option Str:=
 Zp (fun(s1:Str×Int)=>
   bif decide (s1.2<(x.1.length:Int))then
    zV (X:=Str×Int) (
      ze (geti x.1 s1.2) fun y2=>
      ze (zq (s1.2==1&& !(s1.2==0)) (geti x.1 0) 0) fun y3=>
      ze (ZH (y2.toNat:Int)) fun y4=>
      zV (X:=Str×Bool) (
        ze (zq (!x.2) (zB (y2.toNat:Int)) (default:Bool)) fun y5=>
        bif bif !x.2 then bif bif y5 then bif s1.2==0 then true else bif s1.2==1 then(y3.toNat:Int)==45 else false else false then true else x.1==[45]else false then
         some (LX.out (s1.1,false))
        else
         some (LX.out (s1.1,y4))) fun j6=>
      bif j6.2 then
       need (decide (0<=s1.2)&&(decide (s1.2<=w64 (s1.2+1))&&decide (w64 (s1.2+1)<=(x.1.length:Int))))<|
       need (Zw j6.1.length (List.drop s1.2.toNat (List.take (w64 (s1.2+1)).toNat x.1)).length)<|
       some (LX.out (j6.1++List.drop s1.2.toNat (List.take (w64 (s1.2+1)).toNat x.1),s1.2))
      else
       ze (qD (y2.toNat:Int)) fun y7=>
       need (Zw j6.1.length y7.length)<|
       some (LX.out (j6.1++y7,s1.2))) fun j8=>
    some (LO.again (j8.1,w64 (j8.2+1)))
   else
    some (LO.out s1.1):Str×Int->Option (LO (Str×Int) (Str) _)) ([],0) fun o9=>
 some o9
def Cu(x:Str×Bool):Option Str:=
 Zp (fun(s1:Str×Int)=>
   bif decide (s1.2<(x.1.length:Int))then
    zV (X:=Str×Int) (
      ze (geti x.1 s1.2) fun y2=>
      zV (X:=Str×Bool) (
        bif x.2 then
         some (LX.out (s1.1,bif bif bif bif bif bif bif bif bif (y2.toNat:Int)==10 then true else(y2.toNat:Int)==12 then true else(y2.toNat:Int)==13 then true else(y2.toNat:Int)==34 then true else(y2.toNat:Int)==92 then true else decide ((y2.toNat:Int)<=32)then true else(y2.toNat:Int)==127 then true else(y2.toNat:Int)==39 then true else(y2.toNat:Int)==40 then true else(y2.toNat:Int)==41))
        else
         some (LX.out (s1.1,bif bif bif bif (y2.toNat:Int)==10 then true else(y2.toNat:Int)==12 then true else(y2.toNat:Int)==13 then true else(y2.toNat:Int)==34 then true else(y2.toNat:Int)==92))) fun j3=>
      bif j3.2 then
       ze (qD (y2.toNat:Int)) fun y4=>
       need (Zw j3.1.length y4.length)<|
       some (LX.out (j3.1++y4,s1.2))
      else
       need (decide (0<=s1.2)&&(decide (s1.2<=w64 (s1.2+1))&&decide (w64 (s1.2+1)<=(x.1.length:Int))))<|
       need (Zw j3.1.length (List.drop s1.2.toNat (List.take (w64 (s1.2+1)).toNat x.1)).length)<|
       some (LX.out (j3.1++List.drop s1.2.toNat (List.take (w64 (s1.2+1)).toNat x.1),s1.2))) fun j5=>
    some (LO.again (j5.1,w64 (j5.2+1)))
   else
    some (LO.out s1.1):Str×Int->Option (LO (Str×Int) (Str) _)) ([],0) fun o6=>
 some o6
def RD(qb:Int->Option Str)(x:Int):Option Str:=
 bif decide (x<10)then
  need (decide (0<=x)&&(decide (x<=w64 (x+1))&&decide (w64 (x+1)<=16)))<|
  some (List.drop x.toNat (List.take (w64 (x+1)).toNat ([48,49,50,51,52,53,54,55,56,57,97,98,99,100,101,102]:Str)))
 else
  ze (qb (w64 (Int.tdiv x 10))) fun y1=>
  need (decide (0<=Int.tmod x 10)&&(decide (Int.tmod x 10<=w64 (Int.tmod x 10+1))&&decide (w64 (Int.tmod x 10+1)<=16)))<|
  need (Zw y1.length (List.drop (Int.tmod x 10).toNat (List.take (w64 (Int.tmod x 10+1)).toNat ([48,49,50,51,52,53,54,55,56,57,97,98,99,100,101,102]:Str))).length)<|
  some (y1++List.drop (Int.tmod x 10).toNat (List.take (w64 (Int.tmod x 10+1)).toNat ([48,49,50,51,52,53,54,55,56,57,97,98,99,100,101,102]:Str)))
def qb:Int->Option Str:=recE (RD)
def PD(ZU:Int×Bool->Option Str)(x:Int×Bool):Option Str:=
 bif decide (x.1<0)then
  ze (ZU (w64 (0 - x.1),x.2)) fun y1=>
  need (Zw ([45]:Str).length y1.length)<|
  some (([45]:Str)++y1)
 else
  ze (qb (w64 (Int.tdiv x.1 1000))) fun y2=>
  bif Int.tmod x.1 1000==0 then
   bif x.2 then
    need (Zw y2.length ([46,48]:Str).length)<|
    some (y2++([46,48]:Str))
   else
    some y2
  else
   ze (qb (w64 (Int.tmod x.1 1000+1000))) fun y3=>
   need (decide (1<=(y3.length:Int)))<|
   Zp (fun(s4:Str)=>
     ze (geti s4 (w64 ((s4.length:Int) - 1))) fun y5=>
     bif (y5.toNat:Int)==48 then
      need (decide (0<=w64 ((s4.length:Int) - 1))&&decide (w64 ((s4.length:Int) - 1)<=(s4.length:Int)))<|
      some (LO.again (List.take (w64 ((s4.length:Int) - 1)).toNat s4))
     else
      some (LO.out s4):Str->Option (LO (Str) (Str) _)) (List.drop 1 y3) fun o6=>
   need (Zw y2.length ([46]:Str).length)<|
   need (Zw (y2++([46]:Str)).length o6.length)<|
   some (y2++([46]:Str)++o6)
def ZU:Int×Bool->Option Str:=recE (PD)
def Ay(x:Str):Option Str:=
 ze (geti x 0) fun y1=>
 ze (ZP (y1.toNat:Int)) fun y2=>
 ze (zq (y2==101) (zD (x,1)) (default:Int)) fun y3=>
 ze (zq (y2==101) (zB y3) (default:Bool)) fun y4=>
 ze (zq (!y4&&y2==101) (zD (x,1)) (default:Int)) fun y5=>
 ze (zq (y5==45&&(!y4&&y2==101)) (zD (x,2)) (default:Int)) fun y6=>
 ze (zq (y5==45&&(!y4&&y2==101)) (zB y6) (default:Bool)) fun y7=>
 bif bif y2==101 then bif y4 then true else bif y5==45 then y7 else false else false then
  ze (geti x 0) fun y8=>
  ze (qD (y8.toNat:Int)) fun y9=>
  Zp (fun(s10:Str×Int)=>
    bif decide (s10.2<(x.length:Int))then
     zV (X:=Str×Int) (
       ze (geti x s10.2) fun y11=>
       ze (ZH (y11.toNat:Int)) fun y12=>
       bif y12 then
        need (decide (0<=s10.2)&&(decide (s10.2<=w64 (s10.2+1))&&decide (w64 (s10.2+1)<=(x.length:Int))))<|
        need (Zw s10.1.length (List.drop s10.2.toNat (List.take (w64 (s10.2+1)).toNat x)).length)<|
        some (LX.out (s10.1++List.drop s10.2.toNat (List.take (w64 (s10.2+1)).toNat x),s10.2))
       else
        ze (geti x s10.2) fun y13=>
        ze (qD (y13.toNat:Int)) fun y14=>
        need (Zw s10.1.length y14.length)<|
        some (LX.out (s10.1++y14,s10.2))) fun j15=>
     some (LO.again (j15.1,w64 (j15.2+1)))
    else
     some (LO.out s10.1):Str×Int->Option (LO (Str×Int) (Str) _)) (y9,1) fun o16=>
  some o16
 else
  ze (ZB (x,false)) fun y17=>
  some y17
def Q6(x:zb):Option Str:=
 bif x.kind==1 then
  ze (ZB (x.text,false)) fun y1=>
  some y1
 else
  bif x.kind==2 then
   ze (ZB (x.text,false)) fun y2=>
   need (Zw y2.length ([40]:Str).length)<|
   some (y2++([40]:Str))
  else
   bif x.kind==3 then
    ze (ZB (x.text,false)) fun y3=>
    need (Zw ([64]:Str).length y3.length)<|
    some (([64]:Str)++y3)
   else
    bif x.kind==4 then
     ze (ZB (x.text, !x.flag)) fun y4=>
     need (Zw ([35]:Str).length y4.length)<|
     some (([35]:Str)++y4)
    else
     bif x.kind==5 then
      ze (Cu (x.text,false)) fun y5=>
      need (Zw ([34]:Str).length y5.length)<|
      need (Zw (([34]:Str)++y5).length ([34]:Str).length)<|
      some (([34]:Str)++y5++([34]:Str))
     else
      bif x.kind==7 then
       ze (Cu (x.text,true)) fun y6=>
       need (Zw ([117,114,108,40]:Str).length y6.length)<|
       need (Zw (([117,114,108,40]:Str)++y6).length ([41]:Str).length)<|
       some (([117,114,108,40]:Str)++y6++([41]:Str))
      else
       bif x.kind==9 then
        some x.text
       else
        bif x.kind==10 then
         ze (ZU (x.num, !x.flag)) fun y7=>
         some y7
        else
         bif x.kind==11 then
          ze (ZU (x.num,false)) fun y8=>
          need (Zw y8.length ([37]:Str).length)<|
          some (y8++([37]:Str))
         else
          bif x.kind==12 then
           ze (ZU (x.num, !x.flag)) fun y9=>
           ze (Ay x.unit) fun y10=>
           need (Zw y9.length y10.length)<|
           some (y9++y10)
          else
           ze (geti [[32],[60,33,45,45],[45,45,62],[58],[59],[44],[91],[93],[40],[41],[123],[125]] (wu8 (x.kind - 13))) fun y11=>
           some y11
def Jy(x:List zb):Option (Int×Str):=
 ze (geti x 0) fun y1=>
 bif bif y1.kind==9 then y1.text==[92]else false then
  some (2,[92,10])
 else
  ze (zq (y1.kind==2) (qI (y1.text,[117,114,108])) (default:Bool)) fun y2=>
  bif bif y1.kind==2 then y2 else false then
   ze (Q6 y1) fun y3=>
   Zp (fun(s4:Int×Str)=>
     ze (geti x (w64 (s4.1 - 1))) fun y5=>
     bif y5.kind != 5 then
      ze (geti x s4.1) fun y6=>
      ze (Q6 y6) fun y7=>
      need (Zw s4.2.length y7.length)<|
      some (LO.again (w64 (s4.1+1),s4.2++y7))
     else
      some (LO.out (s4.1,s4.2)):Int×Str->Option (LO (Int×Str) (Int×Str) _)) (1,y3) fun o8=>
   some (o8.1,o8.2)
  else
   ze (Q6 y1) fun y9=>
   some (1,y9)
def Bq(x:Str×Int):Option Int:=
 Zp (fun(s1:Int)=>
   ze (Uk (x.1,s1,[47,42])) fun y2=>
   bif y2 then
    Zp (fun(s3:Int)=>
      ze (zq (decide (s3<(x.1.length:Int))) (Uk (x.1,s3,[42,47])) (default:Bool)) fun y4=>
      bif bif decide (s3<(x.1.length:Int))then !y4 else false then
       some (LO.again (w64 (s3+1)))
      else
       some (LO.out s3):Int->Option (LO (Int) (Int) _)) (w64 (s1+2)) fun o5=>
    some (LO.again (if w64 (o5+2)<(x.1.length:Int)then w64 (o5+2)else(x.1.length:Int)))
   else
    some (LO.out s1):Int->Option (LO (Int) (Int) _)) x.2 fun o6=>
 some o6
def Wx(x:Str):Option (List zb×List Ze):=
 ze (Bq (x,0)) fun y1=>
 Zp (fun(s2:Int×List zb×List Ze)=>
   bif decide (s2.1<(x.length:Int))then
    ze (Yl (x,s2.1)) fun y3=>
    need (zP s2.2.1.length 1 56)<|
    need (zP s2.2.2.length 1 16)<|
    ze (Bq (x,y3.2)) fun y4=>
    some (LO.again (y4,s2.2.1++[y3.1],s2.2.2++[(⟨s2.1,y3.2⟩:Ze)]))
   else
    some (LO.out (s2.2.1,s2.2.2)):Int×List zb×List Ze->Option (LO (Int×List zb×List Ze) (List zb×List Ze) _)) (y1,[],[]) fun o5=>
 some (o5.1,o5.2)
def Py(x:List zb):Option Str:=
 Zp (fun(s1:Str×Int)=>
   bif decide (s1.2<(x.length:Int))then
    need (decide (0<=s1.2)&&decide (s1.2<=(x.length:Int)))<|
    ze (Jy (List.drop s1.2.toNat x)) fun y2=>
    zV (X:=Str×Int) (
      need (Zw s1.1.length y2.2.length)<|
      ze (Wx (s1.1++y2.2)) fun y3=>
      need (decide (0<=w64 (s1.2+y2.1))&&decide (w64 (s1.2+y2.1)<=(x.length:Int)))<|
      ze (Hy (y3.1,List.take (w64 (s1.2+y2.1)).toNat x)) fun y4=>
      bif !y4 then
       need (Zw s1.1.length ([47,42,42,47]:Str).length)<|
       some (LX.out (s1.1++([47,42,42,47]:Str),s1.2))
      else
       some (LX.out (s1.1,s1.2))) fun j5=>
    need (Zw j5.1.length y2.2.length)<|
    some (LO.again (j5.1++y2.2,w64 (j5.2+y2.1)))
   else
    some (LO.out s1.1):Str×Int->Option (LO (Str×Int) (Str) _)) ([],0) fun o6=>
 some o6
def Ky(x:List zb):Option (Str×Int):=
 ze (Fq x) fun y1=>
 bif y1 != 0 then
  some ([],y1)
 else
  ze (Py x) fun y2=>
  bif decide ((y2.length:Int)>4000)then
   some ([],28)
  else
   some (y2,0)
def Ux(x:zb):Option (Str×Int):=
 ze (gp x) fun y1=>
 bif !y1 then
  some ([],8)
 else
  ze (Q6 x) fun y2=>
  some (y2,0)
def Cy(x:Str):Option (Str×Int):=
 ze (zq (!(x==[])) (Qc x) (default:Bool)) fun y1=>
 bif bif x==[]then true else !y1 then
  some ([],8)
 else
  ze (zq (!(decide ((x.length:Int)>4000))) (ZB (x,false)) (default:Str)) fun y2=>
  bif bif decide ((x.length:Int)>4000)then true else decide ((y2.length:Int)>4000)then
   some ([],28)
  else
   ze (ZB (x,false)) fun y3=>
   some (y3,0)
def Vy(x:List zb×List zb):Option Bool:=
 bif (x.1.length:Int) != (x.2.length:Int)then
  some false
 else
  Zp (fun(s1:Int)=>
    bif decide (s1<(x.1.length:Int))then
     ze (geti x.1 s1) fun y2=>
     need (decide (0<=s1)&&decide (s1<(x.2.length:Int)))<|
     ze x.2[s1.toNat]? fun y3=>
     bif !(y2.kind==y3.kind&&(y2.text==y3.text&&(y2.num==y3.num&&(y2.unit==y3.unit&&(y2.flag==y3.flag&&true)))))then
      some (LO.ret false)
     else
      some (LO.again (w64 (s1+1)))
    else
     some (LO.out ()):Int->Option (LO (Int) (Unit) _)) 0 fun o4=>
  some true
def bD(x:List zb×zb×Str):Option Bool:=
 ze (Ny x.1) fun y1=>
 bif bif bif bif y1 then true else decide (w64 ((x.2.1.text.length:Int)+(x.2.1.unit.length:Int))>500)then true else bif decide ((x.2.2.length:Int)>500)then decide ((x.2.2.length:Int)<=4000)else false then true else decide ((x.2.2.length:Int)>4100)then
  some true
 else
  need (zP 0 x.1.length 56)<|
  ze (Yx x.1) fun y2=>
  ze (Ky x.1) fun y3=>
  ze (ow x.2.1) fun y4=>
  ze (Ux x.2.1) fun y5=>
  ze (Lx x.2.2) fun y6=>
  ze (Cy x.2.2) fun y7=>
  ze (Yp x.1) fun y8=>
  ze (Fq x.1) fun y9=>
  ze (zq (bif bif bif bif bif bif y8==y9 then y2.1==y3.1 else false then y2.2==y3.2 else false then y4.1==y5.1 else false then y4.2==y5.2 else false then y6.1==y7.1 else false then y6.2==y7.2 else false) (Vy (x.1,x.1)) (default:Bool)) fun y10=>
  some (bif bif bif bif bif bif bif y8==y9 then y2.1==y3.1 else false then y2.2==y3.2 else false then y4.1==y5.1 else false then y4.2==y5.2 else false then y6.1==y7.1 else false then y6.2==y7.2 else false then y10 else false)
end Go.Lv.VT
end
