/- Texts. -/
import Derived.Test.YtpcfcdmidhbkmaaGreatDoorTy
import Derived.Test.YtpcfcdmidhbkmaaGreatDoorLf
noncomputable section
set_option linter.unusedSimpArgs false
set_option linter.unusedVariables false
namespace Go.Lv.VT
set_option maxRecDepth 100000
def vz(x:List zb):Option Bool:=
 bif bif bif decide ((x.length:Int)>100)then decide ((x.length:Int)<=1500)else false then true else decide ((x.length:Int)>1510)then
  some true
 else
  ZP (fun(s1:Int×Int)=>
    bif decide (s1.2<(x.length:Int))then
     ze (geti x s1.2) fun y2=>
     ze (geti x s1.2) fun y3=>
     bif decide (w64 (s1.1+w64 ((y2.text.length:Int)+(y3.unit.length:Int)))>1000)then
      some (LO.ret true)
     else
      some (LO.again (w64 (s1.1+w64 ((y2.text.length:Int)+(y3.unit.length:Int))),w64 (s1.2+1)))
    else
     some (LO.out ()):Int×Int->Option (LO (Int×Int) (Unit) _)) (0,0) fun o4=>
  some false
def wm(x:Str):Option Bool:=
 ZP (fun(s1:Int)=>
   bif decide (s1<(x.length:Int))then
    ze (geti x s1) fun y2=>
    bif (y2.toNat:Int)==0 then
     some (LO.ret false)
    else
     some (LO.again (w64 (s1+1)))
   else
    some (LO.out ()):Int->Option (LO (Int) (Unit) _)) 0 fun o3=>
 some true
def Zd(x:Int):Option Bool:=
 some (bif decide (x>=48)then decide (x<=57)else false)
def dz(x:Str):Option Bool:=
 bif x==[]then
  some false
 else
  ze (geti x 0) fun y1=>
  ze (Zd (y1.toNat:Int)) fun y2=>
  ze (zu (!(bif y2 then true else x==[45])) (geti x 0) 0) fun y3=>
  ze (zu ((y3.toNat:Int)==45&& !(bif y2 then true else x==[45])) (geti x 1) 0) fun y4=>
  ze (zu ((y3.toNat:Int)==45&& !(bif y2 then true else x==[45])) (Zd (y4.toNat:Int)) (default:Bool)) fun y5=>
  some (bif bif y2 then true else x==[45]then true else bif (y3.toNat:Int)==45 then y5 else false)
def qY(x:Int):Option Bool:=
 some (bif bif x==10 then true else x==9 then true else x==32)
def zQ(x:Str×Int):Option Int:=
 bif decide (x.2<(x.1.length:Int))then
  ze (geti x.1 x.2) fun y1=>
  some (y1.toNat:Int)
 else
  some 0
def QB(x:Str×Int):Option Int:=
 ZP (fun(s1:Int)=>
   ze (zQ (x.1,s1)) fun y2=>
   ze (qY y2) fun y3=>
   bif y3 then
    some (LO.again (w64 (s1+1)))
   else
    some (LO.out s1):Int->Option (LO (Int) (Int) _)) x.2 fun o4=>
 some o4
def kz(x:Unit):Option Str:=
 some [(239:UInt8),(191:UInt8),(189:UInt8)]
def Dn(x:Int):Option Int:=
 bif bif decide (x>=65)then decide (x<=90)else false then
  some (wu8 (wu8 (x - 65)+97))
 else
  some x
def lm(x:Int):Option Int:=
 ze (Zd x) fun y1=>
 bif y1 then
  some (w64 (wu8 (x - 48)))
 else
  ze (Dn x) fun y2=>
  bif bif decide (y2>=97)then decide (y2<=102)else false then
   some (w64 (w64 (wu8 (y2 - 97))+10))
  else
   some (-1)
def pF(x:Int):Option Str:=
 bif bif bif x==0 then true else bif decide (x>=55296)then decide (x<=57343)else false then true else decide (x>1114111)then
  ze (kz ()) fun y1=>
  some y1
 else
  bif decide (x<128)then
   ze (Zq (wu8 x)) fun y2=>
   some [y2]
  else
   bif decide (x<2048)then
    ze (Zq (wu8 (w64 (192+w64 (Int.tdiv x 64))))) fun y3=>
    ze (Zq (wu8 (w64 (128+Int.tmod x 64)))) fun y4=>
    some [y3,y4]
   else
    bif decide (x<65536)then
     ze (Zq (wu8 (w64 (224+w64 (Int.tdiv x 4096))))) fun y5=>
     ze (Zq (wu8 (w64 (128+Int.tmod (w64 (Int.tdiv x 64)) 64)))) fun y6=>
     ze (Zq (wu8 (w64 (128+Int.tmod x 64)))) fun y7=>
     some [y5,y6,y7]
    else
     ze (Zq (wu8 (w64 (240+w64 (Int.tdiv x 262144))))) fun y8=>
     ze (Zq (wu8 (w64 (128+Int.tmod (w64 (Int.tdiv x 4096)) 64)))) fun y9=>
     ze (Zq (wu8 (w64 (128+Int.tmod (w64 (Int.tdiv x 64)) 64)))) fun y10=>
     ze (Zq (wu8 (w64 (128+Int.tmod x 64)))) fun y11=>
     some [y8,y9,y10,y11]
def qX(x:Str×Int):Option (Str×Int):=
 bif decide (w64 (x.2+1)>=(x.1.length:Int))then
  ze (kz ()) fun y1=>
  some (y1,w64 (x.2+1))
 else
  ze (geti x.1 (w64 (x.2+1))) fun y2=>
  ze (lm (y2.toNat:Int)) fun y3=>
  bif decide (y3<0)then
   need (decide (0<=w64 (x.2+1))&&(decide (w64 (x.2+1)<=w64 (w64 (x.2+1)+1))&&decide (w64 (w64 (x.2+1)+1)<=(x.1.length:Int))))<|
   some (List.drop (w64 (x.2+1)).toNat (List.take (w64 (w64 (x.2+1)+1)).toNat x.1),w64 (w64 (x.2+1)+1))
  else
   ZP (fun(s4:Int×Int)=>
     ze (zu (bif decide (s4.2<(x.1.length:Int))then decide (s4.2<w64 (w64 (x.2+1)+6))else false) (geti x.1 s4.2) 0) fun y5=>
     ze (zu (bif decide (s4.2<(x.1.length:Int))then decide (s4.2<w64 (w64 (x.2+1)+6))else false) (lm (y5.toNat:Int)) (default:Int)) fun y6=>
     bif bif bif decide (s4.2<(x.1.length:Int))then decide (s4.2<w64 (w64 (x.2+1)+6))else false then decide (y6>=0)else false then
      ze (geti x.1 s4.2) fun y7=>
      ze (lm (y7.toNat:Int)) fun y8=>
      some (LO.again (w64 (w64 (16*s4.1)+y8),w64 (s4.2+1)))
     else
      some (LO.out (s4.1,s4.2)):Int×Int->Option (LO (Int×Int) (Int×Int) _)) (0,w64 (x.2+1)) fun o9=>
   zN (X:=Int) (
     ze (zQ (x.1,o9.2)) fun y10=>
     ze (qY y10) fun y11=>
     bif y11 then
      some (LX.out (w64 (o9.2+1)))
     else
      some (LX.out o9.2)) fun j12=>
   ze (pF o9.1) fun y13=>
   some (y13,j12)
def TA(x:Str×Int):Option (zb×Int):=
 ze (geti x.1 x.2) fun y1=>
 ZP (fun(s2:Int×zb×zb)=>
   bif decide (s2.1<(x.1.length:Int))then
    ze (geti x.1 s2.1) fun y3=>
    bif (y3.toNat:Int)==(y1.toNat:Int)then
     some (LO.ret (s2.2.2,w64 (s2.1+1)))
    else
     ze (geti x.1 s2.1) fun y4=>
     bif (y4.toNat:Int)==10 then
      some (LO.ret ((⟨6,[],0,[],false⟩:zb),s2.1))
     else
      ze (geti x.1 s2.1) fun y5=>
      bif bif (y5.toNat:Int)==92 then w64 (s2.1+1)==(x.1.length:Int)else false then
       some (LO.again (w64 (s2.1+1),s2.2.1,s2.2.2))
      else
       ze (geti x.1 s2.1) fun y6=>
       ze (zu ((y6.toNat:Int)==92) (geti x.1 (w64 (s2.1+1))) 0) fun y7=>
       bif bif (y6.toNat:Int)==92 then(y7.toNat:Int)==10 else false then
        some (LO.again (w64 (s2.1+2),s2.2.1,s2.2.2))
       else
        ze (geti x.1 s2.1) fun y8=>
        bif (y8.toNat:Int)==92 then
         ze (qX (x.1,s2.1)) fun y9=>
         need (Vf s2.2.2.text.length y9.1.length)<|
         some (LO.again (y9.2,s2.2.1,(⟨s2.2.2.kind,s2.2.2.text++y9.1,s2.2.2.num,s2.2.2.unit,s2.2.2.flag⟩:zb)))
        else
         need (decide (0<=s2.1)&&(decide (s2.1<=w64 (s2.1+1))&&decide (w64 (s2.1+1)<=(x.1.length:Int))))<|
         need (Vf s2.2.2.text.length (List.drop s2.1.toNat (List.take (w64 (s2.1+1)).toNat x.1)).length)<|
         some (LO.again (w64 (s2.1+1),s2.2.1,(⟨s2.2.2.kind,s2.2.2.text++List.drop s2.1.toNat (List.take (w64 (s2.1+1)).toNat x.1),s2.2.2.num,s2.2.2.unit,s2.2.2.flag⟩:zb)))
   else
    some (LO.out (s2.1,s2.2.1,s2.2.2)):Int×zb×zb->Option (LO (Int×zb×zb) (Int×zb×zb) _)) (w64 (x.2+1),(⟨0,[],0,[],false⟩:zb),(⟨5,[],0,[],false⟩:zb)) fun o10=>
 some (o10.2.2,o10.1)
def NA(x:Int):Option Bool:=
 ze (Dn x) fun y1=>
 some (bif bif bif decide (y1>=97)then decide (y1<=122)else false then true else x==95 then true else decide (x>=128))
def xu(x:Int):Option Bool:=
 ze (NA x) fun y1=>
 ze (zu (!y1) (Zd x) (default:Bool)) fun y2=>
 some (bif bif y1 then true else y2 then true else x==45)
def ZV(x:Str×Int):Option Bool:=
 ze (zQ (x.1,x.2)) fun y1=>
 ze (zu (y1==92) (zQ (x.1,w64 (x.2+1))) (default:Int)) fun y2=>
 some (bif y1==92 then y2 != 10 else false)
def Bn(x:Str×Int):Option (Str×Int):=
 ZP (fun(s1:Int×Str)=>
   ze (zu (decide (s1.1<(x.1.length:Int))) (geti x.1 s1.1) 0) fun y2=>
   ze (zu (decide (s1.1<(x.1.length:Int))) (xu (y2.toNat:Int)) (default:Bool)) fun y3=>
   bif bif decide (s1.1<(x.1.length:Int))then y3 else false then
    need (decide (0<=s1.1)&&(decide (s1.1<=w64 (s1.1+1))&&decide (w64 (s1.1+1)<=(x.1.length:Int))))<|
    need (Vf s1.2.length (List.drop s1.1.toNat (List.take (w64 (s1.1+1)).toNat x.1)).length)<|
    some (LO.again (w64 (s1.1+1),s1.2++List.drop s1.1.toNat (List.take (w64 (s1.1+1)).toNat x.1)))
   else
    ze (zu (decide (s1.1<(x.1.length:Int))) (ZV (x.1,s1.1)) (default:Bool)) fun y4=>
    bif bif decide (s1.1<(x.1.length:Int))then y4 else false then
     ze (qX (x.1,s1.1)) fun y5=>
     need (Vf s1.2.length y5.1.length)<|
     some (LO.again (y5.2,s1.2++y5.1))
    else
     some (LO.ret (s1.2,s1.1)):Int×Str->Option (LO (Int×Str) (Unit) _)) (x.2,[]) fun o6=>
 none
def qC(x:Str×Int):Option Bool:=
 ze (zQ (x.1,x.2)) fun y1=>
 bif y1==45 then
  ze (zQ (x.1,w64 (x.2+1))) fun y2=>
  ze (NA y2) fun y3=>
  ze (zu (!y3) (zQ (x.1,w64 (x.2+1))) (default:Int)) fun y4=>
  ze (zu (!(bif y3 then true else y4==45)) (ZV (x.1,w64 (x.2+1))) (default:Bool)) fun y5=>
  some (bif bif y3 then true else y4==45 then true else y5)
 else
  ze (zQ (x.1,x.2)) fun y6=>
  ze (NA y6) fun y7=>
  ze (zu (!y7) (ZV (x.1,x.2)) (default:Bool)) fun y8=>
  some (bif y7 then true else y8)
def jG(x:Str×Int):Option Bool:=
 zN (X:=Int) (
   ze (zQ (x.1,x.2)) fun y1=>
   bif bif y1==43 then true else y1==45 then
    some (LX.out (w64 (x.2+1)))
   else
    some (LX.out x.2)) fun j2=>
 zN (X:=Int) (
   ze (zQ (x.1,j2)) fun y3=>
   bif y3==46 then
    some (LX.out (w64 (j2+1)))
   else
    some (LX.out j2)) fun j4=>
 ze (zQ (x.1,j4)) fun y5=>
 ze (Zd y5) fun y6=>
 some y6
def Uq(x:Str×Int):Option Int:=
 ZP (fun(s1:Int)=>
   ze (zQ (x.1,s1)) fun y2=>
   ze (Zd y2) fun y3=>
   bif y3 then
    some (LO.again (w64 (s1+1)))
   else
    some (LO.out s1):Int->Option (LO (Int) (Int) _)) x.2 fun o4=>
 some o4
def UA(x:Str×Int):Option (Int×Bool):=
 zN (X:=Int) (
   ze (zQ (x.1,x.2)) fun y1=>
   bif bif y1==43 then true else y1==45 then
    some (LX.out (w64 (x.2+1)))
   else
    some (LX.out x.2)) fun j2=>
 ze (Uq (x.1,j2)) fun y3=>
 zN (X:=Int×Bool) (
   ze (zQ (x.1,y3)) fun y4=>
   ze (zu (y4==46) (zQ (x.1,w64 (y3+1))) (default:Int)) fun y5=>
   ze (zu (y4==46) (Zd y5) (default:Bool)) fun y6=>
   bif bif y4==46 then y6 else false then
    ze (Uq (x.1,w64 (y3+1))) fun y7=>
    some (LX.out (y7,false))
   else
    some (LX.out (y3,true))) fun j8=>
 zN (X:=Int×Bool) (
   ze (zQ (x.1,j8.1)) fun y9=>
   bif bif y9==101 then true else y9==69 then
    zN (X:=Int×Bool×Int) (
      ze (zQ (x.1,w64 (j8.1+1))) fun y10=>
      bif bif y10==43 then true else y10==45 then
       some (LX.out (j8.1,j8.2,w64 (w64 (j8.1+1)+1)))
      else
       some (LX.out (j8.1,j8.2,w64 (j8.1+1)))) fun j11=>
    ze (zQ (x.1,j11.2.2)) fun y12=>
    ze (Zd y12) fun y13=>
    bif y13 then
     ze (Uq (x.1,j11.2.2)) fun y14=>
     some (LX.out (y14,false))
    else
     some (LX.out (j11.1,j11.2.1))
   else
    some (LX.out (j8.1,j8.2))) fun j15=>
 some (j15.1,j15.2)
def QK(x:Str):Option Int:=
 ze (geti x 0) fun y1=>
 zN (X:=Str×Int×Int) (
   ze (geti x 0) fun y2=>
   bif bif (y2.toNat:Int)==43 then true else(y1.toNat:Int)==45 then
    some (LX.out ([],3,1))
   else
    some (LX.out ([],3,0))) fun j3=>
 ZP (fun(s4:Str×Int)=>
   ze (zQ (x,s4.2)) fun y5=>
   ze (Zd y5) fun y6=>
   bif y6 then
    need (decide (0<=s4.2)&&(decide (s4.2<=w64 (s4.2+1))&&decide (w64 (s4.2+1)<=(x.length:Int))))<|
    need (Vf s4.1.length (List.drop s4.2.toNat (List.take (w64 (s4.2+1)).toNat x)).length)<|
    some (LO.again (s4.1++List.drop s4.2.toNat (List.take (w64 (s4.2+1)).toNat x),w64 (s4.2+1)))
   else
    some (LO.out (s4.1,s4.2)):Str×Int->Option (LO (Str×Int) (Str×Int) _)) (j3.1,j3.2.2) fun o7=>
 zN (X:=Str×Int×Int) (
   ze (zQ (x,o7.2)) fun y8=>
   bif y8==46 then
    ZP (fun(s9:Str×Int×Int)=>
      ze (zQ (x,s9.2.2)) fun y10=>
      ze (Zd y10) fun y11=>
      bif y11 then
       need (decide (0<=s9.2.2)&&(decide (s9.2.2<=w64 (s9.2.2+1))&&decide (w64 (s9.2.2+1)<=(x.length:Int))))<|
       need (Vf s9.1.length (List.drop s9.2.2.toNat (List.take (w64 (s9.2.2+1)).toNat x)).length)<|
       some (LO.again (s9.1++List.drop s9.2.2.toNat (List.take (w64 (s9.2.2+1)).toNat x),w64 (s9.2.1 - 1),w64 (s9.2.2+1)))
      else
       some (LO.out (s9.1,s9.2.1,s9.2.2)):Str×Int×Int->Option (LO (Str×Int×Int) (Str×Int×Int) _)) (o7.1,j3.2.1,w64 (o7.2+1)) fun o12=>
    some (LX.out (o12.1,o12.2.1,o12.2.2))
   else
    some (LX.out (o7.1,j3.2.1,o7.2))) fun j13=>
 zN (X:=Int) (
   bif decide (j13.2.2<(x.length:Int))then
    ze (geti x (w64 (j13.2.2+1))) fun y14=>
    zN (X:=Int×Int) (
      ze (geti x (w64 (j13.2.2+1))) fun y15=>
      bif bif (y15.toNat:Int)==43 then true else(y14.toNat:Int)==45 then
       some (LX.out (j13.2.1,w64 (w64 (j13.2.2+1)+1)))
      else
       some (LX.out (j13.2.1,w64 (j13.2.2+1)))) fun j16=>
    ZP (fun(s17:Int×Int)=>
      bif decide (s17.1<(x.length:Int))then
       ze (geti x s17.1) fun y18=>
       some (LO.again (w64 (s17.1+1),if w64 (w64 (10*s17.2)+w64 (wu8 ((y18.toNat:Int) - 48)))<10000 then w64 (w64 (10*s17.2)+w64 (wu8 ((y18.toNat:Int) - 48)))else 10000))
      else
       some (LO.out s17.2):Int×Int->Option (LO (Int×Int) (Int) _)) (j16.2,0) fun o19=>
    zN (X:=Int×Int) (
      bif (y14.toNat:Int)==45 then
       some (LX.out (j16.1,w64 (0 - o19)))
      else
       some (LX.out (j16.1,o19))) fun j20=>
    some (LX.out (w64 (j20.1+j20.2)))
   else
    some (LX.out j13.2.1)) fun j21=>
 ZP (fun(s22:Int×Int)=>
   bif bif decide (s22.2<w64 ((j13.1.length:Int)+j21))then decide (s22.2<(j13.1.length:Int))else false then
    ze (geti j13.1 s22.2) fun y23=>
    some (LO.again (if w64 (w64 (10*s22.1)+w64 (wu8 ((y23.toNat:Int) - 48)))<1000000000000 then w64 (w64 (10*s22.1)+w64 (wu8 ((y23.toNat:Int) - 48)))else 1000000000000,w64 (s22.2+1)))
   else
    some (LO.out s22.1):Int×Int->Option (LO (Int×Int) (Int) _)) (0,0) fun o24=>
 ZP (fun(s25:Int×Int)=>
   bif bif bif decide (s25.1>0)then decide (s25.2>0)else false then decide (s25.2<1000000000000)else false then
    some (LO.again (w64 (s25.1 - 1),if w64 (10*s25.2)<1000000000000 then w64 (10*s25.2)else 1000000000000))
   else
    some (LO.out s25.2):Int×Int->Option (LO (Int×Int) (Int) _)) (j21,o24) fun o26=>
 bif (y1.toNat:Int)==45 then
  some (w64 (0 - o26))
 else
  some o26
def GA(x:Str×Int):Option (zb×Int):=
 ze (UA (x.1,x.2)) fun y1=>
 need (decide (0<=x.2)&&(decide (x.2<=y1.1)&&decide (y1.1<=(x.1.length:Int))))<|
 ze (QK (List.drop x.2.toNat (List.take y1.1.toNat x.1))) fun y2=>
 zN (X:=Int×zb×zb) (
   ze (qC (x.1,y1.1)) fun y3=>
   bif y3 then
    ze (Bn (x.1,y1.1)) fun y4=>
    some (LX.out (y4.2,(⟨0,[],0,[],false⟩:zb),(⟨12,[],y2,y4.1,y1.2⟩:zb)))
   else
    ze (zQ (x.1,y1.1)) fun y5=>
    bif y5==37 then
     some (LX.out (w64 (y1.1+1),(⟨0,[],0,[],false⟩:zb),(⟨11,[],y2,[],false⟩:zb)))
    else
     some (LX.out (y1.1,(⟨0,[],0,[],false⟩:zb),(⟨10,[],y2,[],y1.2⟩:zb)))) fun j6=>
 some (j6.2.2,j6.1)
def Wu(x:Str×Int×Str):Option Bool:=
 need (decide (0<=x.2.1)&&(decide (x.2.1<=w64 (x.2.1+(x.2.2.length:Int)))&&decide (w64 (x.2.1+(x.2.2.length:Int))<=(x.1.length:Int)))|| !(decide (w64 ((x.1.length:Int) - x.2.1)>=(x.2.2.length:Int))))<|
 some (bif decide (w64 ((x.1.length:Int) - x.2.1)>=(x.2.2.length:Int))then List.drop x.2.1.toNat (List.take (w64 (x.2.1+(x.2.2.length:Int))).toNat x.1)==x.2.2 else false)
def En(x:Str):Option Str:=
 need (decide (x.length<=maxLen))<|
 ZP (fun(s1:Int×List UInt8)=>
   bif decide (s1.1<(s1.2.length:Int))then
    need (decide (0<=s1.1)&&decide (s1.1<(s1.2.length:Int)))<|
    ze s1.2[s1.1.toNat]? fun y2=>
    ze (Dn (y2.toNat:Int)) fun y3=>
    need (decide (0<=s1.1)&&decide (s1.1<(s1.2.length:Int)))<|
    ze s1.2[s1.1.toNat]? fun y4=>
    ze (Zq y3) fun y5=>
    some (LO.again (w64 (s1.1+1),List.set s1.2 s1.1.toNat y5))
   else
    some (LO.out s1.2):Int×List UInt8->Option (LO (Int×List UInt8) (List UInt8) _)) (0,x) fun o6=>
 some o6
def qW(x:Str×Str):Option Bool:=
 ze (En x.1) fun y1=>
 ze (En x.2) fun y2=>
 some (y1==y2)
def Xu(x:Str×Int):Option (zb×Int):=
 ZP (fun(s1:Int)=>
   ze (zu (decide (s1<(x.1.length:Int))) (geti x.1 s1) 0) fun y2=>
   bif bif decide (s1<(x.1.length:Int))then(y2.toNat:Int) != 41 else false then
    ze (ZV (x.1,s1)) fun y3=>
    bif y3 then
     ze (qX (x.1,s1)) fun y4=>
     some (LO.again y4.2)
    else
     some (LO.again (w64 (s1+1)))
   else
    some (LO.out s1):Int->Option (LO (Int) (Int) _)) x.2 fun o5=>
 some ((⟨8,[],0,[],false⟩:zb),if w64 (o5+1)<(x.1.length:Int)then w64 (o5+1)else(x.1.length:Int))
def xG(x:Int):Option Bool:=
 some (bif bif bif decide (x<=8)then true else x==11 then true else bif decide (x>=14)then decide (x<=31)else false then true else x==127)
def Kz(x:Str×Int):Option (zb×Int):=
 ze (QB (x.1,x.2)) fun y1=>
 ZP (fun(s2:Int×zb×zb)=>
   ze (zu (decide (s2.1<(x.1.length:Int))) (geti x.1 s2.1) 0) fun y3=>
   bif bif decide (s2.1<(x.1.length:Int))then(y3.toNat:Int) != 41 else false then
    ze (geti x.1 s2.1) fun y4=>
    ze (qY (y4.toNat:Int)) fun y5=>
    bif y5 then
     ze (QB (x.1,s2.1)) fun y6=>
     ze (zu (decide (y6<(x.1.length:Int))) (geti x.1 y6) 0) fun y7=>
     bif bif decide (y6<(x.1.length:Int))then(y7.toNat:Int) != 41 else false then
      ze (Xu (x.1,y6)) fun y8=>
      some (LO.ret (y8.1,y8.2))
     else
      some (LO.again (y6,s2.2.1,s2.2.2))
    else
     ze (zu (!(bif bif (y4.toNat:Int)==34 then true else(y4.toNat:Int)==39 then true else(y4.toNat:Int)==40)) (xG (y4.toNat:Int)) (default:Bool)) fun y9=>
     ze (zu ((y4.toNat:Int)==92&& !(bif bif bif (y4.toNat:Int)==34 then true else(y4.toNat:Int)==39 then true else(y4.toNat:Int)==40 then true else y9)) (ZV (x.1,s2.1)) (default:Bool)) fun y10=>
     bif bif bif bif bif (y4.toNat:Int)==34 then true else(y4.toNat:Int)==39 then true else(y4.toNat:Int)==40 then true else y9 then true else bif (y4.toNat:Int)==92 then !y10 else false then
      ze (Xu (x.1,s2.1)) fun y11=>
      some (LO.ret (y11.1,y11.2))
     else
      bif (y4.toNat:Int)==92 then
       ze (qX (x.1,s2.1)) fun y12=>
       need (Vf s2.2.2.text.length y12.1.length)<|
       some (LO.again (y12.2,s2.2.1,(⟨s2.2.2.kind,s2.2.2.text++y12.1,s2.2.2.num,s2.2.2.unit,s2.2.2.flag⟩:zb)))
      else
       need (decide (0<=s2.1)&&(decide (s2.1<=w64 (s2.1+1))&&decide (w64 (s2.1+1)<=(x.1.length:Int))))<|
       need (Vf s2.2.2.text.length (List.drop s2.1.toNat (List.take (w64 (s2.1+1)).toNat x.1)).length)<|
       some (LO.again (w64 (s2.1+1),s2.2.1,(⟨s2.2.2.kind,s2.2.2.text++List.drop s2.1.toNat (List.take (w64 (s2.1+1)).toNat x.1),s2.2.2.num,s2.2.2.unit,s2.2.2.flag⟩:zb)))
   else
    some (LO.out (s2.1,s2.2.1,s2.2.2)):Int×zb×zb->Option (LO (Int×zb×zb) (Int×zb×zb) _)) (y1,(⟨0,[],0,[],false⟩:zb),(⟨7,[],0,[],false⟩:zb)) fun o13=>
 some (o13.2.2,if w64 (o13.1+1)<(x.1.length:Int)then w64 (o13.1+1)else(x.1.length:Int))
def gz(x:Str×Int):Option (zb×Int):=
 ze (Bn (x.1,x.2)) fun y1=>
 ze (zQ (x.1,y1.2)) fun y2=>
 bif y2 != 40 then
  some ((⟨1,y1.1,0,[],false⟩:zb),y1.2)
 else
  zN (X:=zb) (
    ze (qW (y1.1,[117,114,108])) fun y3=>
    bif y3 then
     ze (QB (x.1,w64 (y1.2+1))) fun y4=>
     ze (zQ (x.1,y4)) fun y5=>
     bif bif y5 != 34 then y5 != 39 else false then
      ze (Kz (x.1,w64 (y1.2+1))) fun y6=>
      some (LX.ret (y6.1,y6.2))
     else
      some (LX.out (⟨0,[],0,[],false⟩:zb))
    else
     some (LX.out (⟨0,[],0,[],false⟩:zb))) fun j7=>
  some ((⟨2,y1.1,0,[],false⟩:zb),w64 (y1.2+1))
def su(x:Int):Option Int:=
 bif x==58 then
  some 16
 else
  bif x==59 then
   some 17
  else
   bif x==44 then
    some 18
   else
    bif x==91 then
     some 19
    else
     bif x==93 then
      some 20
     else
      bif x==40 then
       some 21
      else
       bif x==41 then
        some 22
       else
        bif x==123 then
         some 23
        else
         bif x==125 then
          some 24
         else
          some 0
def Nz(x:Str×Int):Option (zb×Int):=
 ze (geti x.1 x.2) fun y1=>
 ze (qY (y1.toNat:Int)) fun y2=>
 bif y2 then
  ze (QB (x.1,x.2)) fun y3=>
  some ((⟨13,[],0,[],false⟩:zb),y3)
 else
  bif bif (y1.toNat:Int)==34 then true else(y1.toNat:Int)==39 then
   ze (TA (x.1,x.2)) fun y4=>
   some (y4.1,y4.2)
  else
   ze (zu (decide (w64 (x.2+1)<(x.1.length:Int))&&(y1.toNat:Int)==35) (geti x.1 (w64 (x.2+1))) 0) fun y5=>
   ze (zu (decide (w64 (x.2+1)<(x.1.length:Int))&&(y1.toNat:Int)==35) (xu (y5.toNat:Int)) (default:Bool)) fun y6=>
   ze (zu (!(bif decide (w64 (x.2+1)<(x.1.length:Int))then y6 else false)&&(y1.toNat:Int)==35) (ZV (x.1,w64 (x.2+1))) (default:Bool)) fun y7=>
   bif bif (y1.toNat:Int)==35 then bif bif decide (w64 (x.2+1)<(x.1.length:Int))then y6 else false then true else y7 else false then
    ze (Bn (x.1,w64 (x.2+1))) fun y8=>
    ze (qC (x.1,w64 (x.2+1))) fun y9=>
    some ((⟨4,y8.1,0,[],y9⟩:zb),y8.2)
   else
    ze (jG (x.1,x.2)) fun y10=>
    bif y10 then
     ze (GA (x.1,x.2)) fun y11=>
     some (y11.1,y11.2)
    else
     ze (Wu (x.1,x.2,[45,45,62])) fun y12=>
     bif y12 then
      some ((⟨15,[],0,[],false⟩:zb),w64 (x.2+3))
     else
      ze (Wu (x.1,x.2,[60,33,45,45])) fun y13=>
      bif y13 then
       some ((⟨14,[],0,[],false⟩:zb),w64 (x.2+4))
      else
       ze (zu ((y1.toNat:Int)==64) (qC (x.1,w64 (x.2+1))) (default:Bool)) fun y14=>
       bif bif (y1.toNat:Int)==64 then y14 else false then
        ze (Bn (x.1,w64 (x.2+1))) fun y15=>
        some ((⟨3,y15.1,0,[],false⟩:zb),y15.2)
       else
        ze (qC (x.1,x.2)) fun y16=>
        bif y16 then
         ze (gz (x.1,x.2)) fun y17=>
         some (y17.1,y17.2)
        else
         ze (su (y1.toNat:Int)) fun y18=>
         bif y18 != 0 then
          ze (su (y1.toNat:Int)) fun y19=>
          some ((⟨y19,[],0,[],false⟩:zb),w64 (x.2+1))
         else
          need (decide (0<=x.2)&&(decide (x.2<=w64 (x.2+1))&&decide (w64 (x.2+1)<=(x.1.length:Int))))<|
          some ((⟨9,List.drop x.2.toNat (List.take (w64 (x.2+1)).toNat x.1),0,[],false⟩:zb),w64 (x.2+1))
def qH(x:Int):Option Bool:=
 ze (Zq x) fun y1=>
 ze (Nz ([y1,(10:UInt8)],0)) fun y2=>
 some (bif bif bif bif decide (x>=1)then decide (x<=127)else false then x != 12 else false then x != 13 else false then y2.1.kind==9 else false)
def cz(x:zb):Option Bool:=
 zN (X:=Bool×zb) (
   bif x.kind==1 then
    some (LX.out (x.kind==1,x))
   else
    bif x.kind==2 then
     some (LX.out (x.kind==2,x))
    else
     some (LX.out (x.kind==3,x))) fun j1=>
 bif j1.1 then
  ze (zu (!(x.text==[])) (wm x.text) (default:Bool)) fun y2=>
  some (bif bif !(x.text==[])then y2 else false then j1.2.kind==x.kind&&(([]:Str)==[]&&(j1.2.num==0&&(j1.2.unit==[]&&(j1.2.flag==false&&true))))else false)
 else
  bif x.kind==4 then
   ze (zu (!(x.text==[])) (wm x.text) (default:Bool)) fun y3=>
   ze (zu (!x.flag&&(bif !(x.text==[])then y3 else false)) (dz x.text) (default:Bool)) fun y4=>
   some (bif bif bif !(x.text==[])then y3 else false then bif x.flag then true else y4 else false then j1.2.kind==x.kind&&(([]:Str)==[]&&(j1.2.num==0&&(j1.2.unit==[]&&(false==false&&true))))else false)
  else
   zN (X:=Bool×zb) (
     bif x.kind==5 then
      some (LX.out (x.kind==5,j1.2))
     else
      some (LX.out (x.kind==7,j1.2))) fun j5=>
   bif j5.1 then
    ze (wm x.text) fun y6=>
    some (bif y6 then j5.2.kind==x.kind&&(([]:Str)==[]&&(j5.2.num==0&&(j5.2.unit==[]&&(j5.2.flag==false&&true))))else false)
   else
    bif x.kind==9 then
     ze (zu ((x.text.length:Int)==1) (geti x.text 0) 0) fun y7=>
     ze (zu ((x.text.length:Int)==1) (qH (y7.toNat:Int)) (default:Bool)) fun y8=>
     some (bif bif (x.text.length:Int)==1 then y8 else false then j5.2.kind==x.kind&&(([]:Str)==[]&&(j5.2.num==0&&(j5.2.unit==[]&&(j5.2.flag==false&&true))))else false)
    else
     zN (X:=Bool×zb) (
       bif x.kind==10 then
        some (LX.out (x.kind==10,j5.2))
       else
        bif x.kind==11 then
         some (LX.out (x.kind==11,j5.2))
        else
         some (LX.out (x.kind==12,j5.2))) fun j9=>
     bif j9.1 then
      ze (zu ((!(x.unit==[]))==(x.kind==12)) (wm x.unit) (default:Bool)) fun y10=>
      some (bif bif bif bif bif decide (x.num>=(-1000000000000))then decide (x.num<=1000000000000)else false then bif !x.flag then true else Int.tmod x.num 1000==0 else false then bif (!(x.unit==[]))==(x.kind==12)then y10 else false else false then bif x.kind != 11 then true else !x.flag else false then j9.2.kind==x.kind&&(j9.2.text==[]&&(0==0&&(([]:Str)==[]&&(false==false&&true))))else false)
     else
      zN (X:=Bool) (
        bif x.kind==6 then
         some (LX.out (x.kind==6))
        else
         some (LX.out (x.kind==8))) fun j11=>
      bif j11 then
       some false
      else
       some (bif bif decide (x.kind>=1)then decide (x.kind<=24)else false then x.kind==x.kind&&(x.text==[]&&(x.num==0&&(x.unit==[]&&(x.flag==false&&true))))else false)
def ym(x:List zb):Option Int:=
 bif decide ((x.length:Int)>1500)then
  some 4
 else
  ZP (fun(s1:Int)=>
    bif decide (s1<(x.length:Int))then
     ze (geti x s1) fun y2=>
     ze (cz y2) fun y3=>
     bif !y3 then
      some (LO.ret 8)
     else
      zN (X:=Unit) (
        ze (geti x s1) fun y4=>
        ze (zu (y4.kind==2) (geti x s1) (default:zb)) fun y5=>
        ze (zu (y4.kind==2) (qW (y5.text,[117,114,108])) (default:Bool)) fun y6=>
        bif bif y4.kind==2 then y6 else false then
         zN (X:=Int) (
           ze (zu (decide (w64 (s1+1)<(x.length:Int))) (geti x (w64 (s1+1))) (default:zb)) fun y7=>
           bif bif decide (w64 (s1+1)<(x.length:Int))then y7.kind==13 else false then
            some (LX.out (w64 (w64 (s1+1)+1)))
           else
            some (LX.out (w64 (s1+1)))) fun j8=>
         ze (zu (!(decide (j8>=(x.length:Int)))) (geti x j8) (default:zb)) fun y9=>
         bif bif decide (j8>=(x.length:Int))then true else y9.kind != 5 then
          some (LX.ret (LO.ret 8))
         else
          some (LX.out ())
        else
         some (LX.out ())) fun j10=>
      ze (geti x s1) fun y11=>
      ze (zu (y11.kind==9) (geti x s1) (default:zb)) fun y12=>
      ze (zu (!(w64 (s1+1)==(x.length:Int))&&(bif y11.kind==9 then y12.text==[92]else false)) (geti x (w64 (s1+1))) (default:zb)) fun y13=>
      bif bif bif y11.kind==9 then y12.text==[92]else false then bif w64 (s1+1)==(x.length:Int)then true else y13.kind != 13 else false then
       some (LO.ret 8)
      else
       some (LO.again (w64 (s1+1)))
    else
     some (LO.out ()):Int->Option (LO (Int) (Unit) _)) 0 fun o14=>
  some 0
def Yq(x:Str):Option zb:=
 some (⟨1,x,0,[],false⟩:zb)
def strings_IndexByte(x:Str×Int):Option Int:=
 ze (Vx (x.1,x.2)) fun y1=>
 some y1
def stringslite_HasPrefix(x:Str×Str):Option Bool:=
 need (decide (0<=(x.2.length:Int))&&decide ((x.2.length:Int)<=(x.1.length:Int))|| !(decide ((x.1.length:Int)>=(x.2.length:Int))))<|
 some (bif decide ((x.1.length:Int)>=(x.2.length:Int))then List.take x.2.length x.1==x.2 else false)
def stringslite_TrimPrefix(x:Str×Str):Option Str:=
 ze (stringslite_HasPrefix (x.1,x.2)) fun y1=>
 bif y1 then
  need (decide (0<=(x.2.length:Int))&&decide ((x.2.length:Int)<=(x.1.length:Int)))<|
  some (List.drop x.2.length x.1)
 else
  some x.1
def strings_TrimPrefix(x:Str×Str):Option Str:=
 ze (stringslite_TrimPrefix (x.1,x.2)) fun y1=>
 some y1
def Qg(x:Int):Option Bool:=
 some (bif decide (48<=x)then decide (x<=57)else false)
def Wq(x:Str):Option Bool:=
 ze (strings_TrimPrefix (x,[45])) fun y1=>
 ze (zu (!(y1==[])) (geti y1 0) 0) fun y2=>
 ze (zu (!(y1==[])) (Qg (y2.toNat:Int)) (default:Bool)) fun y3=>
 some (bif !(y1==[])then y3 else false)
def strings_HasPrefix(x:Str×Str):Option Bool:=
 ze (stringslite_HasPrefix (x.1,x.2)) fun y1=>
 some y1
def BA(x:Int):Option Bool:=
 some (bif bif decide (97<=ibOr IntKind.u8 x 32)then decide (ibOr IntKind.u8 x 32<=122)else false then decide (x<128)else false)
def Rn(x:Int):Option Bool:=
 ze (BA x) fun y1=>
 ze (zu (!y1) (Qg x) (default:Bool)) fun y2=>
 some (bif bif bif bif y1 then true else y2 then true else x==95 then true else x==45 then true else decide (x>=128))
def strings_Contains(x:Str×Str):Option Bool:=
 ze (Sk (x.1,x.2)) fun y1=>
 some (decide (y1>=0))
def bu(x:zb):Option Bool:=
 need (Vf x.text.length x.unit.length)<|
 ze (strings_IndexByte (x.text++x.unit,0)) fun y1=>
 zN (X:=Bool×Bool×Bool×Bool×Bool) (
   zN (X:=Bool×Bool×Bool×Bool×Bool×Bool) (
     bif x.kind==1 then
      some (LX.out (false,false,false,false,decide (y1<0),x.kind==1))
     else
      bif x.kind==2 then
       some (LX.out (false,false,false,false,decide (y1<0),x.kind==2))
      else
       some (LX.out (false,false,false,false,decide (y1<0),x.kind==3))) fun j2=>
   bif j2.2.2.2.2.2 then
    some (LX.out (true,j2.2.1,j2.2.2.1,j2.2.2.2.1,bif j2.2.2.2.2.1 then !(x.text==[])else false))
   else
    bif x.kind==4 then
     ze (zu (!x.flag&&(bif j2.2.2.2.2.1 then !(x.text==[])else false)) (Wq x.text) (default:Bool)) fun y3=>
     ze (zu (y3&&(!x.flag&&(bif j2.2.2.2.2.1 then !(x.text==[])else false))) (strings_HasPrefix (x.text,[45,45])) (default:Bool)) fun y4=>
     some (LX.out (true,j2.2.1,j2.2.2.1,true,bif bif j2.2.2.2.2.1 then !(x.text==[])else false then bif bif x.flag then true else bif y3 then !y4 else false then true else x.text==[45]else false))
    else
     zN (X:=Bool×Bool×Bool×Bool×Bool×Bool) (
       bif x.kind==5 then
        some (LX.out (j2.1,j2.2.1,j2.2.2.1,j2.2.2.2.1,j2.2.2.2.2.1,x.kind==5))
       else
        some (LX.out (j2.1,j2.2.1,j2.2.2.1,j2.2.2.2.1,j2.2.2.2.2.1,x.kind==7))) fun j5=>
     bif j5.2.2.2.2.2 then
      some (LX.out (true,j5.2.1,j5.2.2.1,j5.2.2.2.1,j5.2.2.2.2.1))
     else
      bif x.kind==9 then
       ze (zu (bif j5.2.2.2.2.1 then(x.text.length:Int)==1 else false) (geti x.text 0) 0) fun y6=>
       ze (zu (bif j5.2.2.2.2.1 then(x.text.length:Int)==1 else false) (Rn (y6.toNat:Int)) (default:Bool)) fun y7=>
       ze (zu (bif bif bif j5.2.2.2.2.1 then(x.text.length:Int)==1 else false then !y7 else false then true else x.text==[45]) (strings_Contains ([32,9,10,12,13,34,39,58,59,44,91,93,40,41,123,125],x.text)) (default:Bool)) fun y8=>
       some (LX.out (true,j5.2.1,j5.2.2.1,j5.2.2.2.1,bif bif bif bif j5.2.2.2.2.1 then(x.text.length:Int)==1 else false then !y7 else false then true else x.text==[45]then !y8 else false))
      else
       zN (X:=Bool×Bool×Bool×Bool×Bool) (
         bif x.kind==10 then
          some (LX.out (j5.2.1,j5.2.2.1,j5.2.2.2.1,j5.2.2.2.2.1,x.kind==10))
         else
          bif x.kind==11 then
           some (LX.out (j5.2.1,j5.2.2.1,j5.2.2.2.1,j5.2.2.2.2.1,x.kind==11))
          else
           some (LX.out (j5.2.1,j5.2.2.1,j5.2.2.2.1,j5.2.2.2.2.1,x.kind==12))) fun j9=>
       bif j9.2.2.2.2 then
        some (LX.out (j5.1,x.kind==12,true,x.kind != 11,bif bif bif bif j9.2.2.2.1 then decide (x.num>=(-1000000000000))else false then decide (x.num<=1000000000000)else false then bif !x.flag then true else Int.tmod x.num 1000==0 else false then bif !(x.kind==12)then true else !(x.unit==[])else false))
       else
        some (LX.out (j5.1,j9.1,j9.2.1,j9.2.2.1,bif decide (x.kind>=13)then decide (x.kind<=24)else false))) fun j10=>
 some (bif bif bif bif j10.2.2.2.2 then bif j10.1 then true else x.text==[]else false then bif j10.2.1 then true else x.unit==[]else false then bif j10.2.2.1 then true else x.num==0 else false then bif j10.2.2.2.1 then true else !x.flag else false)
def Zp(x:(Int×Int)×List zb):Option Bool:=
 ze (zu (decide (x.1.1<(x.2.length:Int))) (geti x.2 x.1.1) (default:zb)) fun y1=>
 some (bif decide (x.1.1<(x.2.length:Int))then y1.kind==x.1.2 else false)
def Jn(x:Str):Option Str:=
 need (decide (x.length<=maxLen))<|
 ZP (fun(s1:Int×List UInt8)=>
   bif decide (s1.1<(x.length:Int))then
    zN (X:=Int×List UInt8) (
      need (decide (0<=s1.1)&&decide (s1.1<(s1.2.length:Int)))<|
      ze s1.2[s1.1.toNat]? fun y2=>
      bif bif decide (65<=(y2.toNat:Int))then decide ((y2.toNat:Int)<=90)else false then
       need (decide (0<=s1.1)&&decide (s1.1<(s1.2.length:Int)))<|
       ze s1.2[s1.1.toNat]? fun y3=>
       need (decide (0<=s1.1)&&decide (s1.1<(s1.2.length:Int)))<|
       ze s1.2[s1.1.toNat]? fun y4=>
       ze (Zq (ibOr IntKind.u8 (y3.toNat:Int) 32)) fun y5=>
       some (LX.out (s1.1,List.set s1.2 s1.1.toNat y5))
      else
       some (LX.out (s1.1,s1.2))) fun j6=>
    some (LO.again (w64 (j6.1+1),j6.2))
   else
    some (LO.out s1.2):Int×List UInt8->Option (LO (Int×List UInt8) (List UInt8) _)) (0,x) fun o7=>
 some o7
def Kn(x:Str×Str):Option Bool:=
 ze (Jn x.1) fun y1=>
 ze (Jn x.2) fun y2=>
 some (y1==y2)
def Qh(x:List zb):Option Int:=
 ze (geti x 0) fun y1=>
 bif bif y1.kind==9 then y1.text==[92]else false then
  ze (Zp ((1,13),x)) fun y2=>
  bif !y2 then
   some 0
  else
   some 2
 else
  ze (zu (y1.kind==2) (Kn (y1.text,[117,114,108])) (default:Bool)) fun y3=>
  bif bif y1.kind==2 then y3 else false then
   zN (X:=Int) (
     ze (Zp ((1,13),x)) fun y4=>
     bif y4 then
      some (LX.out 2)
     else
      some (LX.out 1)) fun j5=>
   ze (Zp ((j5,5),x)) fun y6=>
   bif !y6 then
    some 0
   else
    some (w64 (j5+1))
  else
   some 1
def Kl(x:List zb):Option Int:=
 bif decide ((x.length:Int)>1500)then
  some 4
 else
  ZP (fun(s1:Int)=>
    bif decide (s1<(x.length:Int))then
     ze (geti x s1) fun y2=>
     ze (bu y2) fun y3=>
     need (decide (0<=s1)&&decide (s1<=(x.length:Int))|| !(!(!y3)))<|
     ze (zu (!(!y3)) (Qh (List.drop s1.toNat x)) (default:Int)) fun y4=>
     bif bif !y3 then true else y4==0 then
      some (LO.ret 8)
     else
      some (LO.again (w64 (s1+1)))
    else
     some (LO.out ()):Int->Option (LO (Int) (Unit) _)) 0 fun o5=>
  some 0
def Z8(x:Str):Option Int:=
 ze (strings_HasPrefix (x,[45])) fun y1=>
 bif y1 then
  some 2
 else
  some 1
def Zt(x:Int×List UInt8):Option (List UInt8):=
 ze (zu (bif decide (x.1>32)then decide (x.1<127)else false) (Qg x.1) (default:Bool)) fun y1=>
 ze (zu (bif bif decide (x.1>32)then decide (x.1<127)else false then !y1 else false) (BA x.1) (default:Bool)) fun y2=>
 bif bif bif bif decide (x.1>32)then decide (x.1<127)else false then !y1 else false then !y2 else false then
  ze (Zq x.1) fun y3=>
  need (zR x.2.length 2 1)<|
  some (x.2++[(92:UInt8),y3])
 else
  need (zR x.2.length 1 1)<|
  ze (Rp ((wu64 x.1,16),x.2++[(92:UInt8)])) fun y4=>
  need (zR y4.length 1 1)<|
  some (y4++[(32:UInt8)])
def ZY(x:(Str×Int)×List UInt8):Option (List UInt8):=
 ZP (fun(s1:Int×List UInt8)=>
   bif decide (s1.1<(x.1.1.length:Int))then
    zN (X:=Int×List UInt8) (
      ze (geti x.1.1 s1.1) fun y2=>
      ze (Rn (y2.toNat:Int)) fun y3=>
      ze (zu (!(decide (s1.1>=x.1.2))&&y3) (Qg (y2.toNat:Int)) (default:Bool)) fun y4=>
      bif bif bif y3 then bif decide (s1.1>=x.1.2)then true else !y4 else false then bif x.1.2==0 then true else !(x.1.1==[45])else false then
       ze (Zq (y2.toNat:Int)) fun y5=>
       need (zR s1.2.length 1 1)<|
       some (LX.out (s1.1,s1.2++[y5]))
      else
       ze (Zt ((y2.toNat:Int),s1.2)) fun y6=>
       some (LX.out (s1.1,y6))) fun j7=>
    some (LO.again (w64 (j7.1+1),j7.2))
   else
    some (LO.out s1.2):Int×List UInt8->Option (LO (Int×List UInt8) (List UInt8) _)) (0,x.2) fun o8=>
 some o8
def lu(x:Unit):Option Qe:=
 some (⟨[32],[60,33,45,45],[45,45,62],[58],[59],[44],[91],[93],[40],[41],[123],[125]⟩:Qe)
def Z6(x:(Int×Bool)×List UInt8):Option (List UInt8):=
 zN (X:=Int×List UInt8) (
   bif decide (x.1.1<0)then
    need (zR x.2.length 1 1)<|
    some (LX.out (w64 (0 - x.1.1),x.2++[(45:UInt8)]))
   else
    some (LX.out (x.1.1,x.2))) fun j1=>
 ze (Tp ((w64 (Int.tdiv j1.1 1000),10),j1.2)) fun y2=>
 ze (Gp (w64 (1000+Int.tmod j1.1 1000),10)) fun y3=>
 need (decide (1<=(y3.length:Int)))<|
 ze (ol (List.drop 1 y3,[48])) fun y4=>
 zN (X:=List UInt8) (
   bif !(y4==[])then
    need (zR y2.length 1 1)<|
    need (zR (y2++[(46:UInt8)]).length y4.length 1)<|
    some (LX.out (y2++[(46:UInt8)]++y4))
   else
    bif x.1.2 then
     need (zR y2.length ([46,48]:Str).length 1)<|
     some (LX.out (y2++([46,48]:Str)))
    else
     some (LX.out y2)) fun j5=>
 some j5
def Nn(x:zb×List UInt8):Option (List UInt8):=
 bif x.1.kind==1 then
  ze (Z8 x.1.text) fun y1=>
  ze (ZY ((x.1.text,y1),x.2)) fun y2=>
  some y2
 else
  bif x.1.kind==2 then
   ze (Z8 x.1.text) fun y3=>
   ze (ZY ((x.1.text,y3),x.2)) fun y4=>
   need (zR y4.length 1 1)<|
   some (y4++[(40:UInt8)])
  else
   bif x.1.kind==3 then
    need (zR x.2.length 1 1)<|
    ze (Z8 x.1.text) fun y5=>
    ze (ZY ((x.1.text,y5),x.2++[(64:UInt8)])) fun y6=>
    some y6
   else
    bif x.1.kind==4 then
     zN (X:=Int×List UInt8) (
       bif x.1.flag then
        ze (Z8 x.1.text) fun y7=>
        some (LX.out (y7,x.2))
       else
        some (LX.out (0,x.2))) fun j8=>
     need (zR j8.2.length 1 1)<|
     ze (ZY ((x.1.text,j8.1),j8.2++[(35:UInt8)])) fun y9=>
     some y9
    else
     bif x.1.kind==5 then
      need (zR x.2.length 1 1)<|
      need (decide (x.1.text.length<=maxLen))<|
      ZP (fun(s10:Int×List UInt8)=>
        bif decide (s10.1<(x.1.text.length:Int))then
         zN (X:=Int×List UInt8) (
           need (decide (0<=s10.1)&&decide (s10.1<(x.1.text.length:Int)))<|
           ze x.1.text[s10.1.toNat]? fun y11=>
           ze (strings_IndexByte ([10,12,13,34,92],(y11.toNat:Int))) fun y12=>
           bif decide (y12>=0)then
            ze (Zt ((y11.toNat:Int),s10.2)) fun y13=>
            some (LX.out (s10.1,y13))
           else
            ze (Zq (y11.toNat:Int)) fun y14=>
            need (zR s10.2.length 1 1)<|
            some (LX.out (s10.1,s10.2++[y14]))) fun j15=>
         some (LO.again (w64 (j15.1+1),j15.2))
        else
         some (LO.out s10.2):Int×List UInt8->Option (LO (Int×List UInt8) (List UInt8) _)) (0,x.2++[(34:UInt8)]) fun o16=>
      need (zR o16.length 1 1)<|
      some (o16++[(34:UInt8)])
     else
      bif x.1.kind==7 then
       need (zR x.2.length ([117,114,108,40]:Str).length 1)<|
       need (decide (x.1.text.length<=maxLen))<|
       ZP (fun(s17:Int×List UInt8)=>
         bif decide (s17.1<(x.1.text.length:Int))then
          zN (X:=Int×List UInt8) (
            need (decide (0<=s17.1)&&decide (s17.1<(x.1.text.length:Int)))<|
            ze x.1.text[s17.1.toNat]? fun y18=>
            ze (zu (!(decide ((y18.toNat:Int)<=32))) (strings_IndexByte ([34,39,40,41,92,127],(y18.toNat:Int))) (default:Int)) fun y19=>
            bif bif decide ((y18.toNat:Int)<=32)then true else decide (y19>=0)then
             ze (Zt ((y18.toNat:Int),s17.2)) fun y20=>
             some (LX.out (s17.1,y20))
            else
             ze (Zq (y18.toNat:Int)) fun y21=>
             need (zR s17.2.length 1 1)<|
             some (LX.out (s17.1,s17.2++[y21]))) fun j22=>
          some (LO.again (w64 (j22.1+1),j22.2))
         else
          some (LO.out s17.2):Int×List UInt8->Option (LO (Int×List UInt8) (List UInt8) _)) (0,x.2++([117,114,108,40]:Str)) fun o23=>
       need (zR o23.length 1 1)<|
       some (o23++[(41:UInt8)])
      else
       bif x.1.kind==9 then
        need (zR x.2.length x.1.text.length 1)<|
        some (x.2++x.1.text)
       else
        bif x.1.kind==10 then
         ze (Z6 ((x.1.num, !x.1.flag),x.2)) fun y24=>
         some y24
        else
         bif x.1.kind==11 then
          ze (Z6 ((x.1.num,false),x.2)) fun y25=>
          need (zR y25.length 1 1)<|
          some (y25++[(37:UInt8)])
         else
          bif x.1.kind==12 then
           ze (Z6 ((x.1.num, !x.1.flag),x.2)) fun y26=>
           ze (geti x.1.unit 0) fun y27=>
           need (decide (1<=(x.1.unit.length:Int))|| !(ibOr IntKind.u8 (y27.toNat:Int) 32==101))<|
           ze (zu (ibOr IntKind.u8 (y27.toNat:Int) 32==101) (Wq (List.drop 1 x.1.unit)) (default:Bool)) fun y28=>
           need (decide (1<=(x.1.unit.length:Int))|| !(bif ibOr IntKind.u8 (y27.toNat:Int) 32==101 then y28 else false))<|
           ze (zu (bif ibOr IntKind.u8 (y27.toNat:Int) 32==101 then y28 else false) (strings_HasPrefix (List.drop 1 x.1.unit,[45,45])) (default:Bool)) fun y29=>
           bif bif bif ibOr IntKind.u8 (y27.toNat:Int) 32==101 then y28 else false then !y29 else false then
            ze (geti x.1.unit 0) fun y30=>
            ze (Zt ((y30.toNat:Int),y26)) fun y31=>
            need (decide (1<=(x.1.unit.length:Int)))<|
            ze (ZY ((List.drop 1 x.1.unit,0),y31)) fun y32=>
            some y32
           else
            ze (Z8 x.1.unit) fun y33=>
            ze (ZY ((x.1.unit,y33),y26)) fun y34=>
            some y34
          else
           ze (lu ()) fun y35=>
           ze (geti [y35.e0,y35.e1,y35.e2,y35.e3,y35.e4,y35.e5,y35.e6,y35.e7,y35.e8,y35.e9,y35.e10,y35.e11] (wu8 (x.1.kind - 13))) fun y36=>
           need (zR x.2.length y36.length 1)<|
           some (x.2++y36)
def z8(x:za):Option za:=
 ZP (fun(s1:za)=>
   need (decide (0<=s1.at_)&&decide (s1.at_<=(s1.s.length:Int)))<|
   ze (strings_HasPrefix (List.drop s1.at_.toNat s1.s,[47,42])) fun y2=>
   bif y2 then
    need (decide (0<=w64 (s1.at_+2))&&decide (w64 (s1.at_+2)<=(s1.s.length:Int)))<|
    ze (Sk (List.drop (w64 (s1.at_+2)).toNat s1.s,[42,47])) fun y3=>
    bif decide (y3<0)then
     some (LO.ret (⟨s1.s,(s1.s.length:Int)⟩:za))
    else
     some (LO.again (⟨s1.s,w64 (s1.at_+w64 (y3+4))⟩:za))
   else
    some (LO.out s1):za->Option (LO (za) (za) _)) x fun o4=>
 some o4
def zf(x:Int×za):Option Int:=
 bif decide (w64 (x.2.at_+x.1)<(x.2.s.length:Int))then
  ze (geti x.2.s (w64 (x.2.at_+x.1))) fun y1=>
  some (w64 (y1.toNat:Int))
 else
  some (-1)
def ZZ(x:Int):Option Bool:=
 some (bif bif x==32 then true else x==9 then true else x==10)
def zY(x:za):Option za:=
 ZP (fun(s1:za)=>
   ze (zf (0,s1)) fun y2=>
   ze (ZZ y2) fun y3=>
   bif y3 then
    some (LO.again (⟨s1.s,w64 (s1.at_+1)⟩:za))
   else
    some (LO.out s1):za->Option (LO (za) (za) _)) x fun o4=>
 some o4
def qK(x:Int):Option (List UInt8):=
 bif decide (wu32 x<=2047)then
  ze (Zq (ibOr IntKind.u8 192 (wu8 (bg IntKind.i32 x 6)))) fun y1=>
  ze (Zq (ibOr IntKind.u8 128 (Ah IntKind.u8 (wu8 x) 63))) fun y2=>
  need (zR 0 2 1)<|
  some [y1,y2]
 else
  zN (X:=Bool) (
    bif decide (wu32 x<55296)then
     some (LX.out (decide (wu32 x<55296)))
    else
     some (LX.out (bif decide (57343<wu32 x)then decide (wu32 x<=65535)else false))) fun j3=>
  bif j3 then
   ze (Zq (ibOr IntKind.u8 224 (wu8 (bg IntKind.i32 x 12)))) fun y4=>
   ze (Zq (ibOr IntKind.u8 128 (Ah IntKind.u8 (wu8 (bg IntKind.i32 x 6)) 63))) fun y5=>
   ze (Zq (ibOr IntKind.u8 128 (Ah IntKind.u8 (wu8 x) 63))) fun y6=>
   need (zR 0 3 1)<|
   some [y4,y5,y6]
  else
   bif bif decide (wu32 x>65535)then decide (wu32 x<=1114111)else false then
    ze (Zq (ibOr IntKind.u8 240 (wu8 (bg IntKind.i32 x 18)))) fun y7=>
    ze (Zq (ibOr IntKind.u8 128 (Ah IntKind.u8 (wu8 (bg IntKind.i32 x 12)) 63))) fun y8=>
    ze (Zq (ibOr IntKind.u8 128 (Ah IntKind.u8 (wu8 (bg IntKind.i32 x 6)) 63))) fun y9=>
    ze (Zq (ibOr IntKind.u8 128 (Ah IntKind.u8 (wu8 x) 63))) fun y10=>
    need (zR 0 4 1)<|
    some [y7,y8,y9,y10]
   else
    need (zR 0 3 1)<|
    some [(239:UInt8),(191:UInt8),(189:UInt8)]
def ZB(x:Int):Option (List UInt8):=
 bif decide (wu32 x<=127)then
  ze (Zq (wu8 x)) fun y1=>
  need (zR 0 1 1)<|
  some [y1]
 else
  ze (qK x) fun y2=>
  some y2
def qD(x:Int×Int×Int):Option Bool:=
 some (bif decide (x.2.1<=x.1)then decide (x.1<=x.2.2)else false)
def ZI(x:Int):Option Bool:=
 ze (qD (x,48,57)) fun y1=>
 some y1
def Q4(x:Int):Option Int:=
 ze (ZI x) fun y1=>
 bif y1 then
  some (w64 (x - 48))
 else
  ze (zu (x != (-1)) (qD (ibOr IntKind.i64 x 32,97,102)) (default:Bool)) fun y2=>
  bif bif bif bif x != (-1)then y2 else false then decide (x>64)else false then decide (x<128)else false then
   some (w64 (w64 (ibOr IntKind.i64 x 32 - 97)+10))
  else
   some (-1)
def Zk(x:za):Option (za×List UInt8):=
 ze (zf (0,(⟨x.s,w64 (x.at_+1)⟩:za))) fun y1=>
 bif y1==(-1)then
  ze (ZB 65533) fun y2=>
  some ((⟨x.s,w64 (x.at_+1)⟩:za),y2)
 else
  ze (Q4 y1) fun y3=>
  bif decide (y3<0)then
   ze (Zq (wu8 y1)) fun y4=>
   need (zR 0 1 1)<|
   some ((⟨x.s,w64 (w64 (x.at_+1)+1)⟩:za),[y4])
  else
   ZP (fun(s5:(Int×Int)×za)=>
     bif decide (s5.1.2<6)then
      ze (zf (0,s5.2)) fun y6=>
      ze (Q4 y6) fun y7=>
      bif decide (y7<0)then
       some (LO.out (s5.1.1,s5.2))
      else
       some (LO.again ((ibOr IntKind.i64 (Yl IntKind.i64 s5.1.1 4) y7,w64 (s5.1.2+1)),(⟨s5.2.s,w64 (s5.2.at_+1)⟩:za)))
     else
      some (LO.out (s5.1.1,s5.2)):(Int×Int)×za->Option (LO ((Int×Int)×za) (Int×za) _)) ((0,0),(⟨x.s,w64 (x.at_+1)⟩:za)) fun o8=>
   zN (X:=Int×za) (
     ze (zf (0,o8.2)) fun y9=>
     ze (ZZ y9) fun y10=>
     bif y10 then
      some (LX.out (o8.1,(⟨o8.2.s,w64 (o8.2.at_+1)⟩:za)))
     else
      some (LX.out (o8.1,o8.2))) fun j11=>
   zN (X:=Int) (
     bif j11.1==0 then
      some (LX.out 65533)
     else
      some (LX.out j11.1)) fun j12=>
   ze (ZB (w32 j12)) fun y13=>
   some (j11.2,y13)
def qL(x:Int×List UInt8):Option (List UInt8):=
 bif decide (wu32 x.1<=2047)then
  ze (Zq (ibOr IntKind.u8 192 (wu8 (bg IntKind.i32 x.1 6)))) fun y1=>
  ze (Zq (ibOr IntKind.u8 128 (Ah IntKind.u8 (wu8 x.1) 63))) fun y2=>
  need (zR x.2.length 2 1)<|
  some (x.2++[y1,y2])
 else
  zN (X:=Bool×List UInt8) (
    bif decide (wu32 x.1<55296)then
     some (LX.out (decide (wu32 x.1<55296),x.2))
    else
     some (LX.out (bif decide (57343<wu32 x.1)then decide (wu32 x.1<=65535)else false,x.2))) fun j3=>
  bif j3.1 then
   ze (Zq (ibOr IntKind.u8 224 (wu8 (bg IntKind.i32 x.1 12)))) fun y4=>
   ze (Zq (ibOr IntKind.u8 128 (Ah IntKind.u8 (wu8 (bg IntKind.i32 x.1 6)) 63))) fun y5=>
   ze (Zq (ibOr IntKind.u8 128 (Ah IntKind.u8 (wu8 x.1) 63))) fun y6=>
   need (zR j3.2.length 3 1)<|
   some (j3.2++[y4,y5,y6])
  else
   bif bif decide (wu32 x.1>65535)then decide (wu32 x.1<=1114111)else false then
    ze (Zq (ibOr IntKind.u8 240 (wu8 (bg IntKind.i32 x.1 18)))) fun y7=>
    ze (Zq (ibOr IntKind.u8 128 (Ah IntKind.u8 (wu8 (bg IntKind.i32 x.1 12)) 63))) fun y8=>
    ze (Zq (ibOr IntKind.u8 128 (Ah IntKind.u8 (wu8 (bg IntKind.i32 x.1 6)) 63))) fun y9=>
    ze (Zq (ibOr IntKind.u8 128 (Ah IntKind.u8 (wu8 x.1) 63))) fun y10=>
    need (zR j3.2.length 4 1)<|
    some (j3.2++[y7,y8,y9,y10])
   else
    need (zR j3.2.length 3 1)<|
    some (j3.2++[(239:UInt8),(191:UInt8),(189:UInt8)])
def ZC(x:Int×List UInt8):Option (List UInt8):=
 bif decide (wu32 x.1<=127)then
  ze (Zq (wu8 x.1)) fun y1=>
  need (zR x.2.length 1 1)<|
  some (x.2++[y1])
 else
  ze (qL (x.1,x.2)) fun y2=>
  some y2
def zX(x:za×List UInt8):Option (za×List UInt8):=
 ze (zf (0,(⟨x.1.s,w64 (x.1.at_+1)⟩:za))) fun y1=>
 bif y1==(-1)then
  ze (ZC (65533,x.2)) fun y2=>
  some ((⟨x.1.s,w64 (x.1.at_+1)⟩:za),y2)
 else
  ze (Q4 y1) fun y3=>
  bif decide (y3<0)then
   ze (Zq (wu8 y1)) fun y4=>
   need (zR x.2.length 1 1)<|
   some ((⟨x.1.s,w64 (w64 (x.1.at_+1)+1)⟩:za),x.2++[y4])
  else
   ZP (fun(s5:(Int×Int)×za)=>
     bif decide (s5.1.2<6)then
      ze (zf (0,s5.2)) fun y6=>
      ze (Q4 y6) fun y7=>
      bif decide (y7<0)then
       some (LO.out (s5.1.1,s5.2))
      else
       some (LO.again ((ibOr IntKind.i64 (Yl IntKind.i64 s5.1.1 4) y7,w64 (s5.1.2+1)),(⟨s5.2.s,w64 (s5.2.at_+1)⟩:za)))
     else
      some (LO.out (s5.1.1,s5.2)):(Int×Int)×za->Option (LO ((Int×Int)×za) (Int×za) _)) ((0,0),(⟨x.1.s,w64 (x.1.at_+1)⟩:za)) fun o8=>
   zN (X:=Int×za×List UInt8) (
     ze (zf (0,o8.2)) fun y9=>
     ze (ZZ y9) fun y10=>
     bif y10 then
      some (LX.out (o8.1,(⟨o8.2.s,w64 (o8.2.at_+1)⟩:za),x.2))
     else
      some (LX.out (o8.1,o8.2,x.2))) fun j11=>
   zN (X:=Int×List UInt8) (
     bif j11.1==0 then
      some (LX.out (65533,j11.2.2))
     else
      some (LX.out (j11.1,j11.2.2))) fun j12=>
   ze (ZC (w32 j12.1,j12.2)) fun y13=>
   some (j11.2.1,y13)
def ZL(x:za):Option (zb×za):=
 ze (zf (0,x)) fun y1=>
 ZP (fun(s2:za×zb×List UInt8)=>
   ze (zf (0,s2.1)) fun y3=>
   bif y3==(-1)then
    some (LO.out (s2.1,s2.2.1,s2.2.2))
   else
    bif y3==y1 then
     some (LO.out ((⟨s2.1.s,w64 (s2.1.at_+1)⟩:za),s2.2.1,s2.2.2))
    else
     bif y3==10 then
      some (LO.ret ((⟨6,[],0,[],false⟩:zb),s2.1))
     else
      ze (zu (y3==92) (zf (1,s2.1)) (default:Int)) fun y4=>
      ze (zu (!(y4==(-1))&&y3==92) (zf (1,s2.1)) (default:Int)) fun y5=>
      bif bif y3==92 then bif y4==(-1)then true else y5==10 else false then
       some (LO.again ((⟨s2.1.s,if(s2.1.s.length:Int)<w64 (s2.1.at_+2)then(s2.1.s.length:Int)else w64 (s2.1.at_+2)⟩:za),s2.2.1,s2.2.2))
      else
       bif y3==92 then
        ze (zX (s2.1,s2.2.2)) fun y6=>
        some (LO.again (y6.1,s2.2.1,y6.2))
       else
        ze (Zq (wu8 y3)) fun y7=>
        need (zR s2.2.2.length 1 1)<|
        some (LO.again ((⟨s2.1.s,w64 (s2.1.at_+1)⟩:za),s2.2.1,s2.2.2++[y7])):za×zb×List UInt8->Option (LO (za×zb×List UInt8) (za×zb×List UInt8) _)) ((⟨x.s,w64 (x.at_+1)⟩:za),(⟨0,[],0,[],false⟩:zb),[]) fun o8=>
 some ((⟨5,o8.2.2,0,[],false⟩:zb),o8.1)
def uu(x:Int):Option Bool:=
 ze (qD (ibOr IntKind.i64 x 32,97,122)) fun y1=>
 some (bif bif bif bif y1 then decide (x<128)else false then decide (x>64)else false then true else x==95 then true else decide (x>=128))
def Tq(x:Int):Option Bool:=
 ze (uu x) fun y1=>
 ze (zu (!y1) (ZI x) (default:Bool)) fun y2=>
 some (bif bif y1 then true else y2 then true else x==45)
def zC(x:Int×za):Option Bool:=
 ze (zf (x.1,x.2)) fun y1=>
 ze (zu (y1==92) (zf (w64 (x.1+1),x.2)) (default:Int)) fun y2=>
 some (bif y1==92 then y2 != 10 else false)
def zH(x:Int×za):Option Bool:=
 ze (zf (x.1,x.2)) fun y1=>
 bif y1 != 45 then
  ze (zf (x.1,x.2)) fun y2=>
  ze (uu y2) fun y3=>
  ze (zu (!y3) (zC (x.1,x.2)) (default:Bool)) fun y4=>
  some (bif y3 then true else y4)
 else
  ze (zf (w64 (x.1+1),x.2)) fun y5=>
  ze (uu y5) fun y6=>
  ze (zu (!y6) (zf (w64 (x.1+1),x.2)) (default:Int)) fun y7=>
  ze (zu (!(bif y6 then true else y7==45)) (zC (w64 (x.1+1),x.2)) (default:Bool)) fun y8=>
  some (bif bif y6 then true else y7==45 then true else y8)
def zS(x:za):Option (Str×za):=
 ZP (fun(s1:za×List UInt8)=>
   ze (zf (0,s1.1)) fun y2=>
   ze (Tq y2) fun y3=>
   bif y3 then
    ze (Zq (wu8 y2)) fun y4=>
    need (zR s1.2.length 1 1)<|
    some (LO.again ((⟨s1.1.s,w64 (s1.1.at_+1)⟩:za),s1.2++[y4]))
   else
    ze (zu (y2 != (-1)) (zC (0,s1.1)) (default:Bool)) fun y5=>
    bif bif y2 != (-1)then y5 else false then
     ze (zX (s1.1,s1.2)) fun y6=>
     some (LO.again (y6.1,y6.2))
    else
     some (LO.ret (s1.2,s1.1)):za×List UInt8->Option (LO (za×List UInt8) (Unit) _)) (x,[]) fun o7=>
 none
def Zo(x:za):Option Bool:=
 zN (X:=Int) (
   ze (zf (0,x)) fun y1=>
   bif bif y1==43 then true else y1==45 then
    some (LX.out 1)
   else
    some (LX.out 0)) fun j2=>
 zN (X:=Int) (
   ze (zf (j2,x)) fun y3=>
   bif y3==46 then
    some (LX.out (w64 (j2+1)))
   else
    some (LX.out j2)) fun j4=>
 ze (zf (j4,x)) fun y5=>
 ze (ZI y5) fun y6=>
 some y6
def zO(x:za):Option za:=
 ZP (fun(s1:za)=>
   ze (zf (0,s1)) fun y2=>
   ze (ZI y2) fun y3=>
   bif y3 then
    some (LO.again (⟨s1.s,w64 (s1.at_+1)⟩:za))
   else
    some (LO.out s1):za->Option (LO (za) (za) _)) x fun o4=>
 some o4
def Zy(x:za):Option (Bool×za):=
 zN (X:=za) (
   ze (zf (0,x)) fun y1=>
   bif bif y1==43 then true else y1==45 then
    some (LX.out (⟨x.s,w64 (x.at_+1)⟩:za))
   else
    some (LX.out x)) fun j2=>
 ze (zO j2) fun y3=>
 zN (X:=Bool×za) (
   ze (zf (0,y3)) fun y4=>
   ze (zu (y4==46) (zf (1,y3)) (default:Int)) fun y5=>
   ze (zu (y4==46) (ZI y5) (default:Bool)) fun y6=>
   bif bif y4==46 then y6 else false then
    ze (zO (⟨y3.s,w64 (y3.at_+1)⟩:za)) fun y7=>
    some (LX.out (false,y7))
   else
    some (LX.out (true,y3))) fun j8=>
 zN (X:=Bool×za) (
   ze (zf (0,j8.2)) fun y9=>
   ze (zu (!(y9==101)) (zf (0,j8.2)) (default:Int)) fun y10=>
   bif bif y9==101 then true else y10==69 then
    zN (X:=(Bool×Int)×za) (
      ze (zf (1,j8.2)) fun y11=>
      bif bif y11==43 then true else y11==45 then
       some (LX.out ((j8.1,2),j8.2))
      else
       some (LX.out ((j8.1,1),j8.2))) fun j12=>
    ze (zf (j12.1.2,j12.2)) fun y13=>
    ze (ZI y13) fun y14=>
    bif y14 then
     ze (zO (⟨j12.2.s,w64 (j12.2.at_+j12.1.2)⟩:za)) fun y15=>
     some (LX.out (false,y15))
    else
     some (LX.out (j12.1.1,j12.2))
   else
    some (LX.out (j8.1,j8.2))) fun j16=>
 some (j16.1,j16.2)
def Zl(x:Str):Option Int:=
 ze (geti x 0) fun y1=>
 ze (Wh (x,[43,45])) fun y2=>
 zN (X:=Str×Int) (
   ze (Qw (y2,[101,69])) fun y3=>
   bif decide (y3>=0)then
    need (decide (0<=w64 (y3+1))&&decide (w64 (y3+1)<=(y2.length:Int)))<|
    ze (Wh (List.drop (w64 (y3+1)).toNat y2,[43,45])) fun y4=>
    need (decide (y4.length<=maxLen))<|
    ZP (fun(s5:Int×Int)=>
      bif decide (s5.2<(y4.length:Int))then
       need (decide (0<=s5.2)&&decide (s5.2<(y4.length:Int)))<|
       ze y4[s5.2.toNat]? fun y6=>
       some (LO.again (if 1048576<w64 (w64 (10*s5.1)+w64 (wu8 ((y6.toNat:Int) - 48)))then 1048576 else w64 (w64 (10*s5.1)+w64 (wu8 ((y6.toNat:Int) - 48))),w64 (s5.2+1)))
      else
       some (LO.out s5.1):Int×Int->Option (LO (Int×Int) (Int) _)) (0,0) fun o7=>
    zN (X:=Str×Int×Int) (
      ze (geti y2 (w64 (y3+1))) fun y8=>
      bif (y8.toNat:Int)==45 then
       some (LX.out (y2,3,w64 (0 - o7)))
      else
       some (LX.out (y2,3,o7))) fun j9=>
    need (decide (0<=y3)&&decide (y3<=(j9.1.length:Int)))<|
    some (LX.out (List.take y3.toNat j9.1,w64 (j9.2.1+j9.2.2)))
   else
    some (LX.out (y2,3))) fun j10=>
 ze (cutF (j10.1,[46])) fun y11=>
 need (Vf y11.1.length y11.2.1.length)<|
 zN (X:=Str×Int) (
   bif decide (w64 (j10.2 - (y11.2.1.length:Int))<0)then
    need (decide (0<=(if w64 (((y11.1++y11.2.1).length:Int)+w64 (j10.2 - (y11.2.1.length:Int)))>0 then w64 (((y11.1++y11.2.1).length:Int)+w64 (j10.2 - (y11.2.1.length:Int)))else 0))&&decide ((if w64 (((y11.1++y11.2.1).length:Int)+w64 (j10.2 - (y11.2.1.length:Int)))>0 then w64 (((y11.1++y11.2.1).length:Int)+w64 (j10.2 - (y11.2.1.length:Int)))else 0)<=((y11.1++y11.2.1).length:Int)))<|
    some (LX.out (List.take (if w64 (((y11.1++y11.2.1).length:Int)+w64 (j10.2 - (y11.2.1.length:Int)))>0 then w64 (((y11.1++y11.2.1).length:Int)+w64 (j10.2 - (y11.2.1.length:Int)))else 0).toNat (y11.1++y11.2.1),w64 (j10.2 - (y11.2.1.length:Int))))
   else
    some (LX.out (y11.1++y11.2.1,w64 (j10.2 - (y11.2.1.length:Int))))) fun j12=>
 need (decide (j12.1.length<=maxLen))<|
 ZP (fun(s13:Int×Int)=>
   bif decide (s13.2<(j12.1.length:Int))then
    need (decide (0<=s13.2)&&decide (s13.2<(j12.1.length:Int)))<|
    ze j12.1[s13.2.toNat]? fun y14=>
    some (LO.again (if 1000000000000<w64 (w64 (10*s13.1)+w64 (wu8 ((y14.toNat:Int) - 48)))then 1000000000000 else w64 (w64 (10*s13.1)+w64 (wu8 ((y14.toNat:Int) - 48))),w64 (s13.2+1)))
   else
    some (LO.out s13.1):Int×Int->Option (LO (Int×Int) (Int) _)) (0,0) fun o15=>
 ZP (fun(s16:Int×Int)=>
   bif bif bif decide (s16.1>0)then decide (s16.2>0)else false then decide (s16.2<1000000000000)else false then
    some (LO.again (w64 (s16.1 - 1),if 1000000000000<w64 (10*s16.2)then 1000000000000 else w64 (10*s16.2)))
   else
    some (LO.out s16.2):Int×Int->Option (LO (Int×Int) (Int) _)) (j12.2,o15) fun o17=>
 zN (X:=Int) (
   bif (y1.toNat:Int)==45 then
    some (LX.out (w64 (0 - o17)))
   else
    some (LX.out o17)) fun j18=>
 some j18
def Zj(x:za):Option (zb×za):=
 ze (Zy x) fun y1=>
 need (decide (0<=x.at_)&&(decide (x.at_<=y1.2.at_)&&decide (y1.2.at_<=(y1.2.s.length:Int))))<|
 ze (Zl (List.drop x.at_.toNat (List.take y1.2.at_.toNat y1.2.s))) fun y2=>
 zN (X:=za×zb×zb) (
   ze (zH (0,y1.2)) fun y3=>
   bif y3 then
    ze (zS y1.2) fun y4=>
    some (LX.out (y4.2,(⟨0,[],0,[],false⟩:zb),(⟨12,[],y2,y4.1,y1.1⟩:zb)))
   else
    ze (zf (0,y1.2)) fun y5=>
    bif y5==37 then
     some (LX.out ((⟨y1.2.s,w64 (y1.2.at_+1)⟩:za),(⟨0,[],0,[],false⟩:zb),(⟨11,[],y2,[],false⟩:zb)))
    else
     some (LX.out (y1.2,(⟨0,[],0,[],false⟩:zb),(⟨10,[],y2,[],y1.1⟩:zb)))) fun j6=>
 some (j6.2.2,j6.1)
def Zx(x:za):Option (zb×za):=
 ZP (fun(s1:za×zb)=>
   ze (zf (0,s1.1)) fun y2=>
   bif y2==(-1)then
    some (LO.ret ((⟨8,[],0,[],false⟩:zb),s1.1))
   else
    ze (zC (0,s1.1)) fun y3=>
    bif y3 then
     ze (Zk s1.1) fun y4=>
     some (LO.again (y4.1,s1.2))
    else
     ze (geti s1.1.s (w64 (w64 (s1.1.at_+1) - 1))) fun y5=>
     bif (y5.toNat:Int)==41 then
      some (LO.ret ((⟨8,[],0,[],false⟩:zb),(⟨s1.1.s,w64 (s1.1.at_+1)⟩:za)))
     else
      some (LO.again ((⟨s1.1.s,w64 (s1.1.at_+1)⟩:za),s1.2)):za×zb->Option (LO (za×zb) (Unit) _)) (x,(⟨0,[],0,[],false⟩:zb)) fun o6=>
 none
def qb(x:za):Option (zb×za):=
 ze (zY x) fun y1=>
 ZP (fun(s2:za×zb×List UInt8)=>
   ze (zf (0,s2.1)) fun y3=>
   zN (X:=Int×za×zb×List UInt8) (
     ze (ZZ y3) fun y4=>
     bif y4 then
      ze (zY s2.1) fun y5=>
      ze (zf (0,y5)) fun y6=>
      bif bif y6 != 41 then y6 != (-1)else false then
       ze (Zx y5) fun y7=>
       some (LX.ret (LO.ret (y7.1,y7.2)))
      else
       some (LX.out (y6,y5,s2.2.1,s2.2.2))
     else
      some (LX.out (y3,s2.1,s2.2.1,s2.2.2))) fun j8=>
   bif j8.1==(-1)then
    some (LO.ret ((⟨7,j8.2.2.2,0,[],false⟩:zb),j8.2.1))
   else
    bif j8.1==41 then
     some (LO.ret ((⟨7,j8.2.2.2,0,[],false⟩:zb),(⟨j8.2.1.s,w64 (j8.2.1.at_+1)⟩:za)))
    else
     ze (zu (!(bif bif bif bif j8.1==34 then true else j8.1==39 then true else j8.1==40 then true else decide (j8.1<=8)then true else j8.1==11)) (qD (j8.1,14,31)) (default:Bool)) fun y9=>
     bif bif bif bif bif bif bif j8.1==34 then true else j8.1==39 then true else j8.1==40 then true else decide (j8.1<=8)then true else j8.1==11 then true else y9 then true else j8.1==127 then
      ze (Zx j8.2.1) fun y10=>
      some (LO.ret (y10.1,y10.2))
     else
      bif j8.1 != 92 then
       ze (Zq (wu8 j8.1)) fun y11=>
       need (zR j8.2.2.2.length 1 1)<|
       some (LO.again ((⟨j8.2.1.s,w64 (j8.2.1.at_+1)⟩:za),j8.2.2.1,j8.2.2.2++[y11]))
      else
       ze (zC (0,j8.2.1)) fun y12=>
       bif y12 then
        ze (zX (j8.2.1,j8.2.2.2)) fun y13=>
        some (LO.again (y13.1,j8.2.2.1,y13.2))
       else
        ze (Zx j8.2.1) fun y14=>
        some (LO.ret (y14.1,y14.2)):za×zb×List UInt8->Option (LO (za×zb×List UInt8) (Unit) _)) (y1,(⟨0,[],0,[],false⟩:zb),[]) fun o15=>
 none
def Zi(x:za):Option (zb×za):=
 ze (zS x) fun y1=>
 ze (zf (0,y1.2)) fun y2=>
 bif y2 != 40 then
  some ((⟨1,y1.1,0,[],false⟩:zb),y1.2)
 else
  zN (X:=za×zb) (
    ze (Kn (y1.1,[117,114,108])) fun y3=>
    bif y3 then
     ze (zY (⟨y1.2.s,w64 (y1.2.at_+1)⟩:za)) fun y4=>
     ze (zf (0,y4)) fun y5=>
     bif bif y5 != 34 then y5 != 39 else false then
      ze (qb (⟨y1.2.s,w64 (y1.2.at_+1)⟩:za)) fun y6=>
      some (LX.ret (y6.1,y6.2))
     else
      some (LX.out ((⟨y1.2.s,w64 (y1.2.at_+1)⟩:za),(⟨0,[],0,[],false⟩:zb)))
    else
     some (LX.out ((⟨y1.2.s,w64 (y1.2.at_+1)⟩:za),(⟨0,[],0,[],false⟩:zb)))) fun j7=>
  some ((⟨2,y1.1,0,[],false⟩:zb),j7.1)
def ZJ(x:za):Option (zb×za):=
 ze (zf (0,x)) fun y1=>
 need (decide (0<=x.at_)&&decide (x.at_<=(x.s.length:Int)))<|
 ze (ZZ y1) fun y2=>
 bif y2 then
  ze (zY x) fun y3=>
  some ((⟨13,[],0,[],false⟩:zb),y3)
 else
  bif bif y1==34 then true else y1==39 then
   ze (ZL x) fun y4=>
   some (y4.1,y4.2)
  else
   ze (zu (y1==35) (zf (1,x)) (default:Int)) fun y5=>
   ze (zu (y1==35) (Tq y5) (default:Bool)) fun y6=>
   ze (zu (!y6&&y1==35) (zC (1,x)) (default:Bool)) fun y7=>
   bif bif y1==35 then bif y6 then true else y7 else false then
    ze (zH (1,x)) fun y8=>
    ze (zS (⟨x.s,w64 (x.at_+1)⟩:za)) fun y9=>
    some ((⟨4,y9.1,0,[],y8⟩:zb),y9.2)
   else
    ze (Zo x) fun y10=>
    bif y10 then
     ze (Zj x) fun y11=>
     some (y11.1,y11.2)
    else
     ze (strings_HasPrefix (List.drop x.at_.toNat x.s,[45,45,62])) fun y12=>
     bif y12 then
      some ((⟨15,[],0,[],false⟩:zb),(⟨x.s,w64 (x.at_+3)⟩:za))
     else
      ze (strings_HasPrefix (List.drop x.at_.toNat x.s,[60,33,45,45])) fun y13=>
      bif y13 then
       some ((⟨14,[],0,[],false⟩:zb),(⟨x.s,w64 (x.at_+4)⟩:za))
      else
       ze (zu (y1==64) (zH (1,x)) (default:Bool)) fun y14=>
       bif bif y1==64 then y14 else false then
        ze (zS (⟨x.s,w64 (x.at_+1)⟩:za)) fun y15=>
        some ((⟨3,y15.1,0,[],false⟩:zb),y15.2)
       else
        ze (zH (0,x)) fun y16=>
        bif y16 then
         ze (Zi x) fun y17=>
         some (y17.1,y17.2)
        else
         ze (strings_IndexByte ([58,59,44,91,93,40,41,123,125],wu8 y1)) fun y18=>
         bif decide (y18>=0)then
          some ((⟨wu8 (16+wu8 y18),[],0,[],false⟩:zb),(⟨x.s,w64 (x.at_+1)⟩:za))
         else
          need (decide (1<=((List.drop x.at_.toNat x.s).length:Int)))<|
          some ((⟨9,List.take 1 (List.drop x.at_.toNat x.s),0,[],false⟩:zb),(⟨x.s,w64 (x.at_+1)⟩:za))
def Qd(x:(zb×Int×Int)×List zb):Option (List zb):=
 need (zR x.2.length 1 56)<|
 some (x.2++[x.1.1])
def Sq(x:Str):Option (Int×List zb):=
 ze (Rj x) fun y1=>
 bif y1.2 != 0 then
  some (y1.2,[])
 else
  ze (z8 (⟨y1.1,0⟩:za)) fun y2=>
  ZP (fun(s3:Int×List zb×za)=>
    bif decide (s3.2.2.at_<(y1.1.length:Int))then
     bif decide (w64 (s3.1+1)>1500)then
      some (LO.ret (4,s3.2.1))
     else
      ze (ZJ s3.2.2) fun y4=>
      ze (Qd ((y4.1,s3.2.2.at_,y4.2.at_),s3.2.1)) fun y5=>
      ze (z8 y4.2) fun y6=>
      some (LO.again (w64 (s3.1+1),y5,y6))
    else
     some (LO.out (s3.2.1,s3.2.2)):Int×List zb×za->Option (LO (Int×List zb×za) (List zb×za) _)) (0,[],y2) fun o7=>
  some (0,o7.1)
def qU(x:Str):Option (List zb×Int):=
 ze (Sq x) fun y1=>
 bif y1.1 != 0 then
  some ([],y1.1)
 else
  some (y1.2,0)
def ZH(x:List zb×List zb):Option Bool:=
 bif (x.1.length:Int) != (x.2.length:Int)then
  some false
 else
  ZP (fun(s1:Int)=>
    bif decide (s1<(x.1.length:Int))then
     ze (geti x.1 s1) fun y2=>
     ze (geti x.2 s1) fun y3=>
     bif !(y2.kind==y3.kind&&(y2.text==y3.text&&(y2.num==y3.num&&(y2.unit==y3.unit&&(y2.flag==y3.flag&&true)))))then
      some (LO.ret false)
     else
      some (LO.again (w64 (s1+1)))
    else
     some (LO.out ()):Int->Option (LO (Int) (Unit) _)) 0 fun o4=>
  some true
def QG(x:List zb):Option (Str×Int):=
 ze (Kl x) fun y1=>
 bif y1 != 0 then
  some ([],y1)
 else
  ZP (fun(s2:Int×List UInt8×List zq)=>
    bif decide (s2.1<(x.length:Int))then
     need (decide (0<=s2.1)&&decide (s2.1<=(x.length:Int)))<|
     ze (Qh (List.drop s2.1.toNat x)) fun y3=>
     need (decide (0<=s2.1)&&(decide (s2.1<=w64 (s2.1+y3))&&decide (w64 (s2.1+y3)<=(x.length:Int))))<|
     ZP (fun(s4:Int×List UInt8)=>
       bif decide (s4.1<((List.drop s2.1.toNat (List.take (w64 (s2.1+y3)).toNat x)).length:Int))then
        ze (geti (List.drop s2.1.toNat (List.take (w64 (s2.1+y3)).toNat x)) s4.1) fun y5=>
        ze (Nn (y5,s4.2)) fun y6=>
        some (LO.again (w64 (s4.1+1),y6))
       else
        some (LO.out s4.2):Int×List UInt8->Option (LO (Int×List UInt8) (List UInt8) _)) (0,[]) fun o7=>
     zN (X:=Int×List UInt8×List zq×List UInt8) (
       ze (geti x s2.1) fun y8=>
       bif bif y8.kind==9 then y3==2 else false then
        some (LX.out (s2.1,s2.2.1,s2.2.2,[(92:UInt8),(10:UInt8)]))
       else
        some (LX.out (s2.1,s2.2.1,s2.2.2,o7))) fun j9=>
     zN (X:=Int×List UInt8×List zq×zq) (
       bif decide (w64 ((j9.2.2.1.length:Int) - 4)>=0)then
        need (decide (0<=w64 ((j9.2.2.1.length:Int) - 4))&&decide (w64 ((j9.2.2.1.length:Int) - 4)<(j9.2.2.1.length:Int)))<|
        ze (j9.2.2.1[(w64 ((j9.2.2.1.length:Int) - 4)).toNat]?) fun y10=>
        some (LX.out (j9.1,j9.2.1,j9.2.2.1,y10))
       else
        some (LX.out (j9.1,j9.2.1,j9.2.2.1,(⟨0,0⟩:zq)))) fun j11=>
     need (decide (0<=j11.2.2.2.at_)&&decide (j11.2.2.2.at_<=(j11.2.1.length:Int)))<|
     need (decide (j11.2.2.2.at_.toNat+(j11.2.1.length - j11.2.2.2.at_.toNat)<=j11.2.1.length))<|
     need (Vf (List.take (j11.2.1.length - j11.2.2.2.at_.toNat) (List.drop j11.2.2.2.at_.toNat j11.2.1)).length j9.2.2.2.length)<|
     ze (qU (List.take (j11.2.1.length - j11.2.2.2.at_.toNat) (List.drop j11.2.2.2.at_.toNat j11.2.1)++j9.2.2.2)) fun y12=>
     zN (X:=Int×List zq×List UInt8) (
       need (decide (0<=j11.2.2.2.token)&&(decide (j11.2.2.2.token<=w64 (j11.1+y3))&&decide (w64 (j11.1+y3)<=(x.length:Int)))|| !(!(y12.2 != 0)))<|
       ze (zu (!(y12.2 != 0)) (ZH (y12.1,List.drop j11.2.2.2.token.toNat (List.take (w64 (j11.1+y3)).toNat x))) (default:Bool)) fun y13=>
       bif bif y12.2 != 0 then true else !y13 then
        need (zR j11.2.1.length ([47,42,42,47]:Str).length 1)<|
        some (LX.out (j11.1,j11.2.2.1,j11.2.1++([47,42,42,47]:Str)))
       else
        some (LX.out (j11.1,j11.2.2.1,j11.2.1))) fun j14=>
     need (zR j14.2.1.length 1 16)<|
     need (zR j14.2.2.length j9.2.2.2.length 1)<|
     bif decide (((j14.2.2++j9.2.2.2).length:Int)>4000)then
      some (LO.ret ([],28))
     else
      some (LO.again (w64 (j14.1+y3),j14.2.2++j9.2.2.2,j14.2.1++[(⟨j14.1,(j14.2.2.length:Int)⟩:zq)]))
    else
     some (LO.out s2.2.1):Int×List UInt8×List zq->Option (LO (Int×List UInt8×List zq) (List UInt8) _)) (0,[],[]) fun o15=>
  some (o15,0)
def zW(x:Str×List zb):Option Bool:=
 ze (QG x.2) fun y1=>
 some (bif y1.2==0 then y1.1==x.1 else false)
def Gn(x:Unit):Option Bool:=
 ze (Yq [49,32,97]) fun y1=>
 ze (zW ([92,51,49,32,92,50,48,32,97],[y1])) fun y2=>
 ze (zu y2 (zW ([34,97,92,34,92,97,32,34],[(⟨5,[97,34,10],0,[],false⟩:zb)])) (default:Bool)) fun y3=>
 ze (zu (bif y2 then y3 else false) (zW ([49,46,53,92,54,53,32,51],[(⟨12,[],1500,[101,51],false⟩:zb)])) (default:Bool)) fun y4=>
 ze (zu (bif bif y2 then y3 else false then y4 else false) (Yq [97]) (default:zb)) fun y5=>
 ze (zu (bif bif y2 then y3 else false then y4 else false) (Yq [98]) (default:zb)) fun y6=>
 ze (zu (bif bif y2 then y3 else false then y4 else false) (zW ([97,47,42,42,47,98],[y5,y6])) (default:Bool)) fun y7=>
 ze (zu (bif bif bif y2 then y3 else false then y4 else false then y7 else false) (Yq [97]) (default:zb)) fun y8=>
 ze (zu (bif bif bif y2 then y3 else false then y4 else false then y7 else false) (zW ([97,58],[y8,(⟨16,[],0,[],false⟩:zb)])) (default:Bool)) fun y9=>
 ze (zu (bif bif bif bif y2 then y3 else false then y4 else false then y7 else false then y9 else false) (zW ([50,46,48],[(⟨10,[],2000,[],false⟩:zb)])) (default:Bool)) fun y10=>
 some (bif bif bif bif bif y2 then y3 else false then y4 else false then y7 else false then y9 else false then y10 else false)
def tu(x:List zb×List zb):Option Bool:=
 bif (x.1.length:Int) != (x.2.length:Int)then
  some false
 else
  ZP (fun(s1:Int)=>
    bif decide (s1<(x.1.length:Int))then
     ze (geti x.1 s1) fun y2=>
     ze (geti x.2 s1) fun y3=>
     bif !(y2.kind==y3.kind&&(y2.text==y3.text&&(y2.num==y3.num&&(y2.unit==y3.unit&&(y2.flag==y3.flag&&true)))))then
      some (LO.ret false)
     else
      some (LO.again (w64 (s1+1)))
    else
     some (LO.out ()):Int->Option (LO (Int) (Unit) _)) 0 fun o4=>
  some true
def XA(x:List zb×Int):Option Bool:=
 ze (vz x.1) fun y1=>
 ze (zu (!y1) (ym x.1) (default:Int)) fun y2=>
 need (decide (0<=x.2)&&decide (x.2<=(x.1.length:Int))|| !(!(bif bif bif y1 then true else y2 != 0 then true else decide (x.2<1)then true else decide (x.2>=(x.1.length:Int)))))<|
 ze (zu (!(bif bif bif y1 then true else y2 != 0 then true else decide (x.2<1)then true else decide (x.2>=(x.1.length:Int)))) (ym (List.take x.2.toNat x.1)) (default:Int)) fun y3=>
 need (decide (0<=x.2)&&decide (x.2<=(x.1.length:Int))|| !(!(bif bif bif bif y1 then true else y2 != 0 then true else decide (x.2<1)then true else decide (x.2>=(x.1.length:Int))then true else y3 != 0)))<|
 ze (zu (!(bif bif bif bif y1 then true else y2 != 0 then true else decide (x.2<1)then true else decide (x.2>=(x.1.length:Int))then true else y3 != 0)) (ym (List.drop x.2.toNat x.1)) (default:Int)) fun y4=>
 bif bif bif bif bif bif y1 then true else y2 != 0 then true else decide (x.2<1)then true else decide (x.2>=(x.1.length:Int))then true else y3 != 0 then true else y4 != 0 then
  ze (Gn ()) fun y5=>
  some y5
 else
  ze (QG x.1) fun y6=>
  need (decide (0<=x.2)&&decide (x.2<=(x.1.length:Int)))<|
  ze (QG (List.take x.2.toNat x.1)) fun y7=>
  bif bif y6.2 != 0 then true else y7.2 != 0 then
   ze (zu (y6.2==28) (Gn ()) (default:Bool)) fun y8=>
   some (bif y6.2==28 then y8 else false)
  else
   need (decide (0<=(y7.1.length:Int))&&decide ((y7.1.length:Int)<=(y6.1.length:Int))|| !(!(decide ((y6.1.length:Int)<(y7.1.length:Int)))))<|
   bif bif decide ((y6.1.length:Int)<(y7.1.length:Int))then true else !(List.take y7.1.length y6.1==y7.1)then
    some false
   else
    need (decide (0<=(y7.1.length:Int))&&decide ((y7.1.length:Int)<=(y6.1.length:Int)))<|
    ze (qU (List.drop y7.1.length y6.1)) fun y9=>
    need (decide (0<=x.2)&&decide (x.2<=(x.1.length:Int))|| !(!(y9.2 != 0)))<|
    ze (zu (!(y9.2 != 0)) (tu (y9.1,List.drop x.2.toNat x.1)) (default:Bool)) fun y10=>
    bif bif y9.2 != 0 then true else !y10 then
     some false
    else
     need (decide (4<=((List.drop y7.1.length y6.1).length:Int))|| !(!(decide (((List.drop y7.1.length y6.1).length:Int)<4))))<|
     bif bif decide (((List.drop y7.1.length y6.1).length:Int)<4)then true else !(List.take 4 (List.drop y7.1.length y6.1)==[47,42,42,47])then
      ze (Gn ()) fun y11=>
      some y11
     else
      need (decide (4<=((List.drop y7.1.length y6.1).length:Int)))<|
      need (Vf y7.1.length (List.drop 4 (List.drop y7.1.length y6.1)).length)<|
      ze (qU (y7.1++List.drop 4 (List.drop y7.1.length y6.1))) fun y12=>
      ze (zu (!(y12.2 != 0)) (tu (y12.1,x.1)) (default:Bool)) fun y13=>
      ze (zu (bif y12.2 != 0 then true else !y13) (Gn ()) (default:Bool)) fun y14=>
      some (bif bif y12.2 != 0 then true else !y13 then y14 else false)
end Go.Lv.VT
end
