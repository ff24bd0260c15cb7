/- Texts. -/
import Derived.Test.YtcdeccnjlkkejaaGreatDoorTy
import Derived.Test.YtcdeccnjlkkejaaGreatDoorLf
noncomputable section
set_option linter.unusedSimpArgs false
set_option linter.unusedVariables false
namespace Go.Lv.VT
set_option maxRecDepth 100000
def stringslite_HasPrefix(x:Str×Str):Option Bool:=
 need (decide (0<=(x.2.length:Int))&&decide ((x.2.length:Int)<=(x.1.length:Int))|| !(decide ((x.1.length:Int)>=(x.2.length:Int))))<|
 some (bif decide ((x.1.length:Int)>=(x.2.length:Int))then List.take x.2.length x.1==x.2 else false)
def strings_HasPrefix(x:Str×Str):Option Bool:=
 zg (stringslite_HasPrefix (x.1,x.2)) fun y1=>
 some y1
def Zb(x:za):Option za:=
 ZR (fun(s1:za)=>
   need (decide (0<=s1.at_)&&decide (s1.at_<=(s1.s.length:Int)))<|
   zg (strings_HasPrefix (List.drop s1.at_.toNat s1.s,[47,42])) fun y2=>
   bif y2 then
    need (decide (0<=w64 (s1.at_+2))&&decide (w64 (s1.at_+2)<=(s1.s.length:Int)))<|
    zg (Ji (List.drop (w64 (s1.at_+2)).toNat s1.s,[42,47])) fun y3=>
    bif decide (y3<0)then
     some (LO.ret (⟨s1.s,(s1.s.length:Int)⟩:za))
    else
     some (LO.again (⟨s1.s,w64 (s1.at_+w64 (y3+4))⟩:za))
   else
    some (LO.out s1):za->Option (LO (za) (za) _)) x fun o4=>
 some o4
def zf(x:Int×za):Option Int:=
 bif decide (w64 (x.2.at_+x.1)<(x.2.s.length:Int))then
  zg (geti x.2.s (w64 (x.2.at_+x.1))) fun y1=>
  some (w64 (y1.toNat:Int))
 else
  some (-1)
def Zr(x:Int):Option Bool:=
 some (bif bif x==32 then true else x==9 then true else x==10)
def zQ(x:za):Option za:=
 ZR (fun(s1:za)=>
   zg (zf (0,s1)) fun y2=>
   zg (Zr y2) fun y3=>
   bif y3 then
    some (LO.again (⟨s1.s,w64 (s1.at_+1)⟩:za))
   else
    some (LO.out s1):za->Option (LO (za) (za) _)) x fun o4=>
 some o4
def qb(x:Int):Option (List UInt8):=
 bif decide (wu32 x<=2047)then
  zg (qf (ibOr IntKind.u8 192 (wu8 (Pg IntKind.i32 x 6)))) fun y1=>
  zg (qf (ibOr IntKind.u8 128 (xg IntKind.u8 (wu8 x) 63))) fun y2=>
  need (zD 0 2 1)<|
  some [y1,y2]
 else
  zY (X:=Bool) (
    bif decide (wu32 x<55296)then
     some (LX.out (decide (wu32 x<55296)))
    else
     some (LX.out (bif decide (57343<wu32 x)then decide (wu32 x<=65535)else false))) fun j3=>
  bif j3 then
   zg (qf (ibOr IntKind.u8 224 (wu8 (Pg IntKind.i32 x 12)))) fun y4=>
   zg (qf (ibOr IntKind.u8 128 (xg IntKind.u8 (wu8 (Pg IntKind.i32 x 6)) 63))) fun y5=>
   zg (qf (ibOr IntKind.u8 128 (xg IntKind.u8 (wu8 x) 63))) fun y6=>
   need (zD 0 3 1)<|
   some [y4,y5,y6]
  else
   bif bif decide (wu32 x>65535)then decide (wu32 x<=1114111)else false then
    zg (qf (ibOr IntKind.u8 240 (wu8 (Pg IntKind.i32 x 18)))) fun y7=>
    zg (qf (ibOr IntKind.u8 128 (xg IntKind.u8 (wu8 (Pg IntKind.i32 x 12)) 63))) fun y8=>
    zg (qf (ibOr IntKind.u8 128 (xg IntKind.u8 (wu8 (Pg IntKind.i32 x 6)) 63))) fun y9=>
    zg (qf (ibOr IntKind.u8 128 (xg IntKind.u8 (wu8 x) 63))) fun y10=>
    need (zD 0 4 1)<|
    some [y7,y8,y9,y10]
   else
    need (zD 0 3 1)<|
    some [(239:UInt8),(191:UInt8),(189:UInt8)]
def Zw(x:Int):Option (List UInt8):=
 bif decide (wu32 x<=127)then
  zg (qf (wu8 x)) fun y1=>
  need (zD 0 1 1)<|
  some [y1]
 else
  zg (qb x) fun y2=>
  some y2
def ZO(x:Int×Int×Int):Option Bool:=
 some (bif decide (x.2.1<=x.1)then decide (x.1<=x.2.2)else false)
def Zg(x:Int):Option Bool:=
 zg (ZO (x,48,57)) fun y1=>
 some y1
def Qz(x:Int):Option Int:=
 zg (Zg x) fun y1=>
 bif y1 then
  some (w64 (x - 48))
 else
  zg (zx (x != (-1)) (ZO (ibOr IntKind.i64 x 32,97,102)) (default:Bool)) fun y2=>
  bif bif bif bif x != (-1)then y2 else false then decide (x>64)else false then decide (x<128)else false then
   some (w64 (w64 (ibOr IntKind.i64 x 32 - 97)+10))
  else
   some (-1)
def Zh(x:za):Option (za×List UInt8):=
 zg (zf (0,(⟨x.s,w64 (x.at_+1)⟩:za))) fun y1=>
 bif y1==(-1)then
  zg (Zw 65533) fun y2=>
  some ((⟨x.s,w64 (x.at_+1)⟩:za),y2)
 else
  zg (Qz y1) fun y3=>
  bif decide (y3<0)then
   zg (qf (wu8 y1)) fun y4=>
   need (zD 0 1 1)<|
   some ((⟨x.s,w64 (w64 (x.at_+1)+1)⟩:za),[y4])
  else
   ZR (fun(s5:(Int×Int)×za)=>
     bif decide (s5.1.2<6)then
      zg (zf (0,s5.2)) fun y6=>
      zg (Qz y6) fun y7=>
      bif decide (y7<0)then
       some (LO.out (s5.1.1,s5.2))
      else
       some (LO.again ((ibOr IntKind.i64 (ik IntKind.i64 s5.1.1 4) y7,w64 (s5.1.2+1)),(⟨s5.2.s,w64 (s5.2.at_+1)⟩:za)))
     else
      some (LO.out (s5.1.1,s5.2)):(Int×Int)×za->Option (LO ((Int×Int)×za) (Int×za) _)) ((0,0),(⟨x.s,w64 (x.at_+1)⟩:za)) fun o8=>
   zY (X:=Int×za) (
     zg (zf (0,o8.2)) fun y9=>
     zg (Zr y9) fun y10=>
     bif y10 then
      some (LX.out (o8.1,(⟨o8.2.s,w64 (o8.2.at_+1)⟩:za)))
     else
      some (LX.out (o8.1,o8.2))) fun j11=>
   zY (X:=Int) (
     bif j11.1==0 then
      some (LX.out 65533)
     else
      some (LX.out j11.1)) fun j12=>
   zg (Zw (w32 j12)) fun y13=>
   some (j11.2,y13)
def qc(x:Int×List UInt8):Option (List UInt8):=
 bif decide (wu32 x.1<=2047)then
  zg (qf (ibOr IntKind.u8 192 (wu8 (Pg IntKind.i32 x.1 6)))) fun y1=>
  zg (qf (ibOr IntKind.u8 128 (xg IntKind.u8 (wu8 x.1) 63))) fun y2=>
  need (zD x.2.length 2 1)<|
  some (x.2++[y1,y2])
 else
  zY (X:=Bool×List UInt8) (
    bif decide (wu32 x.1<55296)then
     some (LX.out (decide (wu32 x.1<55296),x.2))
    else
     some (LX.out (bif decide (57343<wu32 x.1)then decide (wu32 x.1<=65535)else false,x.2))) fun j3=>
  bif j3.1 then
   zg (qf (ibOr IntKind.u8 224 (wu8 (Pg IntKind.i32 x.1 12)))) fun y4=>
   zg (qf (ibOr IntKind.u8 128 (xg IntKind.u8 (wu8 (Pg IntKind.i32 x.1 6)) 63))) fun y5=>
   zg (qf (ibOr IntKind.u8 128 (xg IntKind.u8 (wu8 x.1) 63))) fun y6=>
   need (zD j3.2.length 3 1)<|
   some (j3.2++[y4,y5,y6])
  else
   bif bif decide (wu32 x.1>65535)then decide (wu32 x.1<=1114111)else false then
    zg (qf (ibOr IntKind.u8 240 (wu8 (Pg IntKind.i32 x.1 18)))) fun y7=>
    zg (qf (ibOr IntKind.u8 128 (xg IntKind.u8 (wu8 (Pg IntKind.i32 x.1 12)) 63))) fun y8=>
    zg (qf (ibOr IntKind.u8 128 (xg IntKind.u8 (wu8 (Pg IntKind.i32 x.1 6)) 63))) fun y9=>
    zg (qf (ibOr IntKind.u8 128 (xg IntKind.u8 (wu8 x.1) 63))) fun y10=>
    need (zD j3.2.length 4 1)<|
    some (j3.2++[y7,y8,y9,y10])
   else
    need (zD j3.2.length 3 1)<|
    some (j3.2++[(239:UInt8),(191:UInt8),(189:UInt8)])
def Zx(x:Int×List UInt8):Option (List UInt8):=
 bif decide (wu32 x.1<=127)then
  zg (qf (wu8 x.1)) fun y1=>
  need (zD x.2.length 1 1)<|
  some (x.2++[y1])
 else
  zg (qc (x.1,x.2)) fun y2=>
  some y2
def zL(x:za×List UInt8):Option (za×List UInt8):=
 zg (zf (0,(⟨x.1.s,w64 (x.1.at_+1)⟩:za))) fun y1=>
 bif y1==(-1)then
  zg (Zx (65533,x.2)) fun y2=>
  some ((⟨x.1.s,w64 (x.1.at_+1)⟩:za),y2)
 else
  zg (Qz y1) fun y3=>
  bif decide (y3<0)then
   zg (qf (wu8 y1)) fun y4=>
   need (zD x.2.length 1 1)<|
   some ((⟨x.1.s,w64 (w64 (x.1.at_+1)+1)⟩:za),x.2++[y4])
  else
   ZR (fun(s5:(Int×Int)×za)=>
     bif decide (s5.1.2<6)then
      zg (zf (0,s5.2)) fun y6=>
      zg (Qz y6) fun y7=>
      bif decide (y7<0)then
       some (LO.out (s5.1.1,s5.2))
      else
       some (LO.again ((ibOr IntKind.i64 (ik IntKind.i64 s5.1.1 4) y7,w64 (s5.1.2+1)),(⟨s5.2.s,w64 (s5.2.at_+1)⟩:za)))
     else
      some (LO.out (s5.1.1,s5.2)):(Int×Int)×za->Option (LO ((Int×Int)×za) (Int×za) _)) ((0,0),(⟨x.1.s,w64 (x.1.at_+1)⟩:za)) fun o8=>
   zY (X:=Int×za×List UInt8) (
     zg (zf (0,o8.2)) fun y9=>
     zg (Zr y9) fun y10=>
     bif y10 then
      some (LX.out (o8.1,(⟨o8.2.s,w64 (o8.2.at_+1)⟩:za),x.2))
     else
      some (LX.out (o8.1,o8.2,x.2))) fun j11=>
   zY (X:=Int×List UInt8) (
     bif j11.1==0 then
      some (LX.out (65533,j11.2.2))
     else
      some (LX.out (j11.1,j11.2.2))) fun j12=>
   zg (Zx (w32 j12.1,j12.2)) fun y13=>
   some (j11.2.1,y13)
def ZA(x:za):Option (ze×za):=
 zg (zf (0,x)) fun y1=>
 ZR (fun(s2:za×ze×List UInt8)=>
   zg (zf (0,s2.1)) fun y3=>
   bif y3==(-1)then
    some (LO.out (s2.1,s2.2.1,s2.2.2))
   else
    bif y3==y1 then
     some (LO.out ((⟨s2.1.s,w64 (s2.1.at_+1)⟩:za),s2.2.1,s2.2.2))
    else
     bif y3==10 then
      some (LO.ret ((⟨6,[],0,[],false⟩:ze),s2.1))
     else
      zg (zx (y3==92) (zf (1,s2.1)) (default:Int)) fun y4=>
      zg (zx (!(y4==(-1))&&y3==92) (zf (1,s2.1)) (default:Int)) fun y5=>
      bif bif y3==92 then bif y4==(-1)then true else y5==10 else false then
       some (LO.again ((⟨s2.1.s,if(s2.1.s.length:Int)<w64 (s2.1.at_+2)then(s2.1.s.length:Int)else w64 (s2.1.at_+2)⟩:za),s2.2.1,s2.2.2))
      else
       bif y3==92 then
        zg (zL (s2.1,s2.2.2)) fun y6=>
        some (LO.again (y6.1,s2.2.1,y6.2))
       else
        zg (qf (wu8 y3)) fun y7=>
        need (zD s2.2.2.length 1 1)<|
        some (LO.again ((⟨s2.1.s,w64 (s2.1.at_+1)⟩:za),s2.2.1,s2.2.2++[y7])):za×ze×List UInt8->Option (LO (za×ze×List UInt8) (za×ze×List UInt8) _)) ((⟨x.s,w64 (x.at_+1)⟩:za),(⟨0,[],0,[],false⟩:ze),[]) fun o8=>
 some ((⟨5,o8.2.2,0,[],false⟩:ze),o8.1)
def Tm(x:Int):Option Bool:=
 zg (ZO (ibOr IntKind.i64 x 32,97,122)) fun y1=>
 some (bif bif bif bif y1 then decide (x<128)else false then decide (x>64)else false then true else x==95 then true else decide (x>=128))
def Qk(x:Int):Option Bool:=
 zg (Tm x) fun y1=>
 zg (zx (!y1) (Zg x) (default:Bool)) fun y2=>
 some (bif bif y1 then true else y2 then true else x==45)
def zq(x:Int×za):Option Bool:=
 zg (zf (x.1,x.2)) fun y1=>
 zg (zx (y1==92) (zf (w64 (x.1+1),x.2)) (default:Int)) fun y2=>
 some (bif y1==92 then y2 != 10 else false)
def zy(x:Int×za):Option Bool:=
 zg (zf (x.1,x.2)) fun y1=>
 bif y1 != 45 then
  zg (zf (x.1,x.2)) fun y2=>
  zg (Tm y2) fun y3=>
  zg (zx (!y3) (zq (x.1,x.2)) (default:Bool)) fun y4=>
  some (bif y3 then true else y4)
 else
  zg (zf (w64 (x.1+1),x.2)) fun y5=>
  zg (Tm y5) fun y6=>
  zg (zx (!y6) (zf (w64 (x.1+1),x.2)) (default:Int)) fun y7=>
  zg (zx (!(bif y6 then true else y7==45)) (zq (w64 (x.1+1),x.2)) (default:Bool)) fun y8=>
  some (bif bif y6 then true else y7==45 then true else y8)
def zM(x:za):Option (Str×za):=
 ZR (fun(s1:za×List UInt8)=>
   zg (zf (0,s1.1)) fun y2=>
   zg (Qk y2) fun y3=>
   bif y3 then
    zg (qf (wu8 y2)) fun y4=>
    need (zD s1.2.length 1 1)<|
    some (LO.again ((⟨s1.1.s,w64 (s1.1.at_+1)⟩:za),s1.2++[y4]))
   else
    zg (zx (y2 != (-1)) (zq (0,s1.1)) (default:Bool)) fun y5=>
    bif bif y2 != (-1)then y5 else false then
     zg (zL (s1.1,s1.2)) fun y6=>
     some (LO.again (y6.1,y6.2))
    else
     some (LO.ret (s1.2,s1.1)):za×List UInt8->Option (LO (za×List UInt8) (Unit) _)) (x,[]) fun o7=>
 none
def Zl(x:za):Option Bool:=
 zY (X:=Int) (
   zg (zf (0,x)) fun y1=>
   bif bif y1==43 then true else y1==45 then
    some (LX.out 1)
   else
    some (LX.out 0)) fun j2=>
 zY (X:=Int) (
   zg (zf (j2,x)) fun y3=>
   bif y3==46 then
    some (LX.out (w64 (j2+1)))
   else
    some (LX.out j2)) fun j4=>
 zg (zf (j4,x)) fun y5=>
 zg (Zg y5) fun y6=>
 some y6
def zO(x:za):Option za:=
 ZR (fun(s1:za)=>
   zg (zf (0,s1)) fun y2=>
   zg (Zg y2) fun y3=>
   bif y3 then
    some (LO.again (⟨s1.s,w64 (s1.at_+1)⟩:za))
   else
    some (LO.out s1):za->Option (LO (za) (za) _)) x fun o4=>
 some o4
def Zq(x:za):Option (Bool×za):=
 zY (X:=za) (
   zg (zf (0,x)) fun y1=>
   bif bif y1==43 then true else y1==45 then
    some (LX.out (⟨x.s,w64 (x.at_+1)⟩:za))
   else
    some (LX.out x)) fun j2=>
 zg (zO j2) fun y3=>
 zY (X:=Bool×za) (
   zg (zf (0,y3)) fun y4=>
   zg (zx (y4==46) (zf (1,y3)) (default:Int)) fun y5=>
   zg (zx (y4==46) (Zg y5) (default:Bool)) fun y6=>
   bif bif y4==46 then y6 else false then
    zg (zO (⟨y3.s,w64 (y3.at_+1)⟩:za)) fun y7=>
    some (LX.out (false,y7))
   else
    some (LX.out (true,y3))) fun j8=>
 zY (X:=Bool×za) (
   zg (zf (0,j8.2)) fun y9=>
   zg (zx (!(y9==101)) (zf (0,j8.2)) (default:Int)) fun y10=>
   bif bif y9==101 then true else y10==69 then
    zY (X:=(Bool×Int)×za) (
      zg (zf (1,j8.2)) fun y11=>
      bif bif y11==43 then true else y11==45 then
       some (LX.out ((j8.1,2),j8.2))
      else
       some (LX.out ((j8.1,1),j8.2))) fun j12=>
    zg (zf (j12.1.2,j12.2)) fun y13=>
    zg (Zg y13) fun y14=>
    bif y14 then
     zg (zO (⟨j12.2.s,w64 (j12.2.at_+j12.1.2)⟩:za)) fun y15=>
     some (LX.out (false,y15))
    else
     some (LX.out (j12.1.1,j12.2))
   else
    some (LX.out (j8.1,j8.2))) fun j16=>
 some (j16.1,j16.2)
def Zv(x:Str):Option Int:=
 zg (geti x 0) fun y1=>
 zg (Ih (x,[43,45])) fun y2=>
 zY (X:=Str×Int) (
   zg (Qv (y2,[101,69])) fun y3=>
   bif decide (y3>=0)then
    need (decide (0<=w64 (y3+1))&&decide (w64 (y3+1)<=(y2.length:Int)))<|
    zg (Ih (List.drop (w64 (y3+1)).toNat y2,[43,45])) fun y4=>
    need (decide (y4.length<=maxLen))<|
    ZR (fun(s5:Int×Int)=>
      bif decide (s5.2<(y4.length:Int))then
       need (decide (0<=s5.2)&&decide (s5.2<(y4.length:Int)))<|
       zg y4[s5.2.toNat]? fun y6=>
       some (LO.again (if 1048576<w64 (w64 (10*s5.1)+w64 (wu8 ((y6.toNat:Int) - 48)))then 1048576 else w64 (w64 (10*s5.1)+w64 (wu8 ((y6.toNat:Int) - 48))),w64 (s5.2+1)))
      else
       some (LO.out s5.1):Int×Int->Option (LO (Int×Int) (Int) _)) (0,0) fun o7=>
    zY (X:=Str×Int×Int) (
      zg (geti y2 (w64 (y3+1))) fun y8=>
      bif (y8.toNat:Int)==45 then
       some (LX.out (y2,3,w64 (0 - o7)))
      else
       some (LX.out (y2,3,o7))) fun j9=>
    need (decide (0<=y3)&&decide (y3<=(j9.1.length:Int)))<|
    some (LX.out (List.take y3.toNat j9.1,w64 (j9.2.1+j9.2.2)))
   else
    some (LX.out (y2,3))) fun j10=>
 zg (cutF (j10.1,[46])) fun y11=>
 need (df y11.1.length y11.2.1.length)<|
 zY (X:=Str×Int) (
   bif decide (w64 (j10.2 - (y11.2.1.length:Int))<0)then
    need (decide (0<=(if w64 (((y11.1++y11.2.1).length:Int)+w64 (j10.2 - (y11.2.1.length:Int)))>0 then w64 (((y11.1++y11.2.1).length:Int)+w64 (j10.2 - (y11.2.1.length:Int)))else 0))&&decide ((if w64 (((y11.1++y11.2.1).length:Int)+w64 (j10.2 - (y11.2.1.length:Int)))>0 then w64 (((y11.1++y11.2.1).length:Int)+w64 (j10.2 - (y11.2.1.length:Int)))else 0)<=((y11.1++y11.2.1).length:Int)))<|
    some (LX.out (List.take (if w64 (((y11.1++y11.2.1).length:Int)+w64 (j10.2 - (y11.2.1.length:Int)))>0 then w64 (((y11.1++y11.2.1).length:Int)+w64 (j10.2 - (y11.2.1.length:Int)))else 0).toNat (y11.1++y11.2.1),w64 (j10.2 - (y11.2.1.length:Int))))
   else
    some (LX.out (y11.1++y11.2.1,w64 (j10.2 - (y11.2.1.length:Int))))) fun j12=>
 need (decide (j12.1.length<=maxLen))<|
 ZR (fun(s13:Int×Int)=>
   bif decide (s13.2<(j12.1.length:Int))then
    need (decide (0<=s13.2)&&decide (s13.2<(j12.1.length:Int)))<|
    zg j12.1[s13.2.toNat]? fun y14=>
    some (LO.again (if 1000000000000<w64 (w64 (10*s13.1)+w64 (wu8 ((y14.toNat:Int) - 48)))then 1000000000000 else w64 (w64 (10*s13.1)+w64 (wu8 ((y14.toNat:Int) - 48))),w64 (s13.2+1)))
   else
    some (LO.out s13.1):Int×Int->Option (LO (Int×Int) (Int) _)) (0,0) fun o15=>
 ZR (fun(s16:Int×Int)=>
   bif bif bif decide (s16.1>0)then decide (s16.2>0)else false then decide (s16.2<1000000000000)else false then
    some (LO.again (w64 (s16.1 - 1),if 1000000000000<w64 (10*s16.2)then 1000000000000 else w64 (10*s16.2)))
   else
    some (LO.out s16.2):Int×Int->Option (LO (Int×Int) (Int) _)) (j12.2,o15) fun o17=>
 zY (X:=Int) (
   bif (y1.toNat:Int)==45 then
    some (LX.out (w64 (0 - o17)))
   else
    some (LX.out o17)) fun j18=>
 some j18
def Ze(x:za):Option (ze×za):=
 zg (Zq x) fun y1=>
 need (decide (0<=x.at_)&&(decide (x.at_<=y1.2.at_)&&decide (y1.2.at_<=(y1.2.s.length:Int))))<|
 zg (Zv (List.drop x.at_.toNat (List.take y1.2.at_.toNat y1.2.s))) fun y2=>
 zY (X:=za×ze×ze) (
   zg (zy (0,y1.2)) fun y3=>
   bif y3 then
    zg (zM y1.2) fun y4=>
    some (LX.out (y4.2,(⟨0,[],0,[],false⟩:ze),(⟨12,[],y2,y4.1,y1.1⟩:ze)))
   else
    zg (zf (0,y1.2)) fun y5=>
    bif y5==37 then
     some (LX.out ((⟨y1.2.s,w64 (y1.2.at_+1)⟩:za),(⟨0,[],0,[],false⟩:ze),(⟨11,[],y2,[],false⟩:ze)))
    else
     some (LX.out (y1.2,(⟨0,[],0,[],false⟩:ze),(⟨10,[],y2,[],y1.1⟩:ze)))) fun j6=>
 some (j6.2.2,j6.1)
def Z5(x:Str):Option Str:=
 need (decide (x.length<=maxLen))<|
 ZR (fun(s1:Int×List UInt8)=>
   bif decide (s1.1<(x.length:Int))then
    zY (X:=Int×List UInt8) (
      need (decide (0<=s1.1)&&decide (s1.1<(s1.2.length:Int)))<|
      zg s1.2[s1.1.toNat]? fun y2=>
      bif bif decide (65<=(y2.toNat:Int))then decide ((y2.toNat:Int)<=90)else false then
       need (decide (0<=s1.1)&&decide (s1.1<(s1.2.length:Int)))<|
       zg s1.2[s1.1.toNat]? fun y3=>
       need (decide (0<=s1.1)&&decide (s1.1<(s1.2.length:Int)))<|
       zg s1.2[s1.1.toNat]? fun y4=>
       zg (qf (ibOr IntKind.u8 (y3.toNat:Int) 32)) fun y5=>
       some (LX.out (s1.1,List.set s1.2 s1.1.toNat y5))
      else
       some (LX.out (s1.1,s1.2))) fun j6=>
    some (LO.again (w64 (j6.1+1),j6.2))
   else
    some (LO.out s1.2):Int×List UInt8->Option (LO (Int×List UInt8) (List UInt8) _)) (0,x) fun o7=>
 some o7
def qi(x:Str×Str):Option Bool:=
 zg (Z5 x.1) fun y1=>
 zg (Z5 x.2) fun y2=>
 some (y1==y2)
def Zu(x:za):Option (ze×za):=
 ZR (fun(s1:za×ze)=>
   zg (zf (0,s1.1)) fun y2=>
   bif y2==(-1)then
    some (LO.ret ((⟨8,[],0,[],false⟩:ze),s1.1))
   else
    zg (zq (0,s1.1)) fun y3=>
    bif y3 then
     zg (Zh s1.1) fun y4=>
     some (LO.again (y4.1,s1.2))
    else
     zg (geti s1.1.s (w64 (w64 (s1.1.at_+1) - 1))) fun y5=>
     bif (y5.toNat:Int)==41 then
      some (LO.ret ((⟨8,[],0,[],false⟩:ze),(⟨s1.1.s,w64 (s1.1.at_+1)⟩:za)))
     else
      some (LO.again ((⟨s1.1.s,w64 (s1.1.at_+1)⟩:za),s1.2)):za×ze->Option (LO (za×ze) (Unit) _)) (x,(⟨0,[],0,[],false⟩:ze)) fun o6=>
 none
def Z8(x:za):Option (ze×za):=
 zg (zQ x) fun y1=>
 ZR (fun(s2:za×ze×List UInt8)=>
   zg (zf (0,s2.1)) fun y3=>
   zY (X:=Int×za×ze×List UInt8) (
     zg (Zr y3) fun y4=>
     bif y4 then
      zg (zQ s2.1) fun y5=>
      zg (zf (0,y5)) fun y6=>
      bif bif y6 != 41 then y6 != (-1)else false then
       zg (Zu y5) fun y7=>
       some (LX.ret (LO.ret (y7.1,y7.2)))
      else
       some (LX.out (y6,y5,s2.2.1,s2.2.2))
     else
      some (LX.out (y3,s2.1,s2.2.1,s2.2.2))) fun j8=>
   bif j8.1==(-1)then
    some (LO.ret ((⟨7,j8.2.2.2,0,[],false⟩:ze),j8.2.1))
   else
    bif j8.1==41 then
     some (LO.ret ((⟨7,j8.2.2.2,0,[],false⟩:ze),(⟨j8.2.1.s,w64 (j8.2.1.at_+1)⟩:za)))
    else
     zg (zx (!(bif bif bif bif j8.1==34 then true else j8.1==39 then true else j8.1==40 then true else decide (j8.1<=8)then true else j8.1==11)) (ZO (j8.1,14,31)) (default:Bool)) fun y9=>
     bif bif bif bif bif bif bif j8.1==34 then true else j8.1==39 then true else j8.1==40 then true else decide (j8.1<=8)then true else j8.1==11 then true else y9 then true else j8.1==127 then
      zg (Zu j8.2.1) fun y10=>
      some (LO.ret (y10.1,y10.2))
     else
      bif j8.1 != 92 then
       zg (qf (wu8 j8.1)) fun y11=>
       need (zD j8.2.2.2.length 1 1)<|
       some (LO.again ((⟨j8.2.1.s,w64 (j8.2.1.at_+1)⟩:za),j8.2.2.1,j8.2.2.2++[y11]))
      else
       zg (zq (0,j8.2.1)) fun y12=>
       bif y12 then
        zg (zL (j8.2.1,j8.2.2.2)) fun y13=>
        some (LO.again (y13.1,j8.2.2.1,y13.2))
       else
        zg (Zu j8.2.1) fun y14=>
        some (LO.ret (y14.1,y14.2)):za×ze×List UInt8->Option (LO (za×ze×List UInt8) (Unit) _)) (y1,(⟨0,[],0,[],false⟩:ze),[]) fun o15=>
 none
def Zi(x:za):Option (ze×za):=
 zg (zM x) fun y1=>
 zg (zf (0,y1.2)) fun y2=>
 bif y2 != 40 then
  some ((⟨1,y1.1,0,[],false⟩:ze),y1.2)
 else
  zY (X:=za×ze) (
    zg (qi (y1.1,[117,114,108])) fun y3=>
    bif y3 then
     zg (zQ (⟨y1.2.s,w64 (y1.2.at_+1)⟩:za)) fun y4=>
     zg (zf (0,y4)) fun y5=>
     bif bif y5 != 34 then y5 != 39 else false then
      zg (Z8 (⟨y1.2.s,w64 (y1.2.at_+1)⟩:za)) fun y6=>
      some (LX.ret (y6.1,y6.2))
     else
      some (LX.out ((⟨y1.2.s,w64 (y1.2.at_+1)⟩:za),(⟨0,[],0,[],false⟩:ze)))
    else
     some (LX.out ((⟨y1.2.s,w64 (y1.2.at_+1)⟩:za),(⟨0,[],0,[],false⟩:ze)))) fun j7=>
  some ((⟨2,y1.1,0,[],false⟩:ze),j7.1)
def strings_IndexByte(x:Str×Int):Option Int:=
 zg (Yr (x.1,x.2)) fun y1=>
 some y1
def ZC(x:za):Option (ze×za):=
 zg (zf (0,x)) fun y1=>
 need (decide (0<=x.at_)&&decide (x.at_<=(x.s.length:Int)))<|
 zg (Zr y1) fun y2=>
 bif y2 then
  zg (zQ x) fun y3=>
  some ((⟨13,[],0,[],false⟩:ze),y3)
 else
  bif bif y1==34 then true else y1==39 then
   zg (ZA x) fun y4=>
   some (y4.1,y4.2)
  else
   zg (zx (y1==35) (zf (1,x)) (default:Int)) fun y5=>
   zg (zx (y1==35) (Qk y5) (default:Bool)) fun y6=>
   zg (zx (!y6&&y1==35) (zq (1,x)) (default:Bool)) fun y7=>
   bif bif y1==35 then bif y6 then true else y7 else false then
    zg (zy (1,x)) fun y8=>
    zg (zM (⟨x.s,w64 (x.at_+1)⟩:za)) fun y9=>
    some ((⟨4,y9.1,0,[],y8⟩:ze),y9.2)
   else
    zg (Zl x) fun y10=>
    bif y10 then
     zg (Ze x) fun y11=>
     some (y11.1,y11.2)
    else
     zg (strings_HasPrefix (List.drop x.at_.toNat x.s,[45,45,62])) fun y12=>
     bif y12 then
      some ((⟨15,[],0,[],false⟩:ze),(⟨x.s,w64 (x.at_+3)⟩:za))
     else
      zg (strings_HasPrefix (List.drop x.at_.toNat x.s,[60,33,45,45])) fun y13=>
      bif y13 then
       some ((⟨14,[],0,[],false⟩:ze),(⟨x.s,w64 (x.at_+4)⟩:za))
      else
       zg (zx (y1==64) (zy (1,x)) (default:Bool)) fun y14=>
       bif bif y1==64 then y14 else false then
        zg (zM (⟨x.s,w64 (x.at_+1)⟩:za)) fun y15=>
        some ((⟨3,y15.1,0,[],false⟩:ze),y15.2)
       else
        zg (zy (0,x)) fun y16=>
        bif y16 then
         zg (Zi x) fun y17=>
         some (y17.1,y17.2)
        else
         zg (strings_IndexByte ([58,59,44,91,93,40,41,123,125],wu8 y1)) fun y18=>
         bif decide (y18>=0)then
          some ((⟨wu8 (16+wu8 y18),[],0,[],false⟩:ze),(⟨x.s,w64 (x.at_+1)⟩:za))
         else
          need (decide (1<=((List.drop x.at_.toNat x.s).length:Int)))<|
          some ((⟨9,List.take 1 (List.drop x.at_.toNat x.s),0,[],false⟩:ze),(⟨x.s,w64 (x.at_+1)⟩:za))
def qO(x:(ze×Int×Int)×List ze):Option (List ze):=
 need (zD x.2.length 1 56)<|
 some (x.2++[x.1.1])
def QT(x:Str):Option (Int×List ze):=
 zg (Ki x) fun y1=>
 bif y1.2 != 0 then
  some (y1.2,[])
 else
  zg (Zb (⟨y1.1,0⟩:za)) fun y2=>
  ZR (fun(s3:Int×List ze×za)=>
    bif decide (s3.2.2.at_<(y1.1.length:Int))then
     bif decide (w64 (s3.1+1)>1500)then
      some (LO.ret (4,s3.2.1))
     else
      zg (ZC s3.2.2) fun y4=>
      zg (qO ((y4.1,s3.2.2.at_,y4.2.at_),s3.2.1)) fun y5=>
      zg (Zb y4.2) fun y6=>
      some (LO.again (w64 (s3.1+1),y5,y6))
    else
     some (LO.out (s3.2.1,s3.2.2)):Int×List ze×za->Option (LO (Int×List ze×za) (List ze×za) _)) (0,[],y2) fun o7=>
  some (0,o7.1)
def qX(x:Str):Option (List ze×Int):=
 zg (QT x) fun y1=>
 bif y1.1 != 0 then
  some ([],y1.1)
 else
  some (y1.2,0)
def qj(x:Int):Option Int:=
 bif x==2 then
  some 22
 else
  zY (X:=Bool) (
    bif x==19 then
     some (LX.out (x==19))
    else
     bif x==21 then
      some (LX.out (x==21))
     else
      some (LX.out (x==23))) fun j1=>
  bif j1 then
   some (wu8 (x+1))
  else
   some 0
def Ep(qo:List zb×Int->Option zw)(x:List zb×Int):Option zw:=
 ZR (fun(s1:Int×zw)=>
   bif decide (s1.1<(x.1.length:Int))then
    zY (X:=Int×zw) (
      zg (geti x.1 s1.1) fun y2=>
      zg (qj y2.token.kind) fun y3=>
      zY (X:=zw) (
        bif bif bif x.2 != 0 then y2.token.kind==x.2 else false then true else bif y3==0 then decide ((y2.list.length:Int)>0)else false then
         some (LX.out (⟨s1.2.depth,w64 (s1.2.tokens+1),true⟩:zw))
        else
         some (LX.out (⟨s1.2.depth,w64 (s1.2.tokens+1),s1.2.bad⟩:zw))) fun j4=>
      bif y3==0 then
       some (LX.out (s1.1,j4))
      else
       zg (qo (y2.list,y3)) fun y5=>
       some (LX.out (s1.1,(⟨if w64 (y5.depth+1)>j4.depth then w64 (y5.depth+1)else j4.depth,w64 (w64 (j4.tokens+y5.tokens)+1),bif j4.bad then true else y5.bad⟩:zw)))) fun j6=>
    some (LO.again (w64 (j6.1+1),j6.2))
   else
    some (LO.out s1.2):Int×zw->Option (LO (Int×zw) (zw) _)) (0,(⟨0,0,false⟩:zw)) fun o7=>
 some o7
def qo:List zb×Int->Option zw:=recE (Ep)
def Z7(x:List zb):Option Int:=
 zg (qo (x,0)) fun y1=>
 bif decide (y1.depth>16)then
  some 20
 else
  bif decide (y1.tokens>1500)then
   some 4
  else
   bif y1.bad then
    some 8
   else
    some 0
def qW(x:List zb):Option (List zb):=
 bif x.isEmpty then
  both (
    some []) (
    need (zD 0 x.length 80)<|
    some x)
 else
  need (zD 0 x.length 80)<|
  some x
def Gy(Qd:List zb->Option (List zb))(x:List zb):Option (List zb):=
 zg (qW x) fun y1=>
 ZR (fun(s2:Int×List zb)=>
   bif decide (s2.1<(y1.length:Int))then
    need (decide (0<=s2.1)&&decide (s2.1<(s2.2.length:Int)))<|
    zg s2.2[s2.1.toNat]? fun y3=>
    zg (Qd y3.list) fun y4=>
    need (decide (0<=s2.1)&&decide (s2.1<(s2.2.length:Int)))<|
    zg s2.2[s2.1.toNat]? fun y5=>
    some (LO.again (w64 (s2.1+1),List.set s2.2 s2.1.toNat (⟨y5.token,y4⟩:zb)))
   else
    some (LO.out s2.2):Int×List zb->Option (LO (Int×List zb) (List zb) _)) (0,y1) fun o6=>
 some o6
def Qd:List zb->Option (List zb):=recE (Gy)
def Tt(x:List zb×Int):Option (List (List zb)×Int):=
 zg (Z7 x.1) fun y1=>
 bif y1 != 0 then
  some ([],y1)
 else
  bif bif decide (x.2<1)then true else decide (x.2>24)then
   some ([],2)
  else
   ZR (fun(s2:(Int×Int)×List (List zb))=>
     bif decide (s2.1.2<(x.1.length:Int))then
      zY (X:=(Int×Int)×List (List zb)) (
        zg (geti x.1 s2.1.2) fun y3=>
        bif y3.token.kind==x.2 then
         need (decide (0<=s2.1.1)&&(decide (s2.1.1<=s2.1.2)&&(decide (s2.1.2<=s2.1.2)&&decide (s2.1.2<=(x.1.length:Int))))&&decide (s2.1.2=s2.1.2))<|
         zg (Qd (List.drop s2.1.1.toNat (List.take s2.1.2.toNat x.1))) fun y4=>
         need (zD s2.2.length 1 24)<|
         some (LX.out ((w64 (s2.1.2+1),s2.1.2),s2.2++[y4]))
        else
         some (LX.out ((s2.1.1,s2.1.2),s2.2))) fun j5=>
      some (LO.again ((j5.1.1,w64 (j5.1.2+1)),j5.2))
     else
      some (LO.out (s2.1.1,s2.2)):(Int×Int)×List (List zb)->Option (LO ((Int×Int)×List (List zb)) (Int×List (List zb)) _)) ((0,0),[]) fun o6=>
   need (decide (0<=o6.1)&&decide (o6.1<=(x.1.length:Int)))<|
   zg (Qd (List.drop o6.1.toNat x.1)) fun y7=>
   need (zD o6.2.length 1 24)<|
   some (o6.2++[y7],0)
def Zm(x:zb×Int):Option Bool:=
 some (x.1.token.kind==x.2)
def Sm(x:List zb):Option (List zb):=
 ZR (fun(s1:List zb)=>
   zg (zx (decide ((s1.length:Int)>0)) (geti s1 0) (default:zb)) fun y2=>
   zg (zx (decide ((s1.length:Int)>0)) (Zm ((⟨y2.token,y2.list⟩:zb),13)) (default:Bool)) fun y3=>
   bif bif decide ((s1.length:Int)>0)then y3 else false then
    need (decide (1<=(s1.length:Int)))<|
    some (LO.again (List.drop 1 s1))
   else
    some (LO.out s1):List zb->Option (LO (List zb) (List zb) _)) x fun o4=>
 some o4
def QZ(x:List zb):Option (List zb):=
 ZR (fun(s1:List zb)=>
   zg (zx (decide ((s1.length:Int)>0)) (geti s1 (w64 ((s1.length:Int) - 1))) (default:zb)) fun y2=>
   zg (zx (decide ((s1.length:Int)>0)) (Zm ((⟨y2.token,y2.list⟩:zb),13)) (default:Bool)) fun y3=>
   bif bif decide ((s1.length:Int)>0)then y3 else false then
    need (decide (0<=w64 ((s1.length:Int) - 1))&&decide (w64 ((s1.length:Int) - 1)<=(s1.length:Int)))<|
    some (LO.again (List.take (w64 ((s1.length:Int) - 1)).toNat s1))
   else
    some (LO.out s1):List zb->Option (LO (List zb) (List zb) _)) x fun o4=>
 some o4
def Ij(x:zb):Option Bool:=
 zg (Zm ((⟨x.token,x.list⟩:zb),9)) fun y1=>
 some (bif y1 then x.token.text==[33]else false)
def Gp(x:Int×List zb):Option Bool:=
 zg (geti x.2 x.1) fun y1=>
 some (y1.token.kind==13)
def Bt(x:List zb):Option (List zb×Int):=
 zg (Z7 x) fun y1=>
 bif y1 != 0 then
  some ([],y1)
 else
  ZR (fun(s2:Int)=>
    zg (zx (decide (s2<(x.length:Int))) (Gp (s2,x)) (default:Bool)) fun y3=>
    bif bif decide (s2<(x.length:Int))then y3 else false then
     some (LO.again (w64 (s2+1)))
    else
     some (LO.out s2):Int->Option (LO (Int) (Int) _)) 0 fun o4=>
  ZR (fun(s5:Int)=>
    zg (zx (decide (o4<s5)) (Gp (w64 (s5 - 1),x)) (default:Bool)) fun y6=>
    bif bif decide (o4<s5)then y6 else false then
     some (LO.again (w64 (s5 - 1)))
    else
     some (LO.out s5):Int->Option (LO (Int) (Int) _)) (x.length:Int) fun o7=>
  need (decide (0<=o4)&&(decide (o4<=o7)&&(decide (o7<=o7)&&decide (o7<=(x.length:Int))))&&decide (o7=o7))<|
  zg (Qd (List.drop o4.toNat (List.take o7.toNat x))) fun y8=>
  some (y8,0)
def Q3(Zz:List zb×List ze->Option (List ze))(x:List zb×List ze):Option (List ze):=
 ZR (fun(s1:Int×List ze)=>
   bif decide (s1.1<(x.1.length:Int))then
    zY (X:=Int×List ze) (
      zg (geti x.1 s1.1) fun y2=>
      need (zD s1.2.length 1 56)<|
      zg (qj y2.token.kind) fun y3=>
      bif y3 != 0 then
       zg (Zz (y2.list,s1.2++[y2.token])) fun y4=>
       need (zD y4.length 1 56)<|
       some (LX.out (s1.1,y4++[(⟨y3,[],0,[],false⟩:ze)]))
      else
       some (LX.out (s1.1,s1.2++[y2.token]))) fun j5=>
    some (LO.again (w64 (j5.1+1),j5.2))
   else
    some (LO.out s1.2):Int×List ze->Option (LO (Int×List ze) (List ze) _)) (0,x.2) fun o6=>
 some o6
def Zz:List zb×List ze->Option (List ze):=recE (Q3)
def qZ(x:List zb):Option (List ze):=
 ZR (fun(s1:Int×List ze)=>
   bif decide (s1.1<(x.length:Int))then
    zY (X:=Int×List ze) (
      zg (geti x s1.1) fun y2=>
      need (zD s1.2.length 1 56)<|
      zg (qj y2.token.kind) fun y3=>
      bif y3 != 0 then
       zg (Zz (y2.list,s1.2++[y2.token])) fun y4=>
       need (zD y4.length 1 56)<|
       some (LX.out (s1.1,y4++[(⟨y3,[],0,[],false⟩:ze)]))
      else
       some (LX.out (s1.1,s1.2++[y2.token]))) fun j5=>
    some (LO.again (w64 (j5.1+1),j5.2))
   else
    some (LO.out s1.2):Int×List ze->Option (LO (Int×List ze) (List ze) _)) (0,[]) fun o6=>
 some o6
def Hm(x:List zb):Option (List ze×Int):=
 zg (Z7 x) fun y1=>
 bif y1 != 0 then
  some ([],y1)
 else
  zg (qZ x) fun y2=>
  some (y2,0)
def Rm(x:Str):Option Bool:=
 zg (zx (!(bif x==[]then true else decide ((x.length:Int)>64))) (strings_IndexByte (x,0)) (default:Int)) fun y1=>
 bif bif bif x==[]then true else decide ((x.length:Int)>64)then true else decide (y1>=0)then
  some false
 else
  zg (strings_HasPrefix (x,[45,45])) fun y2=>
  bif y2 then
   some (!(x==[45,45]))
  else
   zg (Z5 x) fun y3=>
   some (x==y3)
def stringslite_TrimPrefix(x:Str×Str):Option Str:=
 zg (stringslite_HasPrefix (x.1,x.2)) fun y1=>
 bif y1 then
  need (decide (0<=(x.2.length:Int))&&decide ((x.2.length:Int)<=(x.1.length:Int)))<|
  some (List.drop x.2.length x.1)
 else
  some x.1
def strings_TrimPrefix(x:Str×Str):Option Str:=
 zg (stringslite_TrimPrefix (x.1,x.2)) fun y1=>
 some y1
def ZL(x:Int):Option Bool:=
 some (bif decide (48<=x)then decide (x<=57)else false)
def Qj(x:Str):Option Bool:=
 zg (strings_TrimPrefix (x,[45])) fun y1=>
 zg (zx (!(y1==[])) (geti y1 0) 0) fun y2=>
 zg (zx (!(y1==[])) (ZL (y2.toNat:Int)) (default:Bool)) fun y3=>
 some (bif !(y1==[])then y3 else false)
def Jp(x:Int):Option Bool:=
 some (bif bif decide (97<=ibOr IntKind.u8 x 32)then decide (ibOr IntKind.u8 x 32<=122)else false then decide (x<128)else false)
def qM(x:Int):Option Bool:=
 zg (Jp x) fun y1=>
 zg (zx (!y1) (ZL x) (default:Bool)) fun y2=>
 some (bif bif bif bif y1 then true else y2 then true else x==95 then true else x==45 then true else decide (x>=128))
def strings_Contains(x:Str×Str):Option Bool:=
 zg (Ji (x.1,x.2)) fun y1=>
 some (decide (y1>=0))
def wo(x:ze):Option Bool:=
 need (df x.text.length x.unit.length)<|
 zg (strings_IndexByte (x.text++x.unit,0)) fun y1=>
 zY (X:=Bool×Bool×Bool×Bool×Bool) (
   zY (X:=Bool×Bool×Bool×Bool×Bool×Bool) (
     bif x.kind==1 then
      some (LX.out (false,false,false,false,decide (y1<0),x.kind==1))
     else
      bif x.kind==2 then
       some (LX.out (false,false,false,false,decide (y1<0),x.kind==2))
      else
       some (LX.out (false,false,false,false,decide (y1<0),x.kind==3))) fun j2=>
   bif j2.2.2.2.2.2 then
    some (LX.out (true,j2.2.1,j2.2.2.1,j2.2.2.2.1,bif j2.2.2.2.2.1 then !(x.text==[])else false))
   else
    bif x.kind==4 then
     zg (zx (!x.flag&&(bif j2.2.2.2.2.1 then !(x.text==[])else false)) (Qj x.text) (default:Bool)) fun y3=>
     zg (zx (y3&&(!x.flag&&(bif j2.2.2.2.2.1 then !(x.text==[])else false))) (strings_HasPrefix (x.text,[45,45])) (default:Bool)) fun y4=>
     some (LX.out (true,j2.2.1,j2.2.2.1,true,bif bif j2.2.2.2.2.1 then !(x.text==[])else false then bif bif x.flag then true else bif y3 then !y4 else false then true else x.text==[45]else false))
    else
     zY (X:=Bool×Bool×Bool×Bool×Bool×Bool) (
       bif x.kind==5 then
        some (LX.out (j2.1,j2.2.1,j2.2.2.1,j2.2.2.2.1,j2.2.2.2.2.1,x.kind==5))
       else
        some (LX.out (j2.1,j2.2.1,j2.2.2.1,j2.2.2.2.1,j2.2.2.2.2.1,x.kind==7))) fun j5=>
     bif j5.2.2.2.2.2 then
      some (LX.out (true,j5.2.1,j5.2.2.1,j5.2.2.2.1,j5.2.2.2.2.1))
     else
      bif x.kind==9 then
       zg (zx (bif j5.2.2.2.2.1 then(x.text.length:Int)==1 else false) (geti x.text 0) 0) fun y6=>
       zg (zx (bif j5.2.2.2.2.1 then(x.text.length:Int)==1 else false) (qM (y6.toNat:Int)) (default:Bool)) fun y7=>
       zg (zx (bif bif bif j5.2.2.2.2.1 then(x.text.length:Int)==1 else false then !y7 else false then true else x.text==[45]) (strings_Contains ([32,9,10,12,13,34,39,58,59,44,91,93,40,41,123,125],x.text)) (default:Bool)) fun y8=>
       some (LX.out (true,j5.2.1,j5.2.2.1,j5.2.2.2.1,bif bif bif bif j5.2.2.2.2.1 then(x.text.length:Int)==1 else false then !y7 else false then true else x.text==[45]then !y8 else false))
      else
       zY (X:=Bool×Bool×Bool×Bool×Bool) (
         bif x.kind==10 then
          some (LX.out (j5.2.1,j5.2.2.1,j5.2.2.2.1,j5.2.2.2.2.1,x.kind==10))
         else
          bif x.kind==11 then
           some (LX.out (j5.2.1,j5.2.2.1,j5.2.2.2.1,j5.2.2.2.2.1,x.kind==11))
          else
           some (LX.out (j5.2.1,j5.2.2.1,j5.2.2.2.1,j5.2.2.2.2.1,x.kind==12))) fun j9=>
       bif j9.2.2.2.2 then
        some (LX.out (j5.1,x.kind==12,true,x.kind != 11,bif bif bif bif j9.2.2.2.1 then decide (x.num>=(-1000000000000))else false then decide (x.num<=1000000000000)else false then bif !x.flag then true else Int.tmod x.num 1000==0 else false then bif !(x.kind==12)then true else !(x.unit==[])else false))
       else
        some (LX.out (j5.1,j9.1,j9.2.1,j9.2.2.1,bif decide (x.kind>=13)then decide (x.kind<=24)else false))) fun j10=>
 some (bif bif bif bif j10.2.2.2.2 then bif j10.1 then true else x.text==[]else false then bif j10.2.1 then true else x.unit==[]else false then bif j10.2.2.1 then true else x.num==0 else false then bif j10.2.2.2.1 then true else !x.flag else false)
def Zo(x:(Int×Int)×List ze):Option Bool:=
 zg (zx (decide (x.1.1<(x.2.length:Int))) (geti x.2 x.1.1) (default:ze)) fun y1=>
 some (bif decide (x.1.1<(x.2.length:Int))then y1.kind==x.1.2 else false)
def qN(x:List ze):Option Int:=
 zg (geti x 0) fun y1=>
 bif bif y1.kind==9 then y1.text==[92]else false then
  zg (Zo ((1,13),x)) fun y2=>
  bif !y2 then
   some 0
  else
   some 2
 else
  zg (zx (y1.kind==2) (qi (y1.text,[117,114,108])) (default:Bool)) fun y3=>
  bif bif y1.kind==2 then y3 else false then
   zY (X:=Int) (
     zg (Zo ((1,13),x)) fun y4=>
     bif y4 then
      some (LX.out 2)
     else
      some (LX.out 1)) fun j5=>
   zg (Zo ((j5,5),x)) fun y6=>
   bif !y6 then
    some 0
   else
    some (w64 (j5+1))
  else
   some 1
def QE(x:List ze):Option Int:=
 bif decide ((x.length:Int)>1500)then
  some 4
 else
  ZR (fun(s1:Int)=>
    bif decide (s1<(x.length:Int))then
     zg (geti x s1) fun y2=>
     zg (wo y2) fun y3=>
     need (decide (0<=s1)&&decide (s1<=(x.length:Int))|| !(!(!y3)))<|
     zg (zx (!(!y3)) (qN (List.drop s1.toNat x)) (default:Int)) fun y4=>
     bif bif !y3 then true else y4==0 then
      some (LO.ret 8)
     else
      some (LO.again (w64 (s1+1)))
    else
     some (LO.out ()):Int->Option (LO (Int) (Unit) _)) 0 fun o5=>
  some 0
def qz(zk:List zb->Option Bool)(x:zb):Option Bool:=
 zg (Zm ((⟨x.token,x.list⟩:zb),20)) fun y1=>
 zg (zx (!y1) (Zm ((⟨x.token,x.list⟩:zb),22)) (default:Bool)) fun y2=>
 zg (zx (!(bif y1 then true else y2)) (Zm ((⟨x.token,x.list⟩:zb),24)) (default:Bool)) fun y3=>
 zg (zx (!(bif bif y1 then true else y2 then true else y3)) (zk x.list) (default:Bool)) fun y4=>
 some (bif bif bif y1 then true else y2 then true else y3 then true else y4)
def ZF(zk:List zb->Option Bool)(x:List zb):Option Int:=
 ZR (fun(s1:Int)=>
   bif decide (s1<(x.length:Int))then
    zg (geti x s1) fun y2=>
    zg (qz zk (⟨y2.token,y2.list⟩:zb)) fun y3=>
    bif y3 then
     some (LO.ret s1)
    else
     some (LO.again (w64 (s1+1)))
   else
    some (LO.out ()):Int->Option (LO (Int) (Unit) _)) 0 fun o4=>
 some (-1)
def Zj(zk:List zb->Option Bool)(x:List zb):Option Bool:=
 zg (ZF zk x) fun y1=>
 some (decide (y1>=0))
def QC(zk:List zb->Option Bool)(x:List zb):Option Bool:=
 zg (Zj zk x) fun y1=>
 some y1
def zk:List zb->Option Bool:=recE (QC)
def Yp(x:zb):Option Bool:=
 zg (Zm ((⟨x.token,x.list⟩:zb),17)) fun y1=>
 zg (zx (!y1) (Ij (⟨x.token,x.list⟩:zb)) (default:Bool)) fun y2=>
 some (bif y1 then true else y2)
def Zn(x:List zb):Option Int:=
 ZR (fun(s1:Int)=>
   bif decide (s1<(x.length:Int))then
    zg (geti x s1) fun y2=>
    zg (Yp (⟨y2.token,y2.list⟩:zb)) fun y3=>
    bif y3 then
     some (LO.ret s1)
    else
     some (LO.again (w64 (s1+1)))
   else
    some (LO.out ()):Int->Option (LO (Int) (Unit) _)) 0 fun o4=>
 some (-1)
def z8(x:List zb):Option Bool:=
 zg (Zn x) fun y1=>
 some (decide (y1>=0))
def zW(x:zT):Option Int:=
 zg (Hm x.value) fun y1=>
 zg (Rm x.name) fun y2=>
 zg (zx (!(bif !y2 then true else y1.2 != 0)) (QE y1.1) (default:Int)) fun y3=>
 zg (zx (!(bif bif !y2 then true else y1.2 != 0 then true else y3 != 0)) (zk x.value) (default:Bool)) fun y4=>
 bif bif bif bif !y2 then true else y1.2 != 0 then true else y3 != 0 then true else y4 then
  some 8
 else
  zg (z8 x.value) fun y5=>
  bif y5 then
   some 8
  else
   zg (zx ((x.value.length:Int)==0) (strings_HasPrefix (x.name,[45,45])) (default:Bool)) fun y6=>
   zg (zx (decide ((x.value.length:Int)>0)&& !(bif (x.value.length:Int)==0 then !y6 else false)) (geti x.value 0) (default:zb)) fun y7=>
   zg (zx (decide ((x.value.length:Int)>0)&& !(bif (x.value.length:Int)==0 then !y6 else false)) (Zm ((⟨y7.token,y7.list⟩:zb),13)) (default:Bool)) fun y8=>
   zg (zx (!y8&&(decide ((x.value.length:Int)>0)&& !(bif (x.value.length:Int)==0 then !y6 else false))) (geti x.value (w64 ((x.value.length:Int) - 1))) (default:zb)) fun y9=>
   zg (zx (!y8&&(decide ((x.value.length:Int)>0)&& !(bif (x.value.length:Int)==0 then !y6 else false))) (Zm ((⟨y9.token,y9.list⟩:zb),13)) (default:Bool)) fun y10=>
   bif bif bif (x.value.length:Int)==0 then !y6 else false then true else bif decide ((x.value.length:Int)>0)then bif y8 then true else y10 else false then
    some 8
   else
    some 0
def Yl(x:List zb):Option (zT×Bool):=
 zg (Sm x) fun y1=>
 zg (QZ y1) fun y2=>
 zg (zx (!((y2.length:Int)==0)) (geti y2 0) (default:zb)) fun y3=>
 zg (zx (!((y2.length:Int)==0)) (Zm ((⟨y3.token,y3.list⟩:zb),1)) (default:Bool)) fun y4=>
 bif bif (y2.length:Int)==0 then true else !y4 then
  some ((⟨[],[],false⟩:zT),false)
 else
  zg (geti y2 0) fun y5=>
  zY (X:=List zb×(Str×Bool)×(Str×Bool)) (
    zg (strings_HasPrefix (y5.token.text,[45,45])) fun y6=>
    bif !y6 then
     zg (Z5 y5.token.text) fun y7=>
     some (LX.out (y2,([],false),(y7,false)))
    else
     some (LX.out (y2,([],false),(y5.token.text,false)))) fun j8=>
  need (decide (1<=(j8.1.length:Int)))<|
  zg (Sm (List.drop 1 j8.1)) fun y9=>
  zg (zx (!((y9.length:Int)==0)) (geti y9 0) (default:zb)) fun y10=>
  zg (zx (!((y9.length:Int)==0)) (Zm ((⟨y10.token,y10.list⟩:zb),16)) (default:Bool)) fun y11=>
  bif bif (y9.length:Int)==0 then true else !y11 then
   some ((⟨[],[],false⟩:zT),false)
  else
   need (decide (1<=(y9.length:Int)))<|
   zg (Sm (List.drop 1 y9)) fun y12=>
   zY (X:=List zb×(Str×Bool)×(Str×Bool)) (
     zg (zx (decide (w64 ((y12.length:Int) - 1)>0)) (geti y12 (w64 ((y12.length:Int) - 1))) (default:zb)) fun y13=>
     zg (zx (decide (w64 ((y12.length:Int) - 1)>0)) (Zm ((⟨y13.token,y13.list⟩:zb),1)) (default:Bool)) fun y14=>
     zg (zx (bif decide (w64 ((y12.length:Int) - 1)>0)then y14 else false) (geti y12 (w64 ((y12.length:Int) - 1))) (default:zb)) fun y15=>
     zg (zx (bif decide (w64 ((y12.length:Int) - 1)>0)then y14 else false) (qi (y15.token.text,[105,109,112,111,114,116,97,110,116])) (default:Bool)) fun y16=>
     bif bif bif decide (w64 ((y12.length:Int) - 1)>0)then y14 else false then y16 else false then
      need (decide (0<=w64 ((y12.length:Int) - 1))&&decide (w64 ((y12.length:Int) - 1)<=(y12.length:Int)))<|
      zg (QZ (List.take (w64 ((y12.length:Int) - 1)).toNat y12)) fun y17=>
      zg (zx (decide ((y17.length:Int)>0)) (geti y17 (w64 ((y17.length:Int) - 1))) (default:zb)) fun y18=>
      zg (zx (decide ((y17.length:Int)>0)) (Ij (⟨y18.token,y18.list⟩:zb)) (default:Bool)) fun y19=>
      bif bif decide ((y17.length:Int)>0)then y19 else false then
       need (decide (0<=w64 ((y17.length:Int) - 1))&&decide (w64 ((y17.length:Int) - 1)<=(y17.length:Int)))<|
       zg (QZ (List.take (w64 ((y17.length:Int) - 1)).toNat y17)) fun y20=>
       some (LX.out (y20,(j8.2.1.1,j8.2.1.2),(j8.2.2.1,true)))
      else
       some (LX.out (y12,(j8.2.1.1,j8.2.1.2),(j8.2.2.1,j8.2.2.2)))
     else
      some (LX.out (y12,(j8.2.1.1,j8.2.1.2),(j8.2.2.1,j8.2.2.2)))) fun j21=>
   zg (Bt j21.1) fun y22=>
   zg (zx (!(y22.2 != 0)) (zW (⟨j21.2.2.1,y22.1,j21.2.2.2⟩:zT)) (default:Int)) fun y23=>
   bif bif y22.2 != 0 then true else y23 != 0 then
    some ((⟨[],[],false⟩:zT),false)
   else
    some ((⟨j21.2.2.1,y22.1,j21.2.2.2⟩:zT),true)
def Nr(x:List zb):Option (Int×List zT):=
 zg (Tt (x,17)) fun y1=>
 bif y1.2 != 0 then
  some (y1.2,[])
 else
  ZR (fun(s2:Int×List zT)=>
    bif decide (s2.1<(y1.1.length:Int))then
     zY (X:=Int×List zT) (
       zg (geti y1.1 s2.1) fun y3=>
       zg (Yl y3) fun y4=>
       bif bif y4.2 then decide ((s2.2.length:Int)<32)else false then
        need (zD s2.2.length 1 48)<|
        some (LX.out (s2.1,s2.2++[y4.1]))
       else
        some (LX.out (s2.1,s2.2))) fun j5=>
     some (LO.again (w64 (j5.1+1),j5.2))
    else
     some (LO.out s2.2):Int×List zT->Option (LO (Int×List zT) (List zT) _)) (0,[]) fun o6=>
  some (0,o6)
def qm(x:Str):Option (Int×List zT):=
 zg (qX x) fun y1=>
 bif y1.2 != 0 then
  some (y1.2,[])
 else
  zg (parseF y1.1) fun y2=>
  bif y2.2 != 0 then
   some (y2.2,[])
  else
   zg (Nr y2.1) fun y3=>
   some (y3.1,y3.2)
def ZM(x:Str):Option Int:=
 zg (strings_HasPrefix (x,[45])) fun y1=>
 bif y1 then
  some 2
 else
  some 1
def Zc(x:Int×List UInt8):Option (List UInt8):=
 zg (zx (bif decide (x.1>32)then decide (x.1<127)else false) (ZL x.1) (default:Bool)) fun y1=>
 zg (zx (bif bif decide (x.1>32)then decide (x.1<127)else false then !y1 else false) (Jp x.1) (default:Bool)) fun y2=>
 bif bif bif bif decide (x.1>32)then decide (x.1<127)else false then !y1 else false then !y2 else false then
  zg (qf x.1) fun y3=>
  need (zD x.2.length 2 1)<|
  some (x.2++[(92:UInt8),y3])
 else
  need (zD x.2.length 1 1)<|
  zg (jl ((wu64 x.1,16),x.2++[(92:UInt8)])) fun y4=>
  need (zD y4.length 1 1)<|
  some (y4++[(32:UInt8)])
def Vm(x:Str×Int):Option (List UInt8):=
 ZR (fun(s1:Int×List UInt8)=>
   bif decide (s1.1<(x.1.length:Int))then
    zY (X:=Int×List UInt8) (
      zg (geti x.1 s1.1) fun y2=>
      zg (qM (y2.toNat:Int)) fun y3=>
      zg (zx (!(decide (s1.1>=x.2))&&y3) (ZL (y2.toNat:Int)) (default:Bool)) fun y4=>
      bif bif bif y3 then bif decide (s1.1>=x.2)then true else !y4 else false then bif x.2==0 then true else !(x.1==[45])else false then
       zg (qf (y2.toNat:Int)) fun y5=>
       need (zD s1.2.length 1 1)<|
       some (LX.out (s1.1,s1.2++[y5]))
      else
       zg (Zc ((y2.toNat:Int),s1.2)) fun y6=>
       some (LX.out (s1.1,y6))) fun j7=>
    some (LO.again (w64 (j7.1+1),j7.2))
   else
    some (LO.out s1.2):Int×List UInt8->Option (LO (Int×List UInt8) (List UInt8) _)) (0,[]) fun o8=>
 some o8
def Km(x:Str):Option (Str×Int):=
 zg (zx (!(x==[])) (strings_IndexByte (x,0)) (default:Int)) fun y1=>
 bif bif x==[]then true else decide (y1>=0)then
  some ([],8)
 else
  zg (ZM x) fun y2=>
  zg (Vm (x,y2)) fun y3=>
  bif bif decide ((x.length:Int)>4000)then true else decide ((y3.length:Int)>4000)then
   some ([],28)
  else
   some (y3,0)
def Z4(x:(Str×Int)×List UInt8):Option (List UInt8):=
 ZR (fun(s1:Int×List UInt8)=>
   bif decide (s1.1<(x.1.1.length:Int))then
    zY (X:=Int×List UInt8) (
      zg (geti x.1.1 s1.1) fun y2=>
      zg (qM (y2.toNat:Int)) fun y3=>
      zg (zx (!(decide (s1.1>=x.1.2))&&y3) (ZL (y2.toNat:Int)) (default:Bool)) fun y4=>
      bif bif bif y3 then bif decide (s1.1>=x.1.2)then true else !y4 else false then bif x.1.2==0 then true else !(x.1.1==[45])else false then
       zg (qf (y2.toNat:Int)) fun y5=>
       need (zD s1.2.length 1 1)<|
       some (LX.out (s1.1,s1.2++[y5]))
      else
       zg (Zc ((y2.toNat:Int),s1.2)) fun y6=>
       some (LX.out (s1.1,y6))) fun j7=>
    some (LO.again (w64 (j7.1+1),j7.2))
   else
    some (LO.out s1.2):Int×List UInt8->Option (LO (Int×List UInt8) (List UInt8) _)) (0,x.2) fun o8=>
 some o8
def Pp(x:Unit):Option QA:=
 some (⟨[32],[60,33,45,45],[45,45,62],[58],[59],[44],[91],[93],[40],[41],[123],[125]⟩:QA)
def qa(x:(Int×Bool)×List UInt8):Option (List UInt8):=
 zY (X:=Int×List UInt8) (
   bif decide (x.1.1<0)then
    need (zD x.2.length 1 1)<|
    some (LX.out (w64 (0 - x.1.1),x.2++[(45:UInt8)]))
   else
    some (LX.out (x.1.1,x.2))) fun j1=>
 zg (ll ((w64 (Int.tdiv j1.1 1000),10),j1.2)) fun y2=>
 zg (Vl (w64 (1000+Int.tmod j1.1 1000),10)) fun y3=>
 need (decide (1<=(y3.length:Int)))<|
 zg (Wj (List.drop 1 y3,[48])) fun y4=>
 zY (X:=List UInt8) (
   bif !(y4==[])then
    need (zD y2.length 1 1)<|
    need (zD (y2++[(46:UInt8)]).length y4.length 1)<|
    some (LX.out (y2++[(46:UInt8)]++y4))
   else
    bif x.1.2 then
     need (zD y2.length ([46,48]:Str).length 1)<|
     some (LX.out (y2++([46,48]:Str)))
    else
     some (LX.out y2)) fun j5=>
 some j5
def QQ(x:ze×List UInt8):Option (List UInt8):=
 bif x.1.kind==1 then
  zg (ZM x.1.text) fun y1=>
  zg (Z4 ((x.1.text,y1),x.2)) fun y2=>
  some y2
 else
  bif x.1.kind==2 then
   zg (ZM x.1.text) fun y3=>
   zg (Z4 ((x.1.text,y3),x.2)) fun y4=>
   need (zD y4.length 1 1)<|
   some (y4++[(40:UInt8)])
  else
   bif x.1.kind==3 then
    need (zD x.2.length 1 1)<|
    zg (ZM x.1.text) fun y5=>
    zg (Z4 ((x.1.text,y5),x.2++[(64:UInt8)])) fun y6=>
    some y6
   else
    bif x.1.kind==4 then
     zY (X:=Int×List UInt8) (
       bif x.1.flag then
        zg (ZM x.1.text) fun y7=>
        some (LX.out (y7,x.2))
       else
        some (LX.out (0,x.2))) fun j8=>
     need (zD j8.2.length 1 1)<|
     zg (Z4 ((x.1.text,j8.1),j8.2++[(35:UInt8)])) fun y9=>
     some y9
    else
     bif x.1.kind==5 then
      need (zD x.2.length 1 1)<|
      need (decide (x.1.text.length<=maxLen))<|
      ZR (fun(s10:Int×List UInt8)=>
        bif decide (s10.1<(x.1.text.length:Int))then
         zY (X:=Int×List UInt8) (
           need (decide (0<=s10.1)&&decide (s10.1<(x.1.text.length:Int)))<|
           zg x.1.text[s10.1.toNat]? fun y11=>
           zg (strings_IndexByte ([10,12,13,34,92],(y11.toNat:Int))) fun y12=>
           bif decide (y12>=0)then
            zg (Zc ((y11.toNat:Int),s10.2)) fun y13=>
            some (LX.out (s10.1,y13))
           else
            zg (qf (y11.toNat:Int)) fun y14=>
            need (zD s10.2.length 1 1)<|
            some (LX.out (s10.1,s10.2++[y14]))) fun j15=>
         some (LO.again (w64 (j15.1+1),j15.2))
        else
         some (LO.out s10.2):Int×List UInt8->Option (LO (Int×List UInt8) (List UInt8) _)) (0,x.2++[(34:UInt8)]) fun o16=>
      need (zD o16.length 1 1)<|
      some (o16++[(34:UInt8)])
     else
      bif x.1.kind==7 then
       need (zD x.2.length ([117,114,108,40]:Str).length 1)<|
       need (decide (x.1.text.length<=maxLen))<|
       ZR (fun(s17:Int×List UInt8)=>
         bif decide (s17.1<(x.1.text.length:Int))then
          zY (X:=Int×List UInt8) (
            need (decide (0<=s17.1)&&decide (s17.1<(x.1.text.length:Int)))<|
            zg x.1.text[s17.1.toNat]? fun y18=>
            zg (zx (!(decide ((y18.toNat:Int)<=32))) (strings_IndexByte ([34,39,40,41,92,127],(y18.toNat:Int))) (default:Int)) fun y19=>
            bif bif decide ((y18.toNat:Int)<=32)then true else decide (y19>=0)then
             zg (Zc ((y18.toNat:Int),s17.2)) fun y20=>
             some (LX.out (s17.1,y20))
            else
             zg (qf (y18.toNat:Int)) fun y21=>
             need (zD s17.2.length 1 1)<|
             some (LX.out (s17.1,s17.2++[y21]))) fun j22=>
          some (LO.again (w64 (j22.1+1),j22.2))
         else
          some (LO.out s17.2):Int×List UInt8->Option (LO (Int×List UInt8) (List UInt8) _)) (0,x.2++([117,114,108,40]:Str)) fun o23=>
       need (zD o23.length 1 1)<|
       some (o23++[(41:UInt8)])
      else
       bif x.1.kind==9 then
        need (zD x.2.length x.1.text.length 1)<|
        some (x.2++x.1.text)
       else
        bif x.1.kind==10 then
         zg (qa ((x.1.num, !x.1.flag),x.2)) fun y24=>
         some y24
        else
         bif x.1.kind==11 then
          zg (qa ((x.1.num,false),x.2)) fun y25=>
          need (zD y25.length 1 1)<|
          some (y25++[(37:UInt8)])
         else
          bif x.1.kind==12 then
           zg (qa ((x.1.num, !x.1.flag),x.2)) fun y26=>
           zg (geti x.1.unit 0) fun y27=>
           need (decide (1<=(x.1.unit.length:Int))|| !(ibOr IntKind.u8 (y27.toNat:Int) 32==101))<|
           zg (zx (ibOr IntKind.u8 (y27.toNat:Int) 32==101) (Qj (List.drop 1 x.1.unit)) (default:Bool)) fun y28=>
           need (decide (1<=(x.1.unit.length:Int))|| !(bif ibOr IntKind.u8 (y27.toNat:Int) 32==101 then y28 else false))<|
           zg (zx (bif ibOr IntKind.u8 (y27.toNat:Int) 32==101 then y28 else false) (strings_HasPrefix (List.drop 1 x.1.unit,[45,45])) (default:Bool)) fun y29=>
           bif bif bif ibOr IntKind.u8 (y27.toNat:Int) 32==101 then y28 else false then !y29 else false then
            zg (geti x.1.unit 0) fun y30=>
            zg (Zc ((y30.toNat:Int),y26)) fun y31=>
            need (decide (1<=(x.1.unit.length:Int)))<|
            zg (Z4 ((List.drop 1 x.1.unit,0),y31)) fun y32=>
            some y32
           else
            zg (ZM x.1.unit) fun y33=>
            zg (Z4 ((x.1.unit,y33),y26)) fun y34=>
            some y34
          else
           zg (Pp ()) fun y35=>
           zg (geti [y35.e0,y35.e1,y35.e2,y35.e3,y35.e4,y35.e5,y35.e6,y35.e7,y35.e8,y35.e9,y35.e10,y35.e11] (wu8 (x.1.kind - 13))) fun y36=>
           need (zD x.2.length y36.length 1)<|
           some (x.2++y36)
def ZB(x:List ze×List ze):Option Bool:=
 bif (x.1.length:Int) != (x.2.length:Int)then
  some false
 else
  ZR (fun(s1:Int)=>
    bif decide (s1<(x.1.length:Int))then
     zg (geti x.1 s1) fun y2=>
     zg (geti x.2 s1) fun y3=>
     bif !(y2.kind==y3.kind&&(y2.text==y3.text&&(y2.num==y3.num&&(y2.unit==y3.unit&&(y2.flag==y3.flag&&true)))))then
      some (LO.ret false)
     else
      some (LO.again (w64 (s1+1)))
    else
     some (LO.out ()):Int->Option (LO (Int) (Unit) _)) 0 fun o4=>
  some true
def Pm(x:List ze):Option (Str×Int):=
 zg (QE x) fun y1=>
 bif y1 != 0 then
  some ([],y1)
 else
  ZR (fun(s2:Int×List UInt8×List zu)=>
    bif decide (s2.1<(x.length:Int))then
     need (decide (0<=s2.1)&&decide (s2.1<=(x.length:Int)))<|
     zg (qN (List.drop s2.1.toNat x)) fun y3=>
     need (decide (0<=s2.1)&&(decide (s2.1<=w64 (s2.1+y3))&&decide (w64 (s2.1+y3)<=(x.length:Int))))<|
     ZR (fun(s4:Int×List UInt8)=>
       bif decide (s4.1<((List.drop s2.1.toNat (List.take (w64 (s2.1+y3)).toNat x)).length:Int))then
        zg (geti (List.drop s2.1.toNat (List.take (w64 (s2.1+y3)).toNat x)) s4.1) fun y5=>
        zg (QQ (y5,s4.2)) fun y6=>
        some (LO.again (w64 (s4.1+1),y6))
       else
        some (LO.out s4.2):Int×List UInt8->Option (LO (Int×List UInt8) (List UInt8) _)) (0,[]) fun o7=>
     zY (X:=Int×List UInt8×List zu×List UInt8) (
       zg (geti x s2.1) fun y8=>
       bif bif y8.kind==9 then y3==2 else false then
        some (LX.out (s2.1,s2.2.1,s2.2.2,[(92:UInt8),(10:UInt8)]))
       else
        some (LX.out (s2.1,s2.2.1,s2.2.2,o7))) fun j9=>
     zY (X:=Int×List UInt8×List zu×zu) (
       bif decide (w64 ((j9.2.2.1.length:Int) - 4)>=0)then
        need (decide (0<=w64 ((j9.2.2.1.length:Int) - 4))&&decide (w64 ((j9.2.2.1.length:Int) - 4)<(j9.2.2.1.length:Int)))<|
        zg (j9.2.2.1[(w64 ((j9.2.2.1.length:Int) - 4)).toNat]?) fun y10=>
        some (LX.out (j9.1,j9.2.1,j9.2.2.1,y10))
       else
        some (LX.out (j9.1,j9.2.1,j9.2.2.1,(⟨0,0⟩:zu)))) fun j11=>
     need (decide (0<=j11.2.2.2.at_)&&decide (j11.2.2.2.at_<=(j11.2.1.length:Int)))<|
     need (decide (j11.2.2.2.at_.toNat+(j11.2.1.length - j11.2.2.2.at_.toNat)<=j11.2.1.length))<|
     need (df (List.take (j11.2.1.length - j11.2.2.2.at_.toNat) (List.drop j11.2.2.2.at_.toNat j11.2.1)).length j9.2.2.2.length)<|
     zg (qX (List.take (j11.2.1.length - j11.2.2.2.at_.toNat) (List.drop j11.2.2.2.at_.toNat j11.2.1)++j9.2.2.2)) fun y12=>
     zY (X:=Int×List zu×List UInt8) (
       need (decide (0<=j11.2.2.2.token)&&(decide (j11.2.2.2.token<=w64 (j11.1+y3))&&decide (w64 (j11.1+y3)<=(x.length:Int)))|| !(!(y12.2 != 0)))<|
       zg (zx (!(y12.2 != 0)) (ZB (y12.1,List.drop j11.2.2.2.token.toNat (List.take (w64 (j11.1+y3)).toNat x))) (default:Bool)) fun y13=>
       bif bif y12.2 != 0 then true else !y13 then
        need (zD j11.2.1.length ([47,42,42,47]:Str).length 1)<|
        some (LX.out (j11.1,j11.2.2.1,j11.2.1++([47,42,42,47]:Str)))
       else
        some (LX.out (j11.1,j11.2.2.1,j11.2.1))) fun j14=>
     need (zD j14.2.1.length 1 16)<|
     need (zD j14.2.2.length j9.2.2.2.length 1)<|
     bif decide (((j14.2.2++j9.2.2.2).length:Int)>4000)then
      some (LO.ret ([],28))
     else
      some (LO.again (w64 (j14.1+y3),j14.2.2++j9.2.2.2,j14.2.1++[(⟨j14.1,(j14.2.2.length:Int)⟩:zu)]))
    else
     some (LO.out s2.2.1):Int×List UInt8×List zu->Option (LO (Int×List UInt8×List zu) (List UInt8) _)) (0,[],[]) fun o15=>
  some (o15,0)
def Gm(x:List zb):Option (Str×Int):=
 zg (Z7 x) fun y1=>
 bif y1 != 0 then
  some ([],y1)
 else
  zg (qZ x) fun y2=>
  zg (Pm y2) fun y3=>
  some (y3.1,y3.2)
def Qu(x:zT):Option (Str×Int):=
 zg (zW x) fun y1=>
 bif y1 != 0 then
  some ([],y1)
 else
  zg (Km x.name) fun y2=>
  bif y2.2 != 0 then
   some ([],y2.2)
  else
   zg (Gm x.value) fun y3=>
   bif y3.2 != 0 then
    some ([],y3.2)
   else
    need (df y2.1.length ([58,32]:Str).length)<|
    need (df (y2.1++([58,32]:Str)).length y3.1.length)<|
    zY (X:=Str) (
      bif x.important then
       need (df (y2.1++([58,32]:Str)++y3.1).length ([32,33,105,109,112,111,114,116,97,110,116]:Str).length)<|
       some (LX.out (y2.1++([58,32]:Str)++y3.1++([32,33,105,109,112,111,114,116,97,110,116]:Str)))
      else
       some (LX.out (y2.1++([58,32]:Str)++y3.1))) fun j4=>
    bif decide ((j4.length:Int)>4000)then
     some ([],28)
    else
     some (j4,0)
def qd(x:List zT):Option (Str×Int):=
 bif decide ((x.length:Int)>32)then
  some ([],4)
 else
  ZR (fun(s1:(Bool×Int)×List Str)=>
    bif decide (s1.1.2<(x.length:Int))then
     zg (geti x s1.1.2) fun y2=>
     zg (Qu y2) fun y3=>
     bif y3.2==8 then
      some (LO.ret ([],y3.2))
     else
      need (zD s1.2.length 1 16)<|
      some (LO.again ((bif s1.1.1 then true else y3.2 != 0,w64 (s1.1.2+1)),s1.2++[y3.1]))
    else
     some (LO.out (s1.1.1,s1.2)):(Bool×Int)×List Str->Option (LO ((Bool×Int)×List Str) (Bool×List Str) _)) ((false,0),[]) fun o4=>
  zg (Vj (o4.2,[59,32])) fun y5=>
  bif bif o4.1 then true else decide ((y5.length:Int)>4000)then
   some ([],28)
  else
   some (y5,0)
def Z6(x:Str×Str×Int):Option Bool:=
 zg (qm x.1) fun y1=>
 zg (qd y1.2) fun y2=>
 some (bif bif bif y1.1==0 then y2.2==0 else false then y2.1==x.2.1 else false then(y1.2.length:Int)==x.2.2 else false)
def Np(x:Int):Option (List zb):=
 need (decide (0<=x)&&decide (x<=x)&&decide (x*80<=140737488355328)&&decide (x<=9223372036854775807))<|
 ZR (fun(s1:Int×List zb)=>
   bif decide (s1.1<x)then
    need (decide (0<=s1.1)&&decide (s1.1<(s1.2.length:Int)))<|
    zg s1.2[s1.1.toNat]? fun y2=>
    some (LO.again (w64 (s1.1+1),List.set s1.2 s1.1.toNat (⟨(⟨1,[97],0,[],false⟩:ze),y2.list⟩:zb)))
   else
    some (LO.out s1.2):Int×List zb->Option (LO (Int×List zb) (List zb) _)) (0,List.replicate (Int.toNat x) (⟨(⟨0,[],0,[],false⟩:ze),[]⟩:zb)) fun o3=>
 some o3
def Gs(x:List zb):Option (zT×Bool×Int):=
 zg (Z7 x) fun y1=>
 bif y1 != 0 then
  some ((⟨[],[],false⟩:zT),false,y1)
 else
  zg (Yl x) fun y2=>
  some (y2.1,y2.2,0)
def Wt(x:Unit):Option Bool:=
 zg (Z6 ([67,79,76,79,82,32,58,32,114,101,100,32,33,32,105,109,112,111,114,116,97,110,116,59,32,120,59,32,45,45,89,58,59,32,109,97,114,103,105,110,58,49,112,120,41],[99,111,108,111,114,58,32,114,101,100,32,33,105,109,112,111,114,116,97,110,116,59,32,45,45,89,58,32],2)) fun y1=>
 some y1
def SF(x:Unit):Option Bool:=
 zg (Z6 ([97,58,40,98,59,99,41,59,100,58,101],[97,58,32,40,98,59,99,41,59,32,100,58,32,101],2)) fun y1=>
 zg (zx y1 (Z6 ([97,58,98,33,105,109,112,111,114,116,97,110,116,32,99,59,100,58,101,33,105,109,112,59,102,58,33,105,109,112,111,114,116,97,110,116,59,45,45,103,58,33,105,109,112,111,114,116,97,110,116],[45,45,103,58,32,32,33,105,109,112,111,114,116,97,110,116],1)) (default:Bool)) fun y2=>
 zg (zx (bif y1 then y2 else false) (Z6 ([97,58,98,59,59,97,58,99,59],[97,58,32,98,59,32,97,58,32,99],2)) (default:Bool)) fun y3=>
 zg (zx (bif bif y1 then y2 else false then y3 else false) (Z6 ([45,45,58,120,59,45,97,58,121,59,45,45,98,58,123,59,125,59,99],[45,97,58,32,121,59,32,45,45,98,58,32,123,59,125],2)) (default:Bool)) fun y4=>
 zg (zx (bif bif bif y1 then y2 else false then y3 else false then y4 else false) (Z6 ([97,32,98,58,99,59,32,49,58,50,59,32,97,58,117,114,108,40,98,32,99,41,59,32,100,58,39,10,59,101,58,102],[101,58,32,102],1)) (default:Bool)) fun y5=>
 zg (zx (bif bif bif bif y1 then y2 else false then y3 else false then y4 else false then y5 else false) (Z6 ([97,58,91,41,93,59,98,58,99],[98,58,32,99],1)) (default:Bool)) fun y6=>
 ZR (fun(s7:Str×Int)=>
   bif decide (s7.2<33)then
    need (df s7.1.length ([97,58,98,59]:Str).length)<|
    some (LO.again (s7.1++([97,58,98,59]:Str),w64 (s7.2+1)))
   else
    some (LO.out s7.1):Str×Int->Option (LO (Str×Int) (Str) _)) ([],0) fun o8=>
 zg (qm o8) fun y9=>
 bif bif y9.1 != 0 then true else(y9.2.length:Int) != 32 then
  some false
 else
  zg (qm (List.replicate (Int.toNat 4001) (0:UInt8))) fun y10=>
  zg (qm [40,40,40,40,40,40,40,40,40,40,40,40,40,40,40,40,40,40]) fun y11=>
  need (decide (0<(y9.2.length:Int)))<|
  zg y9.2[0]? fun y12=>
  need (Nat.ble 1 y9.2.length)<|
  need (zD y9.2.length 1 48)<|
  zg (qd (y9.2++[y12])) fun y13=>
  zg (geti y9.2 0) fun y14=>
  zg (qd [y14,(⟨[],[],false⟩:zT)]) fun y15=>
  zg (Qu (⟨[],[],false⟩:zT)) fun y16=>
  zg (Np 900) fun y17=>
  zg (Qu (⟨[97],y17,false⟩:zT)) fun y18=>
  zg (qd [(⟨[97],y17,false⟩:zT),(⟨[],[],false⟩:zT)]) fun y19=>
  zg (qd [(⟨[97],y17,false⟩:zT)]) fun y20=>
  zg (Gs [(⟨(⟨18,[],0,[],false⟩:ze),y17⟩:zb)]) fun y21=>
  ZR (fun(s22:Str×Int)=>
    bif decide (s22.2<65)then
     need (df s22.1.length ([97]:Str).length)<|
     some (LO.again (s22.1++([97]:Str),w64 (s22.2+1)))
    else
     some (LO.out s22.1):Str×Int->Option (LO (Str×Int) (Str) _)) (List.replicate (Int.toNat 0) (0:UInt8),0) fun o23=>
  zg (zW (⟨[65],[(⟨(⟨1,[98],0,[],false⟩:ze),[]⟩:zb)],false⟩:zT)) fun y24=>
  zg (zx (y24==8) (zW (⟨[45,45],[(⟨(⟨1,[98],0,[],false⟩:ze),[]⟩:zb)],false⟩:zT)) (default:Int)) fun y25=>
  zg (zx (bif y24==8 then y25==8 else false) (zW (⟨[45,45,65],[(⟨(⟨1,[98],0,[],false⟩:ze),[]⟩:zb)],false⟩:zT)) (default:Int)) fun y26=>
  zg (zx (bif bif y24==8 then y25==8 else false then y26==0 else false) (zW (⟨o23,[(⟨(⟨1,[98],0,[],false⟩:ze),[]⟩:zb)],false⟩:zT)) (default:Int)) fun y27=>
  need (decide (1<=(o23.length:Int))|| !(bif bif bif y24==8 then y25==8 else false then y26==0 else false then y27==8 else false))<|
  zg (zx (bif bif bif y24==8 then y25==8 else false then y26==0 else false then y27==8 else false) (zW (⟨List.drop 1 o23,[(⟨(⟨1,[98],0,[],false⟩:ze),[]⟩:zb)],false⟩:zT)) (default:Int)) fun y28=>
  zg (zx (bif bif bif bif y24==8 then y25==8 else false then y26==0 else false then y27==8 else false then y28==0 else false) (zW (⟨[97],[],false⟩:zT)) (default:Int)) fun y29=>
  zg (zx (bif bif bif bif bif y24==8 then y25==8 else false then y26==0 else false then y27==8 else false then y28==0 else false then y29==8 else false) (zW (⟨[45,45,97],[],false⟩:zT)) (default:Int)) fun y30=>
  zg (zx (bif bif bif bif bif bif y24==8 then y25==8 else false then y26==0 else false then y27==8 else false then y28==0 else false then y29==8 else false then y30==0 else false) (zW (⟨[97,0],[(⟨(⟨1,[98],0,[],false⟩:ze),[]⟩:zb)],false⟩:zT)) (default:Int)) fun y31=>
  zg (zx (bif bif bif bif bif bif bif bif bif bif bif bif bif bif bif bif y1 then y2 else false then y3 else false then y4 else false then y5 else false then y6 else false then bif bif bif bif bif bif bif y24==8 then y25==8 else false then y26==0 else false then y27==8 else false then y28==0 else false then y29==8 else false then y30==0 else false then y31==8 else false else false then y10.1==28 else false then y11.1==20 else false then y13.2==4 else false then y15.2==8 else false then y16.2==8 else false then y18.2==28 else false then y19.2==8 else false then y20.2==28 else false then !y21.2.1 else false then y21.2.2==8 else false) (Wt ()) (default:Bool)) fun y32=>
  some (bif bif bif bif bif bif bif bif bif bif bif bif bif bif bif bif bif y1 then y2 else false then y3 else false then y4 else false then y5 else false then y6 else false then bif bif bif bif bif bif bif y24==8 then y25==8 else false then y26==0 else false then y27==8 else false then y28==0 else false then y29==8 else false then y30==0 else false then y31==8 else false else false then y10.1==28 else false then y11.1==20 else false then y13.2==4 else false then y15.2==8 else false then y16.2==8 else false then y18.2==28 else false then y19.2==8 else false then y20.2==28 else false then !y21.2.1 else false then y21.2.2==8 else false then y32 else false)
end Go.Lv.VT
end
