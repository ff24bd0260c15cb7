/- Texts. -/
import Derived.Test.YtcdeccnjlkkejaaGreatDoorTy
import Derived.Test.YtcdeccnjlkkejaaGreatDoorLf
noncomputable section
set_option linter.unusedSimpArgs false
set_option linter.unusedVariables false
namespace Go.Lv.VT
set_option maxRecDepth 100000
def stringslite_HasPrefix(x:Str×Str):Option Bool:=
 need (decide (0<=(x.2.length:Int))&&decide ((x.2.length:Int)<=(x.1.length:Int))|| !(decide ((x.1.length:Int)>=(x.2.length:Int))))<|
 some (bif decide ((x.1.length:Int)>=(x.2.length:Int))then List.take x.2.length x.1==x.2 else false)
def strings_HasPrefix(x:Str×Str):Option Bool:=
 ze (stringslite_HasPrefix (x.1,x.2)) fun y1=>
 some y1
def Zf(x:za):Option za:=
 qX (fun(s1:za)=>
   need (decide (0<=s1.at_)&&decide (s1.at_<=(s1.s.length:Int)))<|
   ze (strings_HasPrefix (List.drop s1.at_.toNat s1.s,[47,42])) fun y2=>
   bif y2 then
    need (decide (0<=w64 (s1.at_+2))&&decide (w64 (s1.at_+2)<=(s1.s.length:Int)))<|
    ze (Kj (List.drop (w64 (s1.at_+2)).toNat s1.s,[42,47])) fun y3=>
    bif decide (y3<0)then
     some (LO.ret (⟨s1.s,(s1.s.length:Int)⟩:za))
    else
     some (LO.again (⟨s1.s,w64 (s1.at_+w64 (y3+4))⟩:za))
   else
    some (LO.out s1):za->Option (LO (za) (za) _)) x fun o4=>
 some o4
def zb(x:Int×za):Option Int:=
 bif decide (w64 (x.2.at_+x.1)<(x.2.s.length:Int))then
  ze (geti x.2.s (w64 (x.2.at_+x.1))) fun y1=>
  some (w64 (y1.toNat:Int))
 else
  some (-1)
def Zb(x:Int):Option Bool:=
 some (bif bif x==32 then true else x==9 then true else x==10)
def zG(x:za):Option za:=
 qX (fun(s1:za)=>
   ze (zb (0,s1)) fun y2=>
   ze (Zb y2) fun y3=>
   bif y3 then
    some (LO.again (⟨s1.s,w64 (s1.at_+1)⟩:za))
   else
    some (LO.out s1):za->Option (LO (za) (za) _)) x fun o4=>
 some o4
def qi(x:Int):Option (List UInt8):=
 bif decide (wu32 x<=2047)then
  ze (ZZ (ibOr IntKind.u8 192 (wu8 (kg IntKind.i32 x 6)))) fun y1=>
  ze (ZZ (ibOr IntKind.u8 128 (lg IntKind.u8 (wu8 x) 63))) fun y2=>
  need (zC 0 2 1)<|
  some [y1,y2]
 else
  zT (X:=Bool) (
    bif decide (wu32 x<55296)then
     some (LX.out (decide (wu32 x<55296)))
    else
     some (LX.out (bif decide (57343<wu32 x)then decide (wu32 x<=65535)else false))) fun j3=>
  bif j3 then
   ze (ZZ (ibOr IntKind.u8 224 (wu8 (kg IntKind.i32 x 12)))) fun y4=>
   ze (ZZ (ibOr IntKind.u8 128 (lg IntKind.u8 (wu8 (kg IntKind.i32 x 6)) 63))) fun y5=>
   ze (ZZ (ibOr IntKind.u8 128 (lg IntKind.u8 (wu8 x) 63))) fun y6=>
   need (zC 0 3 1)<|
   some [y4,y5,y6]
  else
   bif bif decide (wu32 x>65535)then decide (wu32 x<=1114111)else false then
    ze (ZZ (ibOr IntKind.u8 240 (wu8 (kg IntKind.i32 x 18)))) fun y7=>
    ze (ZZ (ibOr IntKind.u8 128 (lg IntKind.u8 (wu8 (kg IntKind.i32 x 12)) 63))) fun y8=>
    ze (ZZ (ibOr IntKind.u8 128 (lg IntKind.u8 (wu8 (kg IntKind.i32 x 6)) 63))) fun y9=>
    ze (ZZ (ibOr IntKind.u8 128 (lg IntKind.u8 (wu8 x) 63))) fun y10=>
    need (zC 0 4 1)<|
    some [y7,y8,y9,y10]
   else
    need (zC 0 3 1)<|
    some [(239:UInt8),(191:UInt8),(189:UInt8)]
def ZL(x:Int):Option (List UInt8):=
 bif decide (wu32 x<=127)then
  ze (ZZ (wu8 x)) fun y1=>
  need (zC 0 1 1)<|
  some [y1]
 else
  ze (qi x) fun y2=>
  some y2
def ZJ(x:Int×Int×Int):Option Bool:=
 some (bif decide (x.2.1<=x.1)then decide (x.1<=x.2.2)else false)
def Zi(x:Int):Option Bool:=
 ze (ZJ (x,48,57)) fun y1=>
 some y1
def Qj(x:Int):Option Int:=
 ze (Zi x) fun y1=>
 bif y1 then
  some (w64 (x - 48))
 else
  ze (zY (x != (-1)) (ZJ (ibOr IntKind.i64 x 32,97,102)) (default:Bool)) fun y2=>
  bif bif bif bif x != (-1)then y2 else false then decide (x>64)else false then decide (x<128)else false then
   some (w64 (w64 (ibOr IntKind.i64 x 32 - 97)+10))
  else
   some (-1)
def Zo(x:za):Option (za×List UInt8):=
 ze (zb (0,(⟨x.s,w64 (x.at_+1)⟩:za))) fun y1=>
 bif y1==(-1)then
  ze (ZL 65533) fun y2=>
  some ((⟨x.s,w64 (x.at_+1)⟩:za),y2)
 else
  ze (Qj y1) fun y3=>
  bif decide (y3<0)then
   ze (ZZ (wu8 y1)) fun y4=>
   need (zC 0 1 1)<|
   some ((⟨x.s,w64 (w64 (x.at_+1)+1)⟩:za),[y4])
  else
   qX (fun(s5:(Int×Int)×za)=>
     bif decide (s5.1.2<6)then
      ze (zb (0,s5.2)) fun y6=>
      ze (Qj y6) fun y7=>
      bif decide (y7<0)then
       some (LO.out (s5.1.1,s5.2))
      else
       some (LO.again ((ibOr IntKind.i64 (Kq IntKind.i64 s5.1.1 4) y7,w64 (s5.1.2+1)),(⟨s5.2.s,w64 (s5.2.at_+1)⟩:za)))
     else
      some (LO.out (s5.1.1,s5.2)):(Int×Int)×za->Option (LO ((Int×Int)×za) (Int×za) _)) ((0,0),(⟨x.s,w64 (x.at_+1)⟩:za)) fun o8=>
   zT (X:=Int×za) (
     ze (zb (0,o8.2)) fun y9=>
     ze (Zb y9) fun y10=>
     bif y10 then
      some (LX.out (o8.1,(⟨o8.2.s,w64 (o8.2.at_+1)⟩:za)))
     else
      some (LX.out (o8.1,o8.2))) fun j11=>
   zT (X:=Int) (
     bif j11.1==0 then
      some (LX.out 65533)
     else
      some (LX.out j11.1)) fun j12=>
   ze (ZL (w32 j12)) fun y13=>
   some (j11.2,y13)
def qj(x:Int×List UInt8):Option (List UInt8):=
 bif decide (wu32 x.1<=2047)then
  ze (ZZ (ibOr IntKind.u8 192 (wu8 (kg IntKind.i32 x.1 6)))) fun y1=>
  ze (ZZ (ibOr IntKind.u8 128 (lg IntKind.u8 (wu8 x.1) 63))) fun y2=>
  need (zC x.2.length 2 1)<|
  some (x.2++[y1,y2])
 else
  zT (X:=Bool×List UInt8) (
    bif decide (wu32 x.1<55296)then
     some (LX.out (decide (wu32 x.1<55296),x.2))
    else
     some (LX.out (bif decide (57343<wu32 x.1)then decide (wu32 x.1<=65535)else false,x.2))) fun j3=>
  bif j3.1 then
   ze (ZZ (ibOr IntKind.u8 224 (wu8 (kg IntKind.i32 x.1 12)))) fun y4=>
   ze (ZZ (ibOr IntKind.u8 128 (lg IntKind.u8 (wu8 (kg IntKind.i32 x.1 6)) 63))) fun y5=>
   ze (ZZ (ibOr IntKind.u8 128 (lg IntKind.u8 (wu8 x.1) 63))) fun y6=>
   need (zC j3.2.length 3 1)<|
   some (j3.2++[y4,y5,y6])
  else
   bif bif decide (wu32 x.1>65535)then decide (wu32 x.1<=1114111)else false then
    ze (ZZ (ibOr IntKind.u8 240 (wu8 (kg IntKind.i32 x.1 18)))) fun y7=>
    ze (ZZ (ibOr IntKind.u8 128 (lg IntKind.u8 (wu8 (kg IntKind.i32 x.1 12)) 63))) fun y8=>
    ze (ZZ (ibOr IntKind.u8 128 (lg IntKind.u8 (wu8 (kg IntKind.i32 x.1 6)) 63))) fun y9=>
    ze (ZZ (ibOr IntKind.u8 128 (lg IntKind.u8 (wu8 x.1) 63))) fun y10=>
    need (zC j3.2.length 4 1)<|
    some (j3.2++[y7,y8,y9,y10])
   else
    need (zC j3.2.length 3 1)<|
    some (j3.2++[(239:UInt8),(191:UInt8),(189:UInt8)])
def ZM(x:Int×List UInt8):Option (List UInt8):=
 bif decide (wu32 x.1<=127)then
  ze (ZZ (wu8 x.1)) fun y1=>
  need (zC x.2.length 1 1)<|
  some (x.2++[y1])
 else
  ze (qj (x.1,x.2)) fun y2=>
  some y2
def zz(x:za×List UInt8):Option (za×List UInt8):=
 ze (zb (0,(⟨x.1.s,w64 (x.1.at_+1)⟩:za))) fun y1=>
 bif y1==(-1)then
  ze (ZM (65533,x.2)) fun y2=>
  some ((⟨x.1.s,w64 (x.1.at_+1)⟩:za),y2)
 else
  ze (Qj y1) fun y3=>
  bif decide (y3<0)then
   ze (ZZ (wu8 y1)) fun y4=>
   need (zC x.2.length 1 1)<|
   some ((⟨x.1.s,w64 (w64 (x.1.at_+1)+1)⟩:za),x.2++[y4])
  else
   qX (fun(s5:(Int×Int)×za)=>
     bif decide (s5.1.2<6)then
      ze (zb (0,s5.2)) fun y6=>
      ze (Qj y6) fun y7=>
      bif decide (y7<0)then
       some (LO.out (s5.1.1,s5.2))
      else
       some (LO.again ((ibOr IntKind.i64 (Kq IntKind.i64 s5.1.1 4) y7,w64 (s5.1.2+1)),(⟨s5.2.s,w64 (s5.2.at_+1)⟩:za)))
     else
      some (LO.out (s5.1.1,s5.2)):(Int×Int)×za->Option (LO ((Int×Int)×za) (Int×za) _)) ((0,0),(⟨x.1.s,w64 (x.1.at_+1)⟩:za)) fun o8=>
   zT (X:=Int×za×List UInt8) (
     ze (zb (0,o8.2)) fun y9=>
     ze (Zb y9) fun y10=>
     bif y10 then
      some (LX.out (o8.1,(⟨o8.2.s,w64 (o8.2.at_+1)⟩:za),x.2))
     else
      some (LX.out (o8.1,o8.2,x.2))) fun j11=>
   zT (X:=Int×List UInt8) (
     bif j11.1==0 then
      some (LX.out (65533,j11.2.2))
     else
      some (LX.out (j11.1,j11.2.2))) fun j12=>
   ze (ZM (w32 j12.1,j12.2)) fun y13=>
   some (j11.2.1,y13)
def ZH(x:za):Option (zf×za):=
 ze (zb (0,x)) fun y1=>
 qX (fun(s2:za×zf×List UInt8)=>
   ze (zb (0,s2.1)) fun y3=>
   bif y3==(-1)then
    some (LO.out (s2.1,s2.2.1,s2.2.2))
   else
    bif y3==y1 then
     some (LO.out ((⟨s2.1.s,w64 (s2.1.at_+1)⟩:za),s2.2.1,s2.2.2))
    else
     bif y3==10 then
      some (LO.ret ((⟨6,[],0,[],false⟩:zf),s2.1))
     else
      ze (zY (y3==92) (zb (1,s2.1)) (default:Int)) fun y4=>
      ze (zY (!(y4==(-1))&&y3==92) (zb (1,s2.1)) (default:Int)) fun y5=>
      bif bif y3==92 then bif y4==(-1)then true else y5==10 else false then
       some (LO.again ((⟨s2.1.s,if(s2.1.s.length:Int)<w64 (s2.1.at_+2)then(s2.1.s.length:Int)else w64 (s2.1.at_+2)⟩:za),s2.2.1,s2.2.2))
      else
       bif y3==92 then
        ze (zz (s2.1,s2.2.2)) fun y6=>
        some (LO.again (y6.1,s2.2.1,y6.2))
       else
        ze (ZZ (wu8 y3)) fun y7=>
        need (zC s2.2.2.length 1 1)<|
        some (LO.again ((⟨s2.1.s,w64 (s2.1.at_+1)⟩:za),s2.2.1,s2.2.2++[y7])):za×zf×List UInt8->Option (LO (za×zf×List UInt8) (za×zf×List UInt8) _)) ((⟨x.s,w64 (x.at_+1)⟩:za),(⟨0,[],0,[],false⟩:zf),[]) fun o8=>
 some ((⟨5,o8.2.2,0,[],false⟩:zf),o8.1)
def ul(x:Int):Option Bool:=
 ze (ZJ (ibOr IntKind.i64 x 32,97,122)) fun y1=>
 some (bif bif bif bif y1 then decide (x<128)else false then decide (x>64)else false then true else x==95 then true else decide (x>=128))
def Qk(x:Int):Option Bool:=
 ze (ul x) fun y1=>
 ze (zY (!y1) (Zi x) (default:Bool)) fun y2=>
 some (bif bif y1 then true else y2 then true else x==45)
def zo(x:Int×za):Option Bool:=
 ze (zb (x.1,x.2)) fun y1=>
 ze (zY (y1==92) (zb (w64 (x.1+1),x.2)) (default:Int)) fun y2=>
 some (bif y1==92 then y2 != 10 else false)
def zF(x:Int×za):Option Bool:=
 ze (zb (x.1,x.2)) fun y1=>
 bif y1 != 45 then
  ze (zb (x.1,x.2)) fun y2=>
  ze (ul y2) fun y3=>
  ze (zY (!y3) (zo (x.1,x.2)) (default:Bool)) fun y4=>
  some (bif y3 then true else y4)
 else
  ze (zb (w64 (x.1+1),x.2)) fun y5=>
  ze (ul y5) fun y6=>
  ze (zY (!y6) (zb (w64 (x.1+1),x.2)) (default:Int)) fun y7=>
  ze (zY (!(bif y6 then true else y7==45)) (zo (w64 (x.1+1),x.2)) (default:Bool)) fun y8=>
  some (bif bif y6 then true else y7==45 then true else y8)
def zK(x:za):Option (Str×za):=
 qX (fun(s1:za×List UInt8)=>
   ze (zb (0,s1.1)) fun y2=>
   ze (Qk y2) fun y3=>
   bif y3 then
    ze (ZZ (wu8 y2)) fun y4=>
    need (zC s1.2.length 1 1)<|
    some (LO.again ((⟨s1.1.s,w64 (s1.1.at_+1)⟩:za),s1.2++[y4]))
   else
    ze (zY (y2 != (-1)) (zo (0,s1.1)) (default:Bool)) fun y5=>
    bif bif y2 != (-1)then y5 else false then
     ze (zz (s1.1,s1.2)) fun y6=>
     some (LO.again (y6.1,y6.2))
    else
     some (LO.ret (s1.2,s1.1)):za×List UInt8->Option (LO (za×List UInt8) (Unit) _)) (x,[]) fun o7=>
 none
def qm(x:za):Option Bool:=
 zT (X:=Int) (
   ze (zb (0,x)) fun y1=>
   bif bif y1==43 then true else y1==45 then
    some (LX.out 1)
   else
    some (LX.out 0)) fun j2=>
 zT (X:=Int) (
   ze (zb (j2,x)) fun y3=>
   bif y3==46 then
    some (LX.out (w64 (j2+1)))
   else
    some (LX.out j2)) fun j4=>
 ze (zb (j4,x)) fun y5=>
 ze (Zi y5) fun y6=>
 some y6
def zV(x:za):Option za:=
 qX (fun(s1:za)=>
   ze (zb (0,s1)) fun y2=>
   ze (Zi y2) fun y3=>
   bif y3 then
    some (LO.again (⟨s1.s,w64 (s1.at_+1)⟩:za))
   else
    some (LO.out s1):za->Option (LO (za) (za) _)) x fun o4=>
 some o4
def Zy(x:za):Option (Bool×za):=
 zT (X:=za) (
   ze (zb (0,x)) fun y1=>
   bif bif y1==43 then true else y1==45 then
    some (LX.out (⟨x.s,w64 (x.at_+1)⟩:za))
   else
    some (LX.out x)) fun j2=>
 ze (zV j2) fun y3=>
 zT (X:=Bool×za) (
   ze (zb (0,y3)) fun y4=>
   ze (zY (y4==46) (zb (1,y3)) (default:Int)) fun y5=>
   ze (zY (y4==46) (Zi y5) (default:Bool)) fun y6=>
   bif bif y4==46 then y6 else false then
    ze (zV (⟨y3.s,w64 (y3.at_+1)⟩:za)) fun y7=>
    some (LX.out (false,y7))
   else
    some (LX.out (true,y3))) fun j8=>
 zT (X:=Bool×za) (
   ze (zb (0,j8.2)) fun y9=>
   ze (zY (!(y9==101)) (zb (0,j8.2)) (default:Int)) fun y10=>
   bif bif y9==101 then true else y10==69 then
    zT (X:=(Bool×Int)×za) (
      ze (zb (1,j8.2)) fun y11=>
      bif bif y11==43 then true else y11==45 then
       some (LX.out ((j8.1,2),j8.2))
      else
       some (LX.out ((j8.1,1),j8.2))) fun j12=>
    ze (zb (j12.1.2,j12.2)) fun y13=>
    ze (Zi y13) fun y14=>
    bif y14 then
     ze (zV (⟨j12.2.s,w64 (j12.2.at_+j12.1.2)⟩:za)) fun y15=>
     some (LX.out (false,y15))
    else
     some (LX.out (j12.1.1,j12.2))
   else
    some (LX.out (j8.1,j8.2))) fun j16=>
 some (j16.1,j16.2)
def qD(x:Str):Option Int:=
 ze (geti x 0) fun y1=>
 ze (si (x,[43,45])) fun y2=>
 zT (X:=Str×Int) (
   ze (wo (y2,[101,69])) fun y3=>
   bif decide (y3>=0)then
    need (decide (0<=w64 (y3+1))&&decide (w64 (y3+1)<=(y2.length:Int)))<|
    ze (si (List.drop (w64 (y3+1)).toNat y2,[43,45])) fun y4=>
    need (decide (y4.length<=maxLen))<|
    qX (fun(s5:Int×Int)=>
      bif decide (s5.2<(y4.length:Int))then
       need (decide (0<=s5.2)&&decide (s5.2<(y4.length:Int)))<|
       ze y4[s5.2.toNat]? fun y6=>
       some (LO.again (if 1048576<w64 (w64 (10*s5.1)+w64 (wu8 ((y6.toNat:Int) - 48)))then 1048576 else w64 (w64 (10*s5.1)+w64 (wu8 ((y6.toNat:Int) - 48))),w64 (s5.2+1)))
      else
       some (LO.out s5.1):Int×Int->Option (LO (Int×Int) (Int) _)) (0,0) fun o7=>
    zT (X:=Str×Int×Int) (
      ze (geti y2 (w64 (y3+1))) fun y8=>
      bif (y8.toNat:Int)==45 then
       some (LX.out (y2,3,w64 (0 - o7)))
      else
       some (LX.out (y2,3,o7))) fun j9=>
    need (decide (0<=y3)&&decide (y3<=(j9.1.length:Int)))<|
    some (LX.out (List.take y3.toNat j9.1,w64 (j9.2.1+j9.2.2)))
   else
    some (LX.out (y2,3))) fun j10=>
 ze (cutF (j10.1,[46])) fun y11=>
 need (Bi y11.1.length y11.2.1.length)<|
 zT (X:=Str×Int) (
   bif decide (w64 (j10.2 - (y11.2.1.length:Int))<0)then
    need (decide (0<=(if w64 (((y11.1++y11.2.1).length:Int)+w64 (j10.2 - (y11.2.1.length:Int)))>0 then w64 (((y11.1++y11.2.1).length:Int)+w64 (j10.2 - (y11.2.1.length:Int)))else 0))&&decide ((if w64 (((y11.1++y11.2.1).length:Int)+w64 (j10.2 - (y11.2.1.length:Int)))>0 then w64 (((y11.1++y11.2.1).length:Int)+w64 (j10.2 - (y11.2.1.length:Int)))else 0)<=((y11.1++y11.2.1).length:Int)))<|
    some (LX.out (List.take (if w64 (((y11.1++y11.2.1).length:Int)+w64 (j10.2 - (y11.2.1.length:Int)))>0 then w64 (((y11.1++y11.2.1).length:Int)+w64 (j10.2 - (y11.2.1.length:Int)))else 0).toNat (y11.1++y11.2.1),w64 (j10.2 - (y11.2.1.length:Int))))
   else
    some (LX.out (y11.1++y11.2.1,w64 (j10.2 - (y11.2.1.length:Int))))) fun j12=>
 need (decide (j12.1.length<=maxLen))<|
 qX (fun(s13:Int×Int)=>
   bif decide (s13.2<(j12.1.length:Int))then
    need (decide (0<=s13.2)&&decide (s13.2<(j12.1.length:Int)))<|
    ze j12.1[s13.2.toNat]? fun y14=>
    some (LO.again (if 1000000000000<w64 (w64 (10*s13.1)+w64 (wu8 ((y14.toNat:Int) - 48)))then 1000000000000 else w64 (w64 (10*s13.1)+w64 (wu8 ((y14.toNat:Int) - 48))),w64 (s13.2+1)))
   else
    some (LO.out s13.1):Int×Int->Option (LO (Int×Int) (Int) _)) (0,0) fun o15=>
 qX (fun(s16:Int×Int)=>
   bif bif bif decide (s16.1>0)then decide (s16.2>0)else false then decide (s16.2<1000000000000)else false then
    some (LO.again (w64 (s16.1 - 1),if 1000000000000<w64 (10*s16.2)then 1000000000000 else w64 (10*s16.2)))
   else
    some (LO.out s16.2):Int×Int->Option (LO (Int×Int) (Int) _)) (j12.2,o15) fun o17=>
 zT (X:=Int) (
   bif (y1.toNat:Int)==45 then
    some (LX.out (w64 (0 - o17)))
   else
    some (LX.out o17)) fun j18=>
 some j18
def Zz(x:za):Option (zf×za):=
 ze (Zy x) fun y1=>
 need (decide (0<=x.at_)&&(decide (x.at_<=y1.2.at_)&&decide (y1.2.at_<=(y1.2.s.length:Int))))<|
 ze (qD (List.drop x.at_.toNat (List.take y1.2.at_.toNat y1.2.s))) fun y2=>
 zT (X:=za×zf×zf) (
   ze (zF (0,y1.2)) fun y3=>
   bif y3 then
    ze (zK y1.2) fun y4=>
    some (LX.out (y4.2,(⟨0,[],0,[],false⟩:zf),(⟨12,[],y2,y4.1,y1.1⟩:zf)))
   else
    ze (zb (0,y1.2)) fun y5=>
    bif y5==37 then
     some (LX.out ((⟨y1.2.s,w64 (y1.2.at_+1)⟩:za),(⟨0,[],0,[],false⟩:zf),(⟨11,[],y2,[],false⟩:zf)))
    else
     some (LX.out (y1.2,(⟨0,[],0,[],false⟩:zf),(⟨10,[],y2,[],y1.1⟩:zf)))) fun j6=>
 some (j6.2.2,j6.1)
def il(x:Str):Option Str:=
 need (decide (x.length<=maxLen))<|
 qX (fun(s1:Int×List UInt8)=>
   bif decide (s1.1<(x.length:Int))then
    zT (X:=Int×List UInt8) (
      need (decide (0<=s1.1)&&decide (s1.1<(s1.2.length:Int)))<|
      ze s1.2[s1.1.toNat]? fun y2=>
      bif bif decide (65<=(y2.toNat:Int))then decide ((y2.toNat:Int)<=90)else false then
       need (decide (0<=s1.1)&&decide (s1.1<(s1.2.length:Int)))<|
       ze s1.2[s1.1.toNat]? fun y3=>
       need (decide (0<=s1.1)&&decide (s1.1<(s1.2.length:Int)))<|
       ze s1.2[s1.1.toNat]? fun y4=>
       ze (ZZ (ibOr IntKind.u8 (y3.toNat:Int) 32)) fun y5=>
       some (LX.out (s1.1,List.set s1.2 s1.1.toNat y5))
      else
       some (LX.out (s1.1,s1.2))) fun j6=>
    some (LO.again (w64 (j6.1+1),j6.2))
   else
    some (LO.out s1.2):Int×List UInt8->Option (LO (Int×List UInt8) (List UInt8) _)) (0,x) fun o7=>
 some o7
def QO(x:Str×Str):Option Bool:=
 ze (il x.1) fun y1=>
 ze (il x.2) fun y2=>
 some (y1==y2)
def Zv(x:za):Option (zf×za):=
 qX (fun(s1:za×zf)=>
   ze (zb (0,s1.1)) fun y2=>
   bif y2==(-1)then
    some (LO.ret ((⟨8,[],0,[],false⟩:zf),s1.1))
   else
    ze (zo (0,s1.1)) fun y3=>
    bif y3 then
     ze (Zo s1.1) fun y4=>
     some (LO.again (y4.1,s1.2))
    else
     ze (geti s1.1.s (w64 (w64 (s1.1.at_+1) - 1))) fun y5=>
     bif (y5.toNat:Int)==41 then
      some (LO.ret ((⟨8,[],0,[],false⟩:zf),(⟨s1.1.s,w64 (s1.1.at_+1)⟩:za)))
     else
      some (LO.again ((⟨s1.1.s,w64 (s1.1.at_+1)⟩:za),s1.2)):za×zf->Option (LO (za×zf) (Unit) _)) (x,(⟨0,[],0,[],false⟩:zf)) fun o6=>
 none
def qC(x:za):Option (zf×za):=
 ze (zG x) fun y1=>
 qX (fun(s2:za×zf×List UInt8)=>
   ze (zb (0,s2.1)) fun y3=>
   zT (X:=Int×za×zf×List UInt8) (
     ze (Zb y3) fun y4=>
     bif y4 then
      ze (zG s2.1) fun y5=>
      ze (zb (0,y5)) fun y6=>
      bif bif y6 != 41 then y6 != (-1)else false then
       ze (Zv y5) fun y7=>
       some (LX.ret (LO.ret (y7.1,y7.2)))
      else
       some (LX.out (y6,y5,s2.2.1,s2.2.2))
     else
      some (LX.out (y3,s2.1,s2.2.1,s2.2.2))) fun j8=>
   bif j8.1==(-1)then
    some (LO.ret ((⟨7,j8.2.2.2,0,[],false⟩:zf),j8.2.1))
   else
    bif j8.1==41 then
     some (LO.ret ((⟨7,j8.2.2.2,0,[],false⟩:zf),(⟨j8.2.1.s,w64 (j8.2.1.at_+1)⟩:za)))
    else
     ze (zY (!(bif bif bif bif j8.1==34 then true else j8.1==39 then true else j8.1==40 then true else decide (j8.1<=8)then true else j8.1==11)) (ZJ (j8.1,14,31)) (default:Bool)) fun y9=>
     bif bif bif bif bif bif bif j8.1==34 then true else j8.1==39 then true else j8.1==40 then true else decide (j8.1<=8)then true else j8.1==11 then true else y9 then true else j8.1==127 then
      ze (Zv j8.2.1) fun y10=>
      some (LO.ret (y10.1,y10.2))
     else
      bif j8.1 != 92 then
       ze (ZZ (wu8 j8.1)) fun y11=>
       need (zC j8.2.2.2.length 1 1)<|
       some (LO.again ((⟨j8.2.1.s,w64 (j8.2.1.at_+1)⟩:za),j8.2.2.1,j8.2.2.2++[y11]))
      else
       ze (zo (0,j8.2.1)) fun y12=>
       bif y12 then
        ze (zz (j8.2.1,j8.2.2.2)) fun y13=>
        some (LO.again (y13.1,j8.2.2.1,y13.2))
       else
        ze (Zv j8.2.1) fun y14=>
        some (LO.ret (y14.1,y14.2)):za×zf×List UInt8->Option (LO (za×zf×List UInt8) (Unit) _)) (y1,(⟨0,[],0,[],false⟩:zf),[]) fun o15=>
 none
def ZQ(x:za):Option (zf×za):=
 ze (zK x) fun y1=>
 ze (zb (0,y1.2)) fun y2=>
 bif y2 != 40 then
  some ((⟨1,y1.1,0,[],false⟩:zf),y1.2)
 else
  zT (X:=za×zf) (
    ze (QO (y1.1,[117,114,108])) fun y3=>
    bif y3 then
     ze (zG (⟨y1.2.s,w64 (y1.2.at_+1)⟩:za)) fun y4=>
     ze (zb (0,y4)) fun y5=>
     bif bif y5 != 34 then y5 != 39 else false then
      ze (qC (⟨y1.2.s,w64 (y1.2.at_+1)⟩:za)) fun y6=>
      some (LX.ret (y6.1,y6.2))
     else
      some (LX.out ((⟨y1.2.s,w64 (y1.2.at_+1)⟩:za),(⟨0,[],0,[],false⟩:zf)))
    else
     some (LX.out ((⟨y1.2.s,w64 (y1.2.at_+1)⟩:za),(⟨0,[],0,[],false⟩:zf)))) fun j7=>
  some ((⟨2,y1.1,0,[],false⟩:zf),j7.1)
def strings_IndexByte(x:Str×Int):Option Int:=
 ze (yn (x.1,x.2)) fun y1=>
 some y1
def qb(x:za):Option (zf×za):=
 ze (zb (0,x)) fun y1=>
 need (decide (0<=x.at_)&&decide (x.at_<=(x.s.length:Int)))<|
 ze (Zb y1) fun y2=>
 bif y2 then
  ze (zG x) fun y3=>
  some ((⟨13,[],0,[],false⟩:zf),y3)
 else
  bif bif y1==34 then true else y1==39 then
   ze (ZH x) fun y4=>
   some (y4.1,y4.2)
  else
   ze (zY (y1==35) (zb (1,x)) (default:Int)) fun y5=>
   ze (zY (y1==35) (Qk y5) (default:Bool)) fun y6=>
   ze (zY (!y6&&y1==35) (zo (1,x)) (default:Bool)) fun y7=>
   bif bif y1==35 then bif y6 then true else y7 else false then
    ze (zF (1,x)) fun y8=>
    ze (zK (⟨x.s,w64 (x.at_+1)⟩:za)) fun y9=>
    some ((⟨4,y9.1,0,[],y8⟩:zf),y9.2)
   else
    ze (qm x) fun y10=>
    bif y10 then
     ze (Zz x) fun y11=>
     some (y11.1,y11.2)
    else
     ze (strings_HasPrefix (List.drop x.at_.toNat x.s,[45,45,62])) fun y12=>
     bif y12 then
      some ((⟨15,[],0,[],false⟩:zf),(⟨x.s,w64 (x.at_+3)⟩:za))
     else
      ze (strings_HasPrefix (List.drop x.at_.toNat x.s,[60,33,45,45])) fun y13=>
      bif y13 then
       some ((⟨14,[],0,[],false⟩:zf),(⟨x.s,w64 (x.at_+4)⟩:za))
      else
       ze (zY (y1==64) (zF (1,x)) (default:Bool)) fun y14=>
       bif bif y1==64 then y14 else false then
        ze (zK (⟨x.s,w64 (x.at_+1)⟩:za)) fun y15=>
        some ((⟨3,y15.1,0,[],false⟩:zf),y15.2)
       else
        ze (zF (0,x)) fun y16=>
        bif y16 then
         ze (ZQ x) fun y17=>
         some (y17.1,y17.2)
        else
         ze (strings_IndexByte ([58,59,44,91,93,40,41,123,125],wu8 y1)) fun y18=>
         bif decide (y18>=0)then
          some ((⟨wu8 (16+wu8 y18),[],0,[],false⟩:zf),(⟨x.s,w64 (x.at_+1)⟩:za))
         else
          need (decide (1<=((List.drop x.at_.toNat x.s).length:Int)))<|
          some ((⟨9,List.take 1 (List.drop x.at_.toNat x.s),0,[],false⟩:zf),(⟨x.s,w64 (x.at_+1)⟩:za))
def QN(x:(zf×Int×Int)×List zf):Option (List zf):=
 need (zC x.2.length 1 56)<|
 some (x.2++[x.1.1])
def Yp(x:Str):Option (Int×List zf):=
 ze (Pk x) fun y1=>
 bif y1.2 != 0 then
  some (y1.2,[])
 else
  ze (Zf (⟨y1.1,0⟩:za)) fun y2=>
  qX (fun(s3:Int×List zf×za)=>
    bif decide (s3.2.2.at_<(y1.1.length:Int))then
     bif decide (w64 (s3.1+1)>1500)then
      some (LO.ret (4,s3.2.1))
     else
      ze (qb s3.2.2) fun y4=>
      ze (QN ((y4.1,s3.2.2.at_,y4.2.at_),s3.2.1)) fun y5=>
      ze (Zf y4.2) fun y6=>
      some (LO.again (w64 (s3.1+1),y5,y6))
    else
     some (LO.out (s3.2.1,s3.2.2)):Int×List zf×za->Option (LO (Int×List zf×za) (List zf×za) _)) (0,[],y2) fun o7=>
  some (0,o7.1)
def qa(x:Str):Option (List zf×Int):=
 ze (Yp x) fun y1=>
 bif y1.1 != 0 then
  some ([],y1.1)
 else
  some (y1.2,0)
def Zh(x:Int):Option Int:=
 bif x==2 then
  some 22
 else
  zT (X:=Bool) (
    bif x==19 then
     some (LX.out (x==19))
    else
     bif x==21 then
      some (LX.out (x==21))
     else
      some (LX.out (x==23))) fun j1=>
  bif j1 then
   some (wu8 (x+1))
  else
   some 0
def Wl(Zr:List zg×Int->Option zl)(x:List zg×Int):Option zl:=
 qX (fun(s1:Int×zl)=>
   bif decide (s1.1<(x.1.length:Int))then
    zT (X:=Int×zl) (
      ze (geti x.1 s1.1) fun y2=>
      ze (Zh y2.token.kind) fun y3=>
      zT (X:=zl) (
        bif bif bif x.2 != 0 then y2.token.kind==x.2 else false then true else bif y3==0 then decide ((y2.list.length:Int)>0)else false then
         some (LX.out (⟨s1.2.depth,w64 (s1.2.tokens+1),true⟩:zl))
        else
         some (LX.out (⟨s1.2.depth,w64 (s1.2.tokens+1),s1.2.bad⟩:zl))) fun j4=>
      bif y3==0 then
       some (LX.out (s1.1,j4))
      else
       ze (Zr (y2.list,y3)) fun y5=>
       some (LX.out (s1.1,(⟨if w64 (y5.depth+1)>j4.depth then w64 (y5.depth+1)else j4.depth,w64 (w64 (j4.tokens+y5.tokens)+1),bif j4.bad then true else y5.bad⟩:zl)))) fun j6=>
    some (LO.again (w64 (j6.1+1),j6.2))
   else
    some (LO.out s1.2):Int×zl->Option (LO (Int×zl) (zl) _)) (0,(⟨0,0,false⟩:zl)) fun o7=>
 some o7
def Zr:List zg×Int->Option zl:=recE (Wl)
def zH(x:List zg):Option Int:=
 ze (Zr (x,0)) fun y1=>
 bif decide (y1.depth>16)then
  some 20
 else
  bif decide (y1.tokens>1500)then
   some 4
  else
   bif y1.bad then
    some 8
   else
    some 0
def Qp(Za:List zg×List zf->Option (List zf))(x:List zg×List zf):Option (List zf):=
 qX (fun(s1:Int×List zf)=>
   bif decide (s1.1<(x.1.length:Int))then
    zT (X:=Int×List zf) (
      ze (geti x.1 s1.1) fun y2=>
      need (zC s1.2.length 1 56)<|
      ze (Zh y2.token.kind) fun y3=>
      bif y3 != 0 then
       ze (Za (y2.list,s1.2++[y2.token])) fun y4=>
       need (zC y4.length 1 56)<|
       some (LX.out (s1.1,y4++[(⟨y3,[],0,[],false⟩:zf)]))
      else
       some (LX.out (s1.1,s1.2++[y2.token]))) fun j5=>
    some (LO.again (w64 (j5.1+1),j5.2))
   else
    some (LO.out s1.2):Int×List zf->Option (LO (Int×List zf) (List zf) _)) (0,x.2) fun o6=>
 some o6
def Za:List zg×List zf->Option (List zf):=recE (Qp)
def qg(x:List zg):Option (List zf):=
 qX (fun(s1:Int×List zf)=>
   bif decide (s1.1<(x.length:Int))then
    zT (X:=Int×List zf) (
      ze (geti x s1.1) fun y2=>
      need (zC s1.2.length 1 56)<|
      ze (Zh y2.token.kind) fun y3=>
      bif y3 != 0 then
       ze (Za (y2.list,s1.2++[y2.token])) fun y4=>
       need (zC y4.length 1 56)<|
       some (LX.out (s1.1,y4++[(⟨y3,[],0,[],false⟩:zf)]))
      else
       some (LX.out (s1.1,s1.2++[y2.token]))) fun j5=>
    some (LO.again (w64 (j5.1+1),j5.2))
   else
    some (LO.out s1.2):Int×List zf->Option (LO (Int×List zf) (List zf) _)) (0,[]) fun o6=>
 some o6
def stringslite_TrimPrefix(x:Str×Str):Option Str:=
 ze (stringslite_HasPrefix (x.1,x.2)) fun y1=>
 bif y1 then
  need (decide (0<=(x.2.length:Int))&&decide ((x.2.length:Int)<=(x.1.length:Int)))<|
  some (List.drop x.2.length x.1)
 else
  some x.1
def strings_TrimPrefix(x:Str×Str):Option Str:=
 ze (stringslite_TrimPrefix (x.1,x.2)) fun y1=>
 some y1
def qR(x:Int):Option Bool:=
 some (bif decide (48<=x)then decide (x<=57)else false)
def QV(x:Str):Option Bool:=
 ze (strings_TrimPrefix (x,[45])) fun y1=>
 ze (zY (!(y1==[])) (geti y1 0) 0) fun y2=>
 ze (zY (!(y1==[])) (qR (y2.toNat:Int)) (default:Bool)) fun y3=>
 some (bif !(y1==[])then y3 else false)
def Jp(x:Int):Option Bool:=
 some (bif bif decide (97<=ibOr IntKind.u8 x 32)then decide (ibOr IntKind.u8 x 32<=122)else false then decide (x<128)else false)
def Rl(x:Int):Option Bool:=
 ze (Jp x) fun y1=>
 ze (zY (!y1) (qR x) (default:Bool)) fun y2=>
 some (bif bif bif bif y1 then true else y2 then true else x==95 then true else x==45 then true else decide (x>=128))
def strings_Contains(x:Str×Str):Option Bool:=
 ze (Kj (x.1,x.2)) fun y1=>
 some (decide (y1>=0))
def Nt(x:zf):Option Bool:=
 need (Bi x.text.length x.unit.length)<|
 ze (strings_IndexByte (x.text++x.unit,0)) fun y1=>
 zT (X:=Bool×Bool×Bool×Bool×Bool) (
   zT (X:=Bool×Bool×Bool×Bool×Bool×Bool) (
     bif x.kind==1 then
      some (LX.out (false,false,false,false,decide (y1<0),x.kind==1))
     else
      bif x.kind==2 then
       some (LX.out (false,false,false,false,decide (y1<0),x.kind==2))
      else
       some (LX.out (false,false,false,false,decide (y1<0),x.kind==3))) fun j2=>
   bif j2.2.2.2.2.2 then
    some (LX.out (true,j2.2.1,j2.2.2.1,j2.2.2.2.1,bif j2.2.2.2.2.1 then !(x.text==[])else false))
   else
    bif x.kind==4 then
     ze (zY (!x.flag&&(bif j2.2.2.2.2.1 then !(x.text==[])else false)) (QV x.text) (default:Bool)) fun y3=>
     ze (zY (y3&&(!x.flag&&(bif j2.2.2.2.2.1 then !(x.text==[])else false))) (strings_HasPrefix (x.text,[45,45])) (default:Bool)) fun y4=>
     some (LX.out (true,j2.2.1,j2.2.2.1,true,bif bif j2.2.2.2.2.1 then !(x.text==[])else false then bif bif x.flag then true else bif y3 then !y4 else false then true else x.text==[45]else false))
    else
     zT (X:=Bool×Bool×Bool×Bool×Bool×Bool) (
       bif x.kind==5 then
        some (LX.out (j2.1,j2.2.1,j2.2.2.1,j2.2.2.2.1,j2.2.2.2.2.1,x.kind==5))
       else
        some (LX.out (j2.1,j2.2.1,j2.2.2.1,j2.2.2.2.1,j2.2.2.2.2.1,x.kind==7))) fun j5=>
     bif j5.2.2.2.2.2 then
      some (LX.out (true,j5.2.1,j5.2.2.1,j5.2.2.2.1,j5.2.2.2.2.1))
     else
      bif x.kind==9 then
       ze (zY (bif j5.2.2.2.2.1 then(x.text.length:Int)==1 else false) (geti x.text 0) 0) fun y6=>
       ze (zY (bif j5.2.2.2.2.1 then(x.text.length:Int)==1 else false) (Rl (y6.toNat:Int)) (default:Bool)) fun y7=>
       ze (zY (bif bif bif j5.2.2.2.2.1 then(x.text.length:Int)==1 else false then !y7 else false then true else x.text==[45]) (strings_Contains ([32,9,10,12,13,34,39,58,59,44,91,93,40,41,123,125],x.text)) (default:Bool)) fun y8=>
       some (LX.out (true,j5.2.1,j5.2.2.1,j5.2.2.2.1,bif bif bif bif j5.2.2.2.2.1 then(x.text.length:Int)==1 else false then !y7 else false then true else x.text==[45]then !y8 else false))
      else
       zT (X:=Bool×Bool×Bool×Bool×Bool) (
         bif x.kind==10 then
          some (LX.out (j5.2.1,j5.2.2.1,j5.2.2.2.1,j5.2.2.2.2.1,x.kind==10))
         else
          bif x.kind==11 then
           some (LX.out (j5.2.1,j5.2.2.1,j5.2.2.2.1,j5.2.2.2.2.1,x.kind==11))
          else
           some (LX.out (j5.2.1,j5.2.2.1,j5.2.2.2.1,j5.2.2.2.2.1,x.kind==12))) fun j9=>
       bif j9.2.2.2.2 then
        some (LX.out (j5.1,x.kind==12,true,x.kind != 11,bif bif bif bif j9.2.2.2.1 then decide (x.num>=(-1000000000000))else false then decide (x.num<=1000000000000)else false then bif !x.flag then true else Int.tmod x.num 1000==0 else false then bif !(x.kind==12)then true else !(x.unit==[])else false))
       else
        some (LX.out (j5.1,j9.1,j9.2.1,j9.2.2.1,bif decide (x.kind>=13)then decide (x.kind<=24)else false))) fun j10=>
 some (bif bif bif bif j10.2.2.2.2 then bif j10.1 then true else x.text==[]else false then bif j10.2.1 then true else x.unit==[]else false then bif j10.2.2.1 then true else x.num==0 else false then bif j10.2.2.2.1 then true else !x.flag else false)
def qF(x:(Int×Int)×List zf):Option Bool:=
 ze (zY (decide (x.1.1<(x.2.length:Int))) (geti x.2 x.1.1) (default:zf)) fun y1=>
 some (bif decide (x.1.1<(x.2.length:Int))then y1.kind==x.1.2 else false)
def Wj(x:List zf):Option Int:=
 ze (geti x 0) fun y1=>
 bif bif y1.kind==9 then y1.text==[92]else false then
  ze (qF ((1,13),x)) fun y2=>
  bif !y2 then
   some 0
  else
   some 2
 else
  ze (zY (y1.kind==2) (QO (y1.text,[117,114,108])) (default:Bool)) fun y3=>
  bif bif y1.kind==2 then y3 else false then
   zT (X:=Int) (
     ze (qF ((1,13),x)) fun y4=>
     bif y4 then
      some (LX.out 2)
     else
      some (LX.out 1)) fun j5=>
   ze (qF ((j5,5),x)) fun y6=>
   bif !y6 then
    some 0
   else
    some (w64 (j5+1))
  else
   some 1
def Tp(x:List zf):Option Int:=
 bif decide ((x.length:Int)>1500)then
  some 4
 else
  qX (fun(s1:Int)=>
    bif decide (s1<(x.length:Int))then
     ze (geti x s1) fun y2=>
     ze (Nt y2) fun y3=>
     need (decide (0<=s1)&&decide (s1<=(x.length:Int))|| !(!(!y3)))<|
     ze (zY (!(!y3)) (Wj (List.drop s1.toNat x)) (default:Int)) fun y4=>
     bif bif !y3 then true else y4==0 then
      some (LO.ret 8)
     else
      some (LO.again (w64 (s1+1)))
    else
     some (LO.out ()):Int->Option (LO (Int) (Unit) _)) 0 fun o5=>
  some 0
def ZY(x:Str):Option Int:=
 ze (strings_HasPrefix (x,[45])) fun y1=>
 bif y1 then
  some 2
 else
  some 1
def Zl(x:Int×List UInt8):Option (List UInt8):=
 ze (zY (bif decide (x.1>32)then decide (x.1<127)else false) (qR x.1) (default:Bool)) fun y1=>
 ze (zY (bif bif decide (x.1>32)then decide (x.1<127)else false then !y1 else false) (Jp x.1) (default:Bool)) fun y2=>
 bif bif bif bif decide (x.1>32)then decide (x.1<127)else false then !y1 else false then !y2 else false then
  ze (ZZ x.1) fun y3=>
  need (zC x.2.length 2 1)<|
  some (x.2++[(92:UInt8),y3])
 else
  need (zC x.2.length 1 1)<|
  ze (Bt ((wu64 x.1,16),x.2++[(92:UInt8)])) fun y4=>
  need (zC y4.length 1 1)<|
  some (y4++[(32:UInt8)])
def qf(x:(Str×Int)×List UInt8):Option (List UInt8):=
 qX (fun(s1:Int×List UInt8)=>
   bif decide (s1.1<(x.1.1.length:Int))then
    zT (X:=Int×List UInt8) (
      ze (geti x.1.1 s1.1) fun y2=>
      ze (Rl (y2.toNat:Int)) fun y3=>
      ze (zY (!(decide (s1.1>=x.1.2))&&y3) (qR (y2.toNat:Int)) (default:Bool)) fun y4=>
      bif bif bif y3 then bif decide (s1.1>=x.1.2)then true else !y4 else false then bif x.1.2==0 then true else !(x.1.1==[45])else false then
       ze (ZZ (y2.toNat:Int)) fun y5=>
       need (zC s1.2.length 1 1)<|
       some (LX.out (s1.1,s1.2++[y5]))
      else
       ze (Zl ((y2.toNat:Int),s1.2)) fun y6=>
       some (LX.out (s1.1,y6))) fun j7=>
    some (LO.again (w64 (j7.1+1),j7.2))
   else
    some (LO.out s1.2):Int×List UInt8->Option (LO (Int×List UInt8) (List UInt8) _)) (0,x.2) fun o8=>
 some o8
def Bu(x:Unit):Option qQ:=
 some (⟨[32],[60,33,45,45],[45,45,62],[58],[59],[44],[91],[93],[40],[41],[123],[125]⟩:qQ)
def Z5(x:(Int×Bool)×List UInt8):Option (List UInt8):=
 zT (X:=Int×List UInt8) (
   bif decide (x.1.1<0)then
    need (zC x.2.length 1 1)<|
    some (LX.out (w64 (0 - x.1.1),x.2++[(45:UInt8)]))
   else
    some (LX.out (x.1.1,x.2))) fun j1=>
 ze (Dt ((w64 (Int.tdiv j1.1 1000),10),j1.2)) fun y2=>
 ze (uq (w64 (1000+Int.tmod j1.1 1000),10)) fun y3=>
 need (decide (1<=(y3.length:Int)))<|
 ze (Tk (List.drop 1 y3,[48])) fun y4=>
 zT (X:=List UInt8) (
   bif !(y4==[])then
    need (zC y2.length 1 1)<|
    need (zC (y2++[(46:UInt8)]).length y4.length 1)<|
    some (LX.out (y2++[(46:UInt8)]++y4))
   else
    bif x.1.2 then
     need (zC y2.length ([46,48]:Str).length 1)<|
     some (LX.out (y2++([46,48]:Str)))
    else
     some (LX.out y2)) fun j5=>
 some j5
def Gp(x:zf×List UInt8):Option (List UInt8):=
 bif x.1.kind==1 then
  ze (ZY x.1.text) fun y1=>
  ze (qf ((x.1.text,y1),x.2)) fun y2=>
  some y2
 else
  bif x.1.kind==2 then
   ze (ZY x.1.text) fun y3=>
   ze (qf ((x.1.text,y3),x.2)) fun y4=>
   need (zC y4.length 1 1)<|
   some (y4++[(40:UInt8)])
  else
   bif x.1.kind==3 then
    need (zC x.2.length 1 1)<|
    ze (ZY x.1.text) fun y5=>
    ze (qf ((x.1.text,y5),x.2++[(64:UInt8)])) fun y6=>
    some y6
   else
    bif x.1.kind==4 then
     zT (X:=Int×List UInt8) (
       bif x.1.flag then
        ze (ZY x.1.text) fun y7=>
        some (LX.out (y7,x.2))
       else
        some (LX.out (0,x.2))) fun j8=>
     need (zC j8.2.length 1 1)<|
     ze (qf ((x.1.text,j8.1),j8.2++[(35:UInt8)])) fun y9=>
     some y9
    else
     bif x.1.kind==5 then
      need (zC x.2.length 1 1)<|
      need (decide (x.1.text.length<=maxLen))<|
      qX (fun(s10:Int×List UInt8)=>
        bif decide (s10.1<(x.1.text.length:Int))then
         zT (X:=Int×List UInt8) (
           need (decide (0<=s10.1)&&decide (s10.1<(x.1.text.length:Int)))<|
           ze x.1.text[s10.1.toNat]? fun y11=>
           ze (strings_IndexByte ([10,12,13,34,92],(y11.toNat:Int))) fun y12=>
           bif decide (y12>=0)then
            ze (Zl ((y11.toNat:Int),s10.2)) fun y13=>
            some (LX.out (s10.1,y13))
           else
            ze (ZZ (y11.toNat:Int)) fun y14=>
            need (zC s10.2.length 1 1)<|
            some (LX.out (s10.1,s10.2++[y14]))) fun j15=>
         some (LO.again (w64 (j15.1+1),j15.2))
        else
         some (LO.out s10.2):Int×List UInt8->Option (LO (Int×List UInt8) (List UInt8) _)) (0,x.2++[(34:UInt8)]) fun o16=>
      need (zC o16.length 1 1)<|
      some (o16++[(34:UInt8)])
     else
      bif x.1.kind==7 then
       need (zC x.2.length ([117,114,108,40]:Str).length 1)<|
       need (decide (x.1.text.length<=maxLen))<|
       qX (fun(s17:Int×List UInt8)=>
         bif decide (s17.1<(x.1.text.length:Int))then
          zT (X:=Int×List UInt8) (
            need (decide (0<=s17.1)&&decide (s17.1<(x.1.text.length:Int)))<|
            ze x.1.text[s17.1.toNat]? fun y18=>
            ze (zY (!(decide ((y18.toNat:Int)<=32))) (strings_IndexByte ([34,39,40,41,92,127],(y18.toNat:Int))) (default:Int)) fun y19=>
            bif bif decide ((y18.toNat:Int)<=32)then true else decide (y19>=0)then
             ze (Zl ((y18.toNat:Int),s17.2)) fun y20=>
             some (LX.out (s17.1,y20))
            else
             ze (ZZ (y18.toNat:Int)) fun y21=>
             need (zC s17.2.length 1 1)<|
             some (LX.out (s17.1,s17.2++[y21]))) fun j22=>
          some (LO.again (w64 (j22.1+1),j22.2))
         else
          some (LO.out s17.2):Int×List UInt8->Option (LO (Int×List UInt8) (List UInt8) _)) (0,x.2++([117,114,108,40]:Str)) fun o23=>
       need (zC o23.length 1 1)<|
       some (o23++[(41:UInt8)])
      else
       bif x.1.kind==9 then
        need (zC x.2.length x.1.text.length 1)<|
        some (x.2++x.1.text)
       else
        bif x.1.kind==10 then
         ze (Z5 ((x.1.num, !x.1.flag),x.2)) fun y24=>
         some y24
        else
         bif x.1.kind==11 then
          ze (Z5 ((x.1.num,false),x.2)) fun y25=>
          need (zC y25.length 1 1)<|
          some (y25++[(37:UInt8)])
         else
          bif x.1.kind==12 then
           ze (Z5 ((x.1.num, !x.1.flag),x.2)) fun y26=>
           ze (geti x.1.unit 0) fun y27=>
           need (decide (1<=(x.1.unit.length:Int))|| !(ibOr IntKind.u8 (y27.toNat:Int) 32==101))<|
           ze (zY (ibOr IntKind.u8 (y27.toNat:Int) 32==101) (QV (List.drop 1 x.1.unit)) (default:Bool)) fun y28=>
           need (decide (1<=(x.1.unit.length:Int))|| !(bif ibOr IntKind.u8 (y27.toNat:Int) 32==101 then y28 else false))<|
           ze (zY (bif ibOr IntKind.u8 (y27.toNat:Int) 32==101 then y28 else false) (strings_HasPrefix (List.drop 1 x.1.unit,[45,45])) (default:Bool)) fun y29=>
           bif bif bif ibOr IntKind.u8 (y27.toNat:Int) 32==101 then y28 else false then !y29 else false then
            ze (geti x.1.unit 0) fun y30=>
            ze (Zl ((y30.toNat:Int),y26)) fun y31=>
            need (decide (1<=(x.1.unit.length:Int)))<|
            ze (qf ((List.drop 1 x.1.unit,0),y31)) fun y32=>
            some y32
           else
            ze (ZY x.1.unit) fun y33=>
            ze (qf ((x.1.unit,y33),y26)) fun y34=>
            some y34
          else
           ze (Bu ()) fun y35=>
           ze (geti [y35.e0,y35.e1,y35.e2,y35.e3,y35.e4,y35.e5,y35.e6,y35.e7,y35.e8,y35.e9,y35.e10,y35.e11] (wu8 (x.1.kind - 13))) fun y36=>
           need (zC x.2.length y36.length 1)<|
           some (x.2++y36)
def Z9(x:List zf×List zf):Option Bool:=
 bif (x.1.length:Int) != (x.2.length:Int)then
  some false
 else
  qX (fun(s1:Int)=>
    bif decide (s1<(x.1.length:Int))then
     ze (geti x.1 s1) fun y2=>
     ze (geti x.2 s1) fun y3=>
     bif !(y2.kind==y3.kind&&(y2.text==y3.text&&(y2.num==y3.num&&(y2.unit==y3.unit&&(y2.flag==y3.flag&&true)))))then
      some (LO.ret false)
     else
      some (LO.again (w64 (s1+1)))
    else
     some (LO.out ()):Int->Option (LO (Int) (Unit) _)) 0 fun o4=>
  some true
def Rp(x:List zf):Option (Str×Int):=
 ze (Tp x) fun y1=>
 bif y1 != 0 then
  some ([],y1)
 else
  qX (fun(s2:Int×List UInt8×List zu)=>
    bif decide (s2.1<(x.length:Int))then
     need (decide (0<=s2.1)&&decide (s2.1<=(x.length:Int)))<|
     ze (Wj (List.drop s2.1.toNat x)) fun y3=>
     need (decide (0<=s2.1)&&(decide (s2.1<=w64 (s2.1+y3))&&decide (w64 (s2.1+y3)<=(x.length:Int))))<|
     qX (fun(s4:Int×List UInt8)=>
       bif decide (s4.1<((List.drop s2.1.toNat (List.take (w64 (s2.1+y3)).toNat x)).length:Int))then
        ze (geti (List.drop s2.1.toNat (List.take (w64 (s2.1+y3)).toNat x)) s4.1) fun y5=>
        ze (Gp (y5,s4.2)) fun y6=>
        some (LO.again (w64 (s4.1+1),y6))
       else
        some (LO.out s4.2):Int×List UInt8->Option (LO (Int×List UInt8) (List UInt8) _)) (0,[]) fun o7=>
     zT (X:=Int×List UInt8×List zu×List UInt8) (
       ze (geti x s2.1) fun y8=>
       bif bif y8.kind==9 then y3==2 else false then
        some (LX.out (s2.1,s2.2.1,s2.2.2,[(92:UInt8),(10:UInt8)]))
       else
        some (LX.out (s2.1,s2.2.1,s2.2.2,o7))) fun j9=>
     zT (X:=Int×List UInt8×List zu×zu) (
       bif decide (w64 ((j9.2.2.1.length:Int) - 4)>=0)then
        need (decide (0<=w64 ((j9.2.2.1.length:Int) - 4))&&decide (w64 ((j9.2.2.1.length:Int) - 4)<(j9.2.2.1.length:Int)))<|
        ze (j9.2.2.1[(w64 ((j9.2.2.1.length:Int) - 4)).toNat]?) fun y10=>
        some (LX.out (j9.1,j9.2.1,j9.2.2.1,y10))
       else
        some (LX.out (j9.1,j9.2.1,j9.2.2.1,(⟨0,0⟩:zu)))) fun j11=>
     need (decide (0<=j11.2.2.2.at_)&&decide (j11.2.2.2.at_<=(j11.2.1.length:Int)))<|
     need (decide (j11.2.2.2.at_.toNat+(j11.2.1.length - j11.2.2.2.at_.toNat)<=j11.2.1.length))<|
     need (Bi (List.take (j11.2.1.length - j11.2.2.2.at_.toNat) (List.drop j11.2.2.2.at_.toNat j11.2.1)).length j9.2.2.2.length)<|
     ze (qa (List.take (j11.2.1.length - j11.2.2.2.at_.toNat) (List.drop j11.2.2.2.at_.toNat j11.2.1)++j9.2.2.2)) fun y12=>
     zT (X:=Int×List zu×List UInt8) (
       need (decide (0<=j11.2.2.2.token)&&(decide (j11.2.2.2.token<=w64 (j11.1+y3))&&decide (w64 (j11.1+y3)<=(x.length:Int)))|| !(!(y12.2 != 0)))<|
       ze (zY (!(y12.2 != 0)) (Z9 (y12.1,List.drop j11.2.2.2.token.toNat (List.take (w64 (j11.1+y3)).toNat x))) (default:Bool)) fun y13=>
       bif bif y12.2 != 0 then true else !y13 then
        need (zC j11.2.1.length ([47,42,42,47]:Str).length 1)<|
        some (LX.out (j11.1,j11.2.2.1,j11.2.1++([47,42,42,47]:Str)))
       else
        some (LX.out (j11.1,j11.2.2.1,j11.2.1))) fun j14=>
     need (zC j14.2.1.length 1 16)<|
     need (zC j14.2.2.length j9.2.2.2.length 1)<|
     bif decide (((j14.2.2++j9.2.2.2).length:Int)>4000)then
      some (LO.ret ([],28))
     else
      some (LO.again (w64 (j14.1+y3),j14.2.2++j9.2.2.2,j14.2.1++[(⟨j14.1,(j14.2.2.length:Int)⟩:zu)]))
    else
     some (LO.out s2.2.1):Int×List UInt8×List zu->Option (LO (Int×List UInt8×List zu) (List UInt8) _)) (0,[],[]) fun o15=>
  some (o15,0)
def Wi(x:List zg):Option (Str×Int):=
 ze (zH x) fun y1=>
 bif y1 != 0 then
  some ([],y1)
 else
  ze (qg x) fun y2=>
  ze (Rp y2) fun y3=>
  some (y3.1,y3.2)
def qV(x:List zg):Option (Int×Int):=
 ze (zH x) fun y1=>
 bif y1 != 0 then
  some (0,y1)
 else
  ze (Zr (x,0)) fun y2=>
  some (y2.depth,0)
def Qg(x:Str):Option (Str×Int×Bool):=
 ze (qa x) fun y1=>
 ze (parseF y1.1) fun y2=>
 ze (Wi y2.1) fun y3=>
 ze (qV y2.1) fun y4=>
 some (y3.1,y4.1,bif bif bif y1.2==0 then y2.2==0 else false then y3.2==0 else false then y4.2==0 else false)
def Yl(x:Unit):Option Bool:=
 ze (Qg [97,40,98,91,99,41,100]) fun y1=>
 ze (qa [97,40,98,91,99,41,100]) fun y2=>
 ze (parseF y2.1) fun y3=>
 ze (zY (bif bif bif bif bif y1.2.2 then y1.1==[97,40,98,91,99,41,100,93,41]else false then y1.2.1==2 else false then y2.2==0 else false then y3.2==0 else false then(y3.1.length:Int)==1 else false) (geti y3.1 0) (default:zg)) fun y4=>
 ze (zY (bif bif bif bif bif bif y1.2.2 then y1.1==[97,40,98,91,99,41,100,93,41]else false then y1.2.1==2 else false then y2.2==0 else false then y3.2==0 else false then(y3.1.length:Int)==1 else false then(y4.list.length:Int)==2 else false) (geti y3.1 0) (default:zg)) fun y5=>
 ze (zY (bif bif bif bif bif bif y1.2.2 then y1.1==[97,40,98,91,99,41,100,93,41]else false then y1.2.1==2 else false then y2.2==0 else false then y3.2==0 else false then(y3.1.length:Int)==1 else false then(y4.list.length:Int)==2 else false) (geti y5.list 1) (default:zg)) fun y6=>
 some (bif bif bif bif bif bif bif y1.2.2 then y1.1==[97,40,98,91,99,41,100,93,41]else false then y1.2.1==2 else false then y2.2==0 else false then y3.2==0 else false then(y3.1.length:Int)==1 else false then(y4.list.length:Int)==2 else false then(y6.list.length:Int)==3 else false)
def Z8(x:List zg):Option (List zg):=
 bif x.isEmpty then
  both (
    some []) (
    need (zC 0 x.length 80)<|
    some x)
 else
  need (zC 0 x.length 80)<|
  some x
def Eu(qz:List zg->Option (List zg))(x:List zg):Option (List zg):=
 ze (Z8 x) fun y1=>
 qX (fun(s2:Int×List zg)=>
   bif decide (s2.1<(y1.length:Int))then
    need (decide (0<=s2.1)&&decide (s2.1<(s2.2.length:Int)))<|
    ze s2.2[s2.1.toNat]? fun y3=>
    ze (qz y3.list) fun y4=>
    need (decide (0<=s2.1)&&decide (s2.1<(s2.2.length:Int)))<|
    ze s2.2[s2.1.toNat]? fun y5=>
    some (LO.again (w64 (s2.1+1),List.set s2.2 s2.1.toNat (⟨y5.token,y4⟩:zg)))
   else
    some (LO.out s2.2):Int×List zg->Option (LO (Int×List zg) (List zg) _)) (0,y1) fun o6=>
 some o6
def qz:List zg->Option (List zg):=recE (Eu)
def qW(x:List zg×Int):Option (List (List zg)×Int):=
 ze (zH x.1) fun y1=>
 bif y1 != 0 then
  some ([],y1)
 else
  bif bif decide (x.2<1)then true else decide (x.2>24)then
   some ([],2)
  else
   qX (fun(s2:(Int×Int)×List (List zg))=>
     bif decide (s2.1.2<(x.1.length:Int))then
      zT (X:=(Int×Int)×List (List zg)) (
        ze (geti x.1 s2.1.2) fun y3=>
        bif y3.token.kind==x.2 then
         need (decide (0<=s2.1.1)&&(decide (s2.1.1<=s2.1.2)&&(decide (s2.1.2<=s2.1.2)&&decide (s2.1.2<=(x.1.length:Int))))&&decide (s2.1.2=s2.1.2))<|
         ze (qz (List.drop s2.1.1.toNat (List.take s2.1.2.toNat x.1))) fun y4=>
         need (zC s2.2.length 1 24)<|
         some (LX.out ((w64 (s2.1.2+1),s2.1.2),s2.2++[y4]))
        else
         some (LX.out ((s2.1.1,s2.1.2),s2.2))) fun j5=>
      some (LO.again ((j5.1.1,w64 (j5.1.2+1)),j5.2))
     else
      some (LO.out (s2.1.1,s2.2)):(Int×Int)×List (List zg)->Option (LO ((Int×Int)×List (List zg)) (Int×List (List zg)) _)) ((0,0),[]) fun o6=>
   need (decide (0<=o6.1)&&decide (o6.1<=(x.1.length:Int)))<|
   ze (qz (List.drop o6.1.toNat x.1)) fun y7=>
   need (zC o6.2.length 1 24)<|
   some (o6.2++[y7],0)
def Xl(x:Int×List zg):Option Bool:=
 ze (geti x.2 x.1) fun y1=>
 some (y1.token.kind==13)
def Sl(x:List zg):Option (List zg×Int):=
 ze (zH x) fun y1=>
 bif y1 != 0 then
  some ([],y1)
 else
  qX (fun(s2:Int)=>
    ze (zY (decide (s2<(x.length:Int))) (Xl (s2,x)) (default:Bool)) fun y3=>
    bif bif decide (s2<(x.length:Int))then y3 else false then
     some (LO.again (w64 (s2+1)))
    else
     some (LO.out s2):Int->Option (LO (Int) (Int) _)) 0 fun o4=>
  qX (fun(s5:Int)=>
    ze (zY (decide (o4<s5)) (Xl (w64 (s5 - 1),x)) (default:Bool)) fun y6=>
    bif bif decide (o4<s5)then y6 else false then
     some (LO.again (w64 (s5 - 1)))
    else
     some (LO.out s5):Int->Option (LO (Int) (Int) _)) (x.length:Int) fun o7=>
  need (decide (0<=o4)&&(decide (o4<=o7)&&(decide (o7<=o7)&&decide (o7<=(x.length:Int))))&&decide (o7=o7))<|
  ze (qz (List.drop o4.toNat (List.take o7.toNat x))) fun y8=>
  some (y8,0)
def Ul(x:List zg):Option (List zf×Int):=
 ze (zH x) fun y1=>
 bif y1 != 0 then
  some ([],y1)
 else
  ze (qg x) fun y2=>
  some (y2,0)
def ZN(x:Int):Option (List zf):=
 need (decide (0<=x)&&decide (x<=x)&&decide (x*56<=140737488355328)&&decide (x<=9223372036854775807))<|
 qX (fun(s1:Int×List zf)=>
   bif decide (s1.1<x)then
    need (decide (0<=s1.1)&&decide (s1.1<(s1.2.length:Int)))<|
    ze s1.2[s1.1.toNat]? fun y2=>
    some (LO.again (w64 (s1.1+1),List.set s1.2 s1.1.toNat (⟨21,y2.text,y2.num,y2.unit,y2.flag⟩:zf)))
   else
    some (LO.out s1.2):Int×List zf->Option (LO (Int×List zf) (List zf) _)) (0,List.replicate (Int.toNat x) (⟨0,[],0,[],false⟩:zf)) fun o3=>
 some o3
def dz(x:Unit):Option Bool:=
 qX (fun(s1:Int×List zf)=>
   bif decide (s1.1<1501)then
    need (decide (0<=s1.1)&&decide (s1.1<(s1.2.length:Int)))<|
    ze s1.2[s1.1.toNat]? fun y2=>
    some (LO.again (w64 (s1.1+1),List.set s1.2 s1.1.toNat (⟨18,y2.text,y2.num,y2.unit,y2.flag⟩:zf)))
   else
    some (LO.out s1.2):Int×List zf->Option (LO (Int×List zf) (List zf) _)) (0,List.replicate (Int.toNat 1501) (⟨0,[],0,[],false⟩:zf)) fun o3=>
 ze (parseF o3) fun y4=>
 need (decide (1500<=(o3.length:Int)))<|
 ze (parseF (List.take 1500 o3)) fun y5=>
 ze (ZN 1) fun y6=>
 need (decide (1499<=(o3.length:Int)))<|
 need (zC y6.length (List.take 1499 o3).length 56)<|
 ze (parseFo (y6++List.take 1499 o3)) fun y7=>
 ze (ZN 17) fun y8=>
 need (decide (1484<=(o3.length:Int)))<|
 need (zC y8.length (List.take 1484 o3).length 56)<|
 ze (parseFo (y8++List.take 1484 o3)) fun y9=>
 ze (ZN 16) fun y10=>
 ze (parseFo y10) fun y11=>
 ze (ZN 17) fun y12=>
 ze (parseFo y12) fun y13=>
 ze (qV y11.1) fun y14=>
 ze (Qg [97,41,98,93,99,125,40,100,125,101,93]) fun y15=>
 ze (parseF []) fun y16=>
 ze (qW ([],18)) fun y17=>
 ze (zH [(⟨(⟨18,[],0,[],false⟩:zf),[(⟨(⟨18,[],0,[],false⟩:zf),[]⟩:zg)]⟩:zg)]) fun y18=>
 ze (zH [(⟨(⟨21,[],0,[],false⟩:zf),[(⟨(⟨22,[],0,[],false⟩:zf),[]⟩:zg)]⟩:zg)]) fun y19=>
 ze (zH [(⟨(⟨22,[],0,[],false⟩:zf),[]⟩:zg)]) fun y20=>
 ze (zH [(⟨(⟨21,[],0,[],false⟩:zf),y11.1⟩:zg),(⟨(⟨18,[],0,[],false⟩:zf),[(⟨(⟨18,[],0,[],false⟩:zf),[]⟩:zg)]⟩:zg)]) fun y21=>
 ze (qW ([(⟨(⟨18,[],0,[],false⟩:zf),[]⟩:zg)],0)) fun y22=>
 ze (qW ([(⟨(⟨18,[],0,[],false⟩:zf),[]⟩:zg)],25)) fun y23=>
 ze (Sl [(⟨(⟨18,[],0,[],false⟩:zf),[(⟨(⟨18,[],0,[],false⟩:zf),[]⟩:zg)]⟩:zg)]) fun y24=>
 ze (Ul [(⟨(⟨21,[],0,[],false⟩:zf),[(⟨(⟨22,[],0,[],false⟩:zf),[]⟩:zg)]⟩:zg)]) fun y25=>
 ze (Wi [(⟨(⟨8,[],0,[],false⟩:zf),[]⟩:zg)]) fun y26=>
 ze (zY (bif bif bif bif bif bif bif bif bif bif bif bif bif bif bif bif bif bif bif bif bif bif y4.2==4 then y5.2==0 else false then y7.2==4 else false then y9.2==4 else false then y11.2==0 else false then y13.2==20 else false then y14.2==0 else false then y14.1==16 else false then y15.2.2 else false then y15.1==[97,41,98,93,99,125,40,100,125,101,93,41]else false then y16.2==0 else false then(y16.1.length:Int)==0 else false then y17.2==0 else false then(y17.1.length:Int)==1 else false then y18==8 else false then y19==8 else false then y20==0 else false then y21==20 else false then y22.2==2 else false then y23.2==2 else false then y24.2==8 else false then y25.2==8 else false then y26.2==8 else false) (Yl ()) (default:Bool)) fun y27=>
 some (bif bif bif bif bif bif bif bif bif bif bif bif bif bif bif bif bif bif bif bif bif bif bif y4.2==4 then y5.2==0 else false then y7.2==4 else false then y9.2==4 else false then y11.2==0 else false then y13.2==20 else false then y14.2==0 else false then y14.1==16 else false then y15.2.2 else false then y15.1==[97,41,98,93,99,125,40,100,125,101,93,41]else false then y16.2==0 else false then(y16.1.length:Int)==0 else false then y17.2==0 else false then(y17.1.length:Int)==1 else false then y18==8 else false then y19==8 else false then y20==0 else false then y21==20 else false then y22.2==2 else false then y23.2==2 else false then y24.2==8 else false then y25.2==8 else false then y26.2==8 else false then y27 else false)
end Go.Lv.VT
end
