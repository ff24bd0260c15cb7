/- Texts. -/
import Derived.Test.YthejohdmenffiaaGreatDoorTy
import Derived.Test.YthejohdmenffiaaGreatDoorLf
noncomputable section
set_option linter.unusedSimpArgs false
set_option linter.unusedVariables false
namespace Go.Lv.VT
set_option maxRecDepth 100000
def Xo(_:List zq):Option (VAnb×Int):=none
def stringslite_HasPrefix(x:Str×Str):Option Bool:=
 need (decide (0<=(x.2.length:Int))&&decide ((x.2.length:Int)<=(x.1.length:Int))|| !(decide ((x.1.length:Int)>=(x.2.length:Int))))<|
 some (bif decide ((x.1.length:Int)>=(x.2.length:Int))then List.take x.2.length x.1==x.2 else false)
def strings_HasPrefix(x:Str×Str):Option Bool:=
 zb (stringslite_HasPrefix (x.1,x.2)) fun y1=>
 some y1
def ZQ(x:za):Option za:=
 Zu (fun(s1:za)=>
   need (decide (0<=s1.at_)&&decide (s1.at_<=(s1.s.length:Int)))<|
   zb (strings_HasPrefix (List.drop s1.at_.toNat s1.s,[47,42])) fun y2=>
   bif y2 then
    need (decide (0<=w64 (s1.at_+2))&&decide (w64 (s1.at_+2)<=(s1.s.length:Int)))<|
    zb (ae (List.drop (w64 (s1.at_+2)).toNat s1.s,[42,47])) fun y3=>
    bif decide (y3<0)then
     some (LO.ret (⟨s1.s,(s1.s.length:Int)⟩:za))
    else
     some (LO.again (⟨s1.s,w64 (s1.at_+w64 (y3+4))⟩:za))
   else
    some (LO.out s1):za->Option (LO (za) (za) _)) x fun o4=>
 some o4
def zk(x:Int×za):Option Int:=
 bif decide (w64 (x.2.at_+x.1)<(x.2.s.length:Int))then
  zb (geti x.2.s (w64 (x.2.at_+x.1))) fun y1=>
  some (w64 (y1.toNat:Int))
 else
  some (-1)
def ZO(x:Int):Option Bool:=
 some (bif bif x==32 then true else x==9 then true else x==10)
def Zo(x:za):Option za:=
 Zu (fun(s1:za)=>
   zb (zk (0,s1)) fun y2=>
   zb (ZO y2) fun y3=>
   bif y3 then
    some (LO.again (⟨s1.s,w64 (s1.at_+1)⟩:za))
   else
    some (LO.out s1):za->Option (LO (za) (za) _)) x fun o4=>
 some o4
def EA(x:Int):Option (List UInt8):=
 bif decide (wu32 x<=2047)then
  zb (Jc (ibOr IntKind.u8 192 (wu8 (Fe IntKind.i32 x 6)))) fun y1=>
  zb (Jc (ibOr IntKind.u8 128 (He IntKind.u8 (wu8 x) 63))) fun y2=>
  need (Zi 0 2 1)<|
  some [y1,y2]
 else
  zW (X:=Bool) (
    bif decide (wu32 x<55296)then
     some (LX.out (decide (wu32 x<55296)))
    else
     some (LX.out (bif decide (57343<wu32 x)then decide (wu32 x<=65535)else false))) fun j3=>
  bif j3 then
   zb (Jc (ibOr IntKind.u8 224 (wu8 (Fe IntKind.i32 x 12)))) fun y4=>
   zb (Jc (ibOr IntKind.u8 128 (He IntKind.u8 (wu8 (Fe IntKind.i32 x 6)) 63))) fun y5=>
   zb (Jc (ibOr IntKind.u8 128 (He IntKind.u8 (wu8 x) 63))) fun y6=>
   need (Zi 0 3 1)<|
   some [y4,y5,y6]
  else
   bif bif decide (wu32 x>65535)then decide (wu32 x<=1114111)else false then
    zb (Jc (ibOr IntKind.u8 240 (wu8 (Fe IntKind.i32 x 18)))) fun y7=>
    zb (Jc (ibOr IntKind.u8 128 (He IntKind.u8 (wu8 (Fe IntKind.i32 x 12)) 63))) fun y8=>
    zb (Jc (ibOr IntKind.u8 128 (He IntKind.u8 (wu8 (Fe IntKind.i32 x 6)) 63))) fun y9=>
    zb (Jc (ibOr IntKind.u8 128 (He IntKind.u8 (wu8 x) 63))) fun y10=>
    need (Zi 0 4 1)<|
    some [y7,y8,y9,y10]
   else
    need (Zi 0 3 1)<|
    some [(239:UInt8),(191:UInt8),(189:UInt8)]
def QD(x:Int):Option (List UInt8):=
 bif decide (wu32 x<=127)then
  zb (Jc (wu8 x)) fun y1=>
  need (Zi 0 1 1)<|
  some [y1]
 else
  zb (EA x) fun y2=>
  some y2
def QC(x:Int×Int×Int):Option Bool:=
 some (bif decide (x.2.1<=x.1)then decide (x.1<=x.2.2)else false)
def Z9(x:Int):Option Bool:=
 zb (QC (x,48,57)) fun y1=>
 some y1
def Xe(x:Int):Option Int:=
 zb (Z9 x) fun y1=>
 bif y1 then
  some (w64 (x - 48))
 else
  zb (zC (x != (-1)) (QC (ibOr IntKind.i64 x 32,97,102)) (default:Bool)) fun y2=>
  bif bif bif bif x != (-1)then y2 else false then decide (x>64)else false then decide (x<128)else false then
   some (w64 (w64 (ibOr IntKind.i64 x 32 - 97)+10))
  else
   some (-1)
def qA(x:za):Option (za×List UInt8):=
 zb (zk (0,(⟨x.s,w64 (x.at_+1)⟩:za))) fun y1=>
 bif y1==(-1)then
  zb (QD 65533) fun y2=>
  some ((⟨x.s,w64 (x.at_+1)⟩:za),y2)
 else
  zb (Xe y1) fun y3=>
  bif decide (y3<0)then
   zb (Jc (wu8 y1)) fun y4=>
   need (Zi 0 1 1)<|
   some ((⟨x.s,w64 (w64 (x.at_+1)+1)⟩:za),[y4])
  else
   Zu (fun(s5:(Int×Int)×za)=>
     bif decide (s5.1.2<6)then
      zb (zk (0,s5.2)) fun y6=>
      zb (Xe y6) fun y7=>
      bif decide (y7<0)then
       some (LO.out (s5.1.1,s5.2))
      else
       some (LO.again ((ibOr IntKind.i64 (Nn IntKind.i64 s5.1.1 4) y7,w64 (s5.1.2+1)),(⟨s5.2.s,w64 (s5.2.at_+1)⟩:za)))
     else
      some (LO.out (s5.1.1,s5.2)):(Int×Int)×za->Option (LO ((Int×Int)×za) (Int×za) _)) ((0,0),(⟨x.s,w64 (x.at_+1)⟩:za)) fun o8=>
   zW (X:=Int×za) (
     zb (zk (0,o8.2)) fun y9=>
     zb (ZO y9) fun y10=>
     bif y10 then
      some (LX.out (o8.1,(⟨o8.2.s,w64 (o8.2.at_+1)⟩:za)))
     else
      some (LX.out (o8.1,o8.2))) fun j11=>
   zW (X:=Int) (
     bif j11.1==0 then
      some (LX.out 65533)
     else
      some (LX.out j11.1)) fun j12=>
   zb (QD (w32 j12)) fun y13=>
   some (j11.2,y13)
def BA(x:Int×List UInt8):Option (List UInt8):=
 bif decide (wu32 x.1<=2047)then
  zb (Jc (ibOr IntKind.u8 192 (wu8 (Fe IntKind.i32 x.1 6)))) fun y1=>
  zb (Jc (ibOr IntKind.u8 128 (He IntKind.u8 (wu8 x.1) 63))) fun y2=>
  need (Zi x.2.length 2 1)<|
  some (x.2++[y1,y2])
 else
  zW (X:=Bool×List UInt8) (
    bif decide (wu32 x.1<55296)then
     some (LX.out (decide (wu32 x.1<55296),x.2))
    else
     some (LX.out (bif decide (57343<wu32 x.1)then decide (wu32 x.1<=65535)else false,x.2))) fun j3=>
  bif j3.1 then
   zb (Jc (ibOr IntKind.u8 224 (wu8 (Fe IntKind.i32 x.1 12)))) fun y4=>
   zb (Jc (ibOr IntKind.u8 128 (He IntKind.u8 (wu8 (Fe IntKind.i32 x.1 6)) 63))) fun y5=>
   zb (Jc (ibOr IntKind.u8 128 (He IntKind.u8 (wu8 x.1) 63))) fun y6=>
   need (Zi j3.2.length 3 1)<|
   some (j3.2++[y4,y5,y6])
  else
   bif bif decide (wu32 x.1>65535)then decide (wu32 x.1<=1114111)else false then
    zb (Jc (ibOr IntKind.u8 240 (wu8 (Fe IntKind.i32 x.1 18)))) fun y7=>
    zb (Jc (ibOr IntKind.u8 128 (He IntKind.u8 (wu8 (Fe IntKind.i32 x.1 12)) 63))) fun y8=>
    zb (Jc (ibOr IntKind.u8 128 (He IntKind.u8 (wu8 (Fe IntKind.i32 x.1 6)) 63))) fun y9=>
    zb (Jc (ibOr IntKind.u8 128 (He IntKind.u8 (wu8 x.1) 63))) fun y10=>
    need (Zi j3.2.length 4 1)<|
    some (j3.2++[y7,y8,y9,y10])
   else
    need (Zi j3.2.length 3 1)<|
    some (j3.2++[(239:UInt8),(191:UInt8),(189:UInt8)])
def QE(x:Int×List UInt8):Option (List UInt8):=
 bif decide (wu32 x.1<=127)then
  zb (Jc (wu8 x.1)) fun y1=>
  need (Zi x.2.length 1 1)<|
  some (x.2++[y1])
 else
  zb (BA (x.1,x.2)) fun y2=>
  some y2
def Zh(x:za×List UInt8):Option (za×List UInt8):=
 zb (zk (0,(⟨x.1.s,w64 (x.1.at_+1)⟩:za))) fun y1=>
 bif y1==(-1)then
  zb (QE (65533,x.2)) fun y2=>
  some ((⟨x.1.s,w64 (x.1.at_+1)⟩:za),y2)
 else
  zb (Xe y1) fun y3=>
  bif decide (y3<0)then
   zb (Jc (wu8 y1)) fun y4=>
   need (Zi x.2.length 1 1)<|
   some ((⟨x.1.s,w64 (w64 (x.1.at_+1)+1)⟩:za),x.2++[y4])
  else
   Zu (fun(s5:(Int×Int)×za)=>
     bif decide (s5.1.2<6)then
      zb (zk (0,s5.2)) fun y6=>
      zb (Xe y6) fun y7=>
      bif decide (y7<0)then
       some (LO.out (s5.1.1,s5.2))
      else
       some (LO.again ((ibOr IntKind.i64 (Nn IntKind.i64 s5.1.1 4) y7,w64 (s5.1.2+1)),(⟨s5.2.s,w64 (s5.2.at_+1)⟩:za)))
     else
      some (LO.out (s5.1.1,s5.2)):(Int×Int)×za->Option (LO ((Int×Int)×za) (Int×za) _)) ((0,0),(⟨x.1.s,w64 (x.1.at_+1)⟩:za)) fun o8=>
   zW (X:=Int×za×List UInt8) (
     zb (zk (0,o8.2)) fun y9=>
     zb (ZO y9) fun y10=>
     bif y10 then
      some (LX.out (o8.1,(⟨o8.2.s,w64 (o8.2.at_+1)⟩:za),x.2))
     else
      some (LX.out (o8.1,o8.2,x.2))) fun j11=>
   zW (X:=Int×List UInt8) (
     bif j11.1==0 then
      some (LX.out (65533,j11.2.2))
     else
      some (LX.out (j11.1,j11.2.2))) fun j12=>
   zb (QE (w32 j12.1,j12.2)) fun y13=>
   some (j11.2.1,y13)
def Qu(x:za):Option (zq×za):=
 zb (zk (0,x)) fun y1=>
 Zu (fun(s2:za×zq×List UInt8)=>
   zb (zk (0,s2.1)) fun y3=>
   bif y3==(-1)then
    some (LO.out (s2.1,s2.2.1,s2.2.2))
   else
    bif y3==y1 then
     some (LO.out ((⟨s2.1.s,w64 (s2.1.at_+1)⟩:za),s2.2.1,s2.2.2))
    else
     bif y3==10 then
      some (LO.ret ((⟨6,[],0,[],false⟩:zq),s2.1))
     else
      zb (zC (y3==92) (zk (1,s2.1)) (default:Int)) fun y4=>
      zb (zC (!(y4==(-1))&&y3==92) (zk (1,s2.1)) (default:Int)) fun y5=>
      bif bif y3==92 then bif y4==(-1)then true else y5==10 else false then
       some (LO.again ((⟨s2.1.s,if(s2.1.s.length:Int)<w64 (s2.1.at_+2)then(s2.1.s.length:Int)else w64 (s2.1.at_+2)⟩:za),s2.2.1,s2.2.2))
      else
       bif y3==92 then
        zb (Zh (s2.1,s2.2.2)) fun y6=>
        some (LO.again (y6.1,s2.2.1,y6.2))
       else
        zb (Jc (wu8 y3)) fun y7=>
        need (Zi s2.2.2.length 1 1)<|
        some (LO.again ((⟨s2.1.s,w64 (s2.1.at_+1)⟩:za),s2.2.1,s2.2.2++[y7])):za×zq×List UInt8->Option (LO (za×zq×List UInt8) (za×zq×List UInt8) _)) ((⟨x.s,w64 (x.at_+1)⟩:za),(⟨0,[],0,[],false⟩:zq),[]) fun o8=>
 some ((⟨5,o8.2.2,0,[],false⟩:zq),o8.1)
def Yi(x:Int):Option Bool:=
 zb (QC (ibOr IntKind.i64 x 32,97,122)) fun y1=>
 some (bif bif bif bif y1 then decide (x<128)else false then decide (x>64)else false then true else x==95 then true else decide (x>=128))
def Gh(x:Int):Option Bool:=
 zb (Yi x) fun y1=>
 zb (zC (!y1) (Z9 x) (default:Bool)) fun y2=>
 some (bif bif y1 then true else y2 then true else x==45)
def zS(x:Int×za):Option Bool:=
 zb (zk (x.1,x.2)) fun y1=>
 zb (zC (y1==92) (zk (w64 (x.1+1),x.2)) (default:Int)) fun y2=>
 some (bif y1==92 then y2 != 10 else false)
def Zm(x:Int×za):Option Bool:=
 zb (zk (x.1,x.2)) fun y1=>
 bif y1 != 45 then
  zb (zk (x.1,x.2)) fun y2=>
  zb (Yi y2) fun y3=>
  zb (zC (!y3) (zS (x.1,x.2)) (default:Bool)) fun y4=>
  some (bif y3 then true else y4)
 else
  zb (zk (w64 (x.1+1),x.2)) fun y5=>
  zb (Yi y5) fun y6=>
  zb (zC (!y6) (zk (w64 (x.1+1),x.2)) (default:Int)) fun y7=>
  zb (zC (!(bif y6 then true else y7==45)) (zS (w64 (x.1+1),x.2)) (default:Bool)) fun y8=>
  some (bif bif y6 then true else y7==45 then true else y8)
def Zq(x:za):Option (Str×za):=
 Zu (fun(s1:za×List UInt8)=>
   zb (zk (0,s1.1)) fun y2=>
   zb (Gh y2) fun y3=>
   bif y3 then
    zb (Jc (wu8 y2)) fun y4=>
    need (Zi s1.2.length 1 1)<|
    some (LO.again ((⟨s1.1.s,w64 (s1.1.at_+1)⟩:za),s1.2++[y4]))
   else
    zb (zC (y2 != (-1)) (zS (0,s1.1)) (default:Bool)) fun y5=>
    bif bif y2 != (-1)then y5 else false then
     zb (Zh (s1.1,s1.2)) fun y6=>
     some (LO.again (y6.1,y6.2))
    else
     some (LO.ret (s1.2,s1.1)):za×List UInt8->Option (LO (za×List UInt8) (Unit) _)) (x,[]) fun o7=>
 none
def Jr(x:za):Option Bool:=
 zW (X:=Int) (
   zb (zk (0,x)) fun y1=>
   bif bif y1==43 then true else y1==45 then
    some (LX.out 1)
   else
    some (LX.out 0)) fun j2=>
 zW (X:=Int) (
   zb (zk (j2,x)) fun y3=>
   bif y3==46 then
    some (LX.out (w64 (j2+1)))
   else
    some (LX.out j2)) fun j4=>
 zb (zk (j4,x)) fun y5=>
 zb (Z9 y5) fun y6=>
 some y6
def ZG(x:za):Option za:=
 Zu (fun(s1:za)=>
   zb (zk (0,s1)) fun y2=>
   zb (Z9 y2) fun y3=>
   bif y3 then
    some (LO.again (⟨s1.s,w64 (s1.at_+1)⟩:za))
   else
    some (LO.out s1):za->Option (LO (za) (za) _)) x fun o4=>
 some o4
def Qf(x:za):Option (Bool×za):=
 zW (X:=za) (
   zb (zk (0,x)) fun y1=>
   bif bif y1==43 then true else y1==45 then
    some (LX.out (⟨x.s,w64 (x.at_+1)⟩:za))
   else
    some (LX.out x)) fun j2=>
 zb (ZG j2) fun y3=>
 zW (X:=Bool×za) (
   zb (zk (0,y3)) fun y4=>
   zb (zC (y4==46) (zk (1,y3)) (default:Int)) fun y5=>
   zb (zC (y4==46) (Z9 y5) (default:Bool)) fun y6=>
   bif bif y4==46 then y6 else false then
    zb (ZG (⟨y3.s,w64 (y3.at_+1)⟩:za)) fun y7=>
    some (LX.out (false,y7))
   else
    some (LX.out (true,y3))) fun j8=>
 zW (X:=Bool×za) (
   zb (zk (0,j8.2)) fun y9=>
   zb (zC (!(y9==101)) (zk (0,j8.2)) (default:Int)) fun y10=>
   bif bif y9==101 then true else y10==69 then
    zW (X:=(Bool×Int)×za) (
      zb (zk (1,j8.2)) fun y11=>
      bif bif y11==43 then true else y11==45 then
       some (LX.out ((j8.1,2),j8.2))
      else
       some (LX.out ((j8.1,1),j8.2))) fun j12=>
    zb (zk (j12.1.2,j12.2)) fun y13=>
    zb (Z9 y13) fun y14=>
    bif y14 then
     zb (ZG (⟨j12.2.s,w64 (j12.2.at_+j12.1.2)⟩:za)) fun y15=>
     some (LX.out (false,y15))
    else
     some (LX.out (j12.1.1,j12.2))
   else
    some (LX.out (j8.1,j8.2))) fun j16=>
 some (j16.1,j16.2)
def um(x:Str):Option Int:=
 zb (geti x 0) fun y1=>
 zb (Sg (x,[43,45])) fun y2=>
 zW (X:=Str×Int) (
   zb (Jk (y2,[101,69])) fun y3=>
   bif decide (y3>=0)then
    need (decide (0<=w64 (y3+1))&&decide (w64 (y3+1)<=(y2.length:Int)))<|
    zb (Sg (List.drop (w64 (y3+1)).toNat y2,[43,45])) fun y4=>
    need (decide (y4.length<=maxLen))<|
    Zu (fun(s5:Int×Int)=>
      bif decide (s5.2<(y4.length:Int))then
       need (decide (0<=s5.2)&&decide (s5.2<(y4.length:Int)))<|
       zb y4[s5.2.toNat]? fun y6=>
       some (LO.again (if 1048576<w64 (w64 (10*s5.1)+w64 (wu8 ((y6.toNat:Int) - 48)))then 1048576 else w64 (w64 (10*s5.1)+w64 (wu8 ((y6.toNat:Int) - 48))),w64 (s5.2+1)))
      else
       some (LO.out s5.1):Int×Int->Option (LO (Int×Int) (Int) _)) (0,0) fun o7=>
    zW (X:=Str×Int×Int) (
      zb (geti y2 (w64 (y3+1))) fun y8=>
      bif (y8.toNat:Int)==45 then
       some (LX.out (y2,3,w64 (0 - o7)))
      else
       some (LX.out (y2,3,o7))) fun j9=>
    need (decide (0<=y3)&&decide (y3<=(j9.1.length:Int)))<|
    some (LX.out (List.take y3.toNat j9.1,w64 (j9.2.1+j9.2.2)))
   else
    some (LX.out (y2,3))) fun j10=>
 zb (cutF (j10.1,[46])) fun y11=>
 need (Bd y11.1.length y11.2.1.length)<|
 zW (X:=Str×Int) (
   bif decide (w64 (j10.2 - (y11.2.1.length:Int))<0)then
    need (decide (0<=(if w64 (((y11.1++y11.2.1).length:Int)+w64 (j10.2 - (y11.2.1.length:Int)))>0 then w64 (((y11.1++y11.2.1).length:Int)+w64 (j10.2 - (y11.2.1.length:Int)))else 0))&&decide ((if w64 (((y11.1++y11.2.1).length:Int)+w64 (j10.2 - (y11.2.1.length:Int)))>0 then w64 (((y11.1++y11.2.1).length:Int)+w64 (j10.2 - (y11.2.1.length:Int)))else 0)<=((y11.1++y11.2.1).length:Int)))<|
    some (LX.out (List.take (if w64 (((y11.1++y11.2.1).length:Int)+w64 (j10.2 - (y11.2.1.length:Int)))>0 then w64 (((y11.1++y11.2.1).length:Int)+w64 (j10.2 - (y11.2.1.length:Int)))else 0).toNat (y11.1++y11.2.1),w64 (j10.2 - (y11.2.1.length:Int))))
   else
    some (LX.out (y11.1++y11.2.1,w64 (j10.2 - (y11.2.1.length:Int))))) fun j12=>
 need (decide (j12.1.length<=maxLen))<|
 Zu (fun(s13:Int×Int)=>
   bif decide (s13.2<(j12.1.length:Int))then
    need (decide (0<=s13.2)&&decide (s13.2<(j12.1.length:Int)))<|
    zb j12.1[s13.2.toNat]? fun y14=>
    some (LO.again (if 1000000000000<w64 (w64 (10*s13.1)+w64 (wu8 ((y14.toNat:Int) - 48)))then 1000000000000 else w64 (w64 (10*s13.1)+w64 (wu8 ((y14.toNat:Int) - 48))),w64 (s13.2+1)))
   else
    some (LO.out s13.1):Int×Int->Option (LO (Int×Int) (Int) _)) (0,0) fun o15=>
 Zu (fun(s16:Int×Int)=>
   bif bif bif decide (s16.1>0)then decide (s16.2>0)else false then decide (s16.2<1000000000000)else false then
    some (LO.again (w64 (s16.1 - 1),if 1000000000000<w64 (10*s16.2)then 1000000000000 else w64 (10*s16.2)))
   else
    some (LO.out s16.2):Int×Int->Option (LO (Int×Int) (Int) _)) (j12.2,o15) fun o17=>
 zW (X:=Int) (
   bif (y1.toNat:Int)==45 then
    some (LX.out (w64 (0 - o17)))
   else
    some (LX.out o17)) fun j18=>
 some j18
def Qg(x:za):Option (zq×za):=
 zb (Qf x) fun y1=>
 need (decide (0<=x.at_)&&(decide (x.at_<=y1.2.at_)&&decide (y1.2.at_<=(y1.2.s.length:Int))))<|
 zb (um (List.drop x.at_.toNat (List.take y1.2.at_.toNat y1.2.s))) fun y2=>
 zW (X:=za×zq×zq) (
   zb (Zm (0,y1.2)) fun y3=>
   bif y3 then
    zb (Zq y1.2) fun y4=>
    some (LX.out (y4.2,(⟨0,[],0,[],false⟩:zq),(⟨12,[],y2,y4.1,y1.1⟩:zq)))
   else
    zb (zk (0,y1.2)) fun y5=>
    bif y5==37 then
     some (LX.out ((⟨y1.2.s,w64 (y1.2.at_+1)⟩:za),(⟨0,[],0,[],false⟩:zq),(⟨11,[],y2,[],false⟩:zq)))
    else
     some (LX.out (y1.2,(⟨0,[],0,[],false⟩:zq),(⟨10,[],y2,[],y1.1⟩:zq)))) fun j6=>
 some (j6.2.2,j6.1)
def Za(x:Str):Option Str:=
 need (decide (x.length<=maxLen))<|
 Zu (fun(s1:Int×List UInt8)=>
   bif decide (s1.1<(x.length:Int))then
    zW (X:=Int×List UInt8) (
      need (decide (0<=s1.1)&&decide (s1.1<(s1.2.length:Int)))<|
      zb s1.2[s1.1.toNat]? fun y2=>
      bif bif decide (65<=(y2.toNat:Int))then decide ((y2.toNat:Int)<=90)else false then
       need (decide (0<=s1.1)&&decide (s1.1<(s1.2.length:Int)))<|
       zb s1.2[s1.1.toNat]? fun y3=>
       need (decide (0<=s1.1)&&decide (s1.1<(s1.2.length:Int)))<|
       zb s1.2[s1.1.toNat]? fun y4=>
       zb (Jc (ibOr IntKind.u8 (y3.toNat:Int) 32)) fun y5=>
       some (LX.out (s1.1,List.set s1.2 s1.1.toNat y5))
      else
       some (LX.out (s1.1,s1.2))) fun j6=>
    some (LO.again (w64 (j6.1+1),j6.2))
   else
    some (LO.out s1.2):Int×List UInt8->Option (LO (Int×List UInt8) (List UInt8) _)) (0,x) fun o7=>
 some o7
def Zy(x:Str×Str):Option Bool:=
 zb (Za x.1) fun y1=>
 zb (Za x.2) fun y2=>
 some (y1==y2)
def qR(x:za):Option (zq×za):=
 Zu (fun(s1:za×zq)=>
   zb (zk (0,s1.1)) fun y2=>
   bif y2==(-1)then
    some (LO.ret ((⟨8,[],0,[],false⟩:zq),s1.1))
   else
    zb (zS (0,s1.1)) fun y3=>
    bif y3 then
     zb (qA s1.1) fun y4=>
     some (LO.again (y4.1,s1.2))
    else
     zb (geti s1.1.s (w64 (w64 (s1.1.at_+1) - 1))) fun y5=>
     bif (y5.toNat:Int)==41 then
      some (LO.ret ((⟨8,[],0,[],false⟩:zq),(⟨s1.1.s,w64 (s1.1.at_+1)⟩:za)))
     else
      some (LO.again ((⟨s1.1.s,w64 (s1.1.at_+1)⟩:za),s1.2)):za×zq->Option (LO (za×zq) (Unit) _)) (x,(⟨0,[],0,[],false⟩:zq)) fun o6=>
 none
def wm(x:za):Option (zq×za):=
 zb (Zo x) fun y1=>
 Zu (fun(s2:za×zq×List UInt8)=>
   zb (zk (0,s2.1)) fun y3=>
   zW (X:=Int×za×zq×List UInt8) (
     zb (ZO y3) fun y4=>
     bif y4 then
      zb (Zo s2.1) fun y5=>
      zb (zk (0,y5)) fun y6=>
      bif bif y6 != 41 then y6 != (-1)else false then
       zb (qR y5) fun y7=>
       some (LX.ret (LO.ret (y7.1,y7.2)))
      else
       some (LX.out (y6,y5,s2.2.1,s2.2.2))
     else
      some (LX.out (y3,s2.1,s2.2.1,s2.2.2))) fun j8=>
   bif j8.1==(-1)then
    some (LO.ret ((⟨7,j8.2.2.2,0,[],false⟩:zq),j8.2.1))
   else
    bif j8.1==41 then
     some (LO.ret ((⟨7,j8.2.2.2,0,[],false⟩:zq),(⟨j8.2.1.s,w64 (j8.2.1.at_+1)⟩:za)))
    else
     zb (zC (!(bif bif bif bif j8.1==34 then true else j8.1==39 then true else j8.1==40 then true else decide (j8.1<=8)then true else j8.1==11)) (QC (j8.1,14,31)) (default:Bool)) fun y9=>
     bif bif bif bif bif bif bif j8.1==34 then true else j8.1==39 then true else j8.1==40 then true else decide (j8.1<=8)then true else j8.1==11 then true else y9 then true else j8.1==127 then
      zb (qR j8.2.1) fun y10=>
      some (LO.ret (y10.1,y10.2))
     else
      bif j8.1 != 92 then
       zb (Jc (wu8 j8.1)) fun y11=>
       need (Zi j8.2.2.2.length 1 1)<|
       some (LO.again ((⟨j8.2.1.s,w64 (j8.2.1.at_+1)⟩:za),j8.2.2.1,j8.2.2.2++[y11]))
      else
       zb (zS (0,j8.2.1)) fun y12=>
       bif y12 then
        zb (Zh (j8.2.1,j8.2.2.2)) fun y13=>
        some (LO.again (y13.1,j8.2.2.1,y13.2))
       else
        zb (qR j8.2.1) fun y14=>
        some (LO.ret (y14.1,y14.2)):za×zq×List UInt8->Option (LO (za×zq×List UInt8) (Unit) _)) (y1,(⟨0,[],0,[],false⟩:zq),[]) fun o15=>
 none
def QQ(x:za):Option (zq×za):=
 zb (Zq x) fun y1=>
 zb (zk (0,y1.2)) fun y2=>
 bif y2 != 40 then
  some ((⟨1,y1.1,0,[],false⟩:zq),y1.2)
 else
  zW (X:=za×zq) (
    zb (Zy (y1.1,[117,114,108])) fun y3=>
    bif y3 then
     zb (Zo (⟨y1.2.s,w64 (y1.2.at_+1)⟩:za)) fun y4=>
     zb (zk (0,y4)) fun y5=>
     bif bif y5 != 34 then y5 != 39 else false then
      zb (wm (⟨y1.2.s,w64 (y1.2.at_+1)⟩:za)) fun y6=>
      some (LX.ret (y6.1,y6.2))
     else
      some (LX.out ((⟨y1.2.s,w64 (y1.2.at_+1)⟩:za),(⟨0,[],0,[],false⟩:zq)))
    else
     some (LX.out ((⟨y1.2.s,w64 (y1.2.at_+1)⟩:za),(⟨0,[],0,[],false⟩:zq)))) fun j7=>
  some ((⟨2,y1.1,0,[],false⟩:zq),j7.1)
def strings_IndexByte(x:Str×Int):Option Int:=
 zb (Wj (x.1,x.2)) fun y1=>
 some y1
def jm(x:za):Option (zq×za):=
 zb (zk (0,x)) fun y1=>
 need (decide (0<=x.at_)&&decide (x.at_<=(x.s.length:Int)))<|
 zb (ZO y1) fun y2=>
 bif y2 then
  zb (Zo x) fun y3=>
  some ((⟨13,[],0,[],false⟩:zq),y3)
 else
  bif bif y1==34 then true else y1==39 then
   zb (Qu x) fun y4=>
   some (y4.1,y4.2)
  else
   zb (zC (y1==35) (zk (1,x)) (default:Int)) fun y5=>
   zb (zC (y1==35) (Gh y5) (default:Bool)) fun y6=>
   zb (zC (!y6&&y1==35) (zS (1,x)) (default:Bool)) fun y7=>
   bif bif y1==35 then bif y6 then true else y7 else false then
    zb (Zm (1,x)) fun y8=>
    zb (Zq (⟨x.s,w64 (x.at_+1)⟩:za)) fun y9=>
    some ((⟨4,y9.1,0,[],y8⟩:zq),y9.2)
   else
    zb (Jr x) fun y10=>
    bif y10 then
     zb (Qg x) fun y11=>
     some (y11.1,y11.2)
    else
     zb (strings_HasPrefix (List.drop x.at_.toNat x.s,[45,45,62])) fun y12=>
     bif y12 then
      some ((⟨15,[],0,[],false⟩:zq),(⟨x.s,w64 (x.at_+3)⟩:za))
     else
      zb (strings_HasPrefix (List.drop x.at_.toNat x.s,[60,33,45,45])) fun y13=>
      bif y13 then
       some ((⟨14,[],0,[],false⟩:zq),(⟨x.s,w64 (x.at_+4)⟩:za))
      else
       zb (zC (y1==64) (Zm (1,x)) (default:Bool)) fun y14=>
       bif bif y1==64 then y14 else false then
        zb (Zq (⟨x.s,w64 (x.at_+1)⟩:za)) fun y15=>
        some ((⟨3,y15.1,0,[],false⟩:zq),y15.2)
       else
        zb (Zm (0,x)) fun y16=>
        bif y16 then
         zb (QQ x) fun y17=>
         some (y17.1,y17.2)
        else
         zb (strings_IndexByte ([58,59,44,91,93,40,41,123,125],wu8 y1)) fun y18=>
         bif decide (y18>=0)then
          some ((⟨wu8 (16+wu8 y18),[],0,[],false⟩:zq),(⟨x.s,w64 (x.at_+1)⟩:za))
         else
          need (decide (1<=((List.drop x.at_.toNat x.s).length:Int)))<|
          some ((⟨9,List.take 1 (List.drop x.at_.toNat x.s),0,[],false⟩:zq),(⟨x.s,w64 (x.at_+1)⟩:za))
def tq(x:(zq×Int×Int)×List zq):Option (List zq):=
 need (Zi x.2.length 1 56)<|
 some (x.2++[x.1.1])
def Kl(x:Str):Option (Int×List zq):=
 zb (xh x) fun y1=>
 bif y1.2 != 0 then
  some (y1.2,[])
 else
  zb (ZQ (⟨y1.1,0⟩:za)) fun y2=>
  Zu (fun(s3:Int×List zq×za)=>
    bif decide (s3.2.2.at_<(y1.1.length:Int))then
     bif decide (w64 (s3.1+1)>1500)then
      some (LO.ret (4,s3.2.1))
     else
      zb (jm s3.2.2) fun y4=>
      zb (tq ((y4.1,s3.2.2.at_,y4.2.at_),s3.2.1)) fun y5=>
      zb (ZQ y4.2) fun y6=>
      some (LO.again (w64 (s3.1+1),y5,y6))
    else
     some (LO.out (s3.2.1,s3.2.2)):Int×List zq×za->Option (LO (Int×List zq×za) (List zq×za) _)) (0,[],y2) fun o7=>
  some (0,o7.1)
def af(x:Str):Option (List zq×Int):=
 zb (Kl x) fun y1=>
 bif y1.1 != 0 then
  some ([],y1.1)
 else
  some (y1.2,0)
def Ri(x:List ze):Option Int:=
 bif (x.length:Int)==0 then
  some 0
 else
  zb (geti x 0) fun y1=>
  some y1.token.kind
def lm(x:Int×List UInt8):Option Int:=
 Zu (fun(s1:Int)=>
   bif decide (s1<(x.2.length:Int))then
    need (decide (0<=s1)&&decide (s1<(x.2.length:Int)))<|
    zb x.2[s1.toNat]? fun y2=>
    bif x.1==(y2.toNat:Int)then
     some (LO.ret s1)
    else
     some (LO.again (w64 (s1+1)))
   else
    some (LO.out ()):Int->Option (LO (Int) (Unit) _)) 0 fun o3=>
 some (-1)
def Qc(x:Int×List UInt8):Option Bool:=
 zb (lm (x.1,x.2)) fun y1=>
 some (decide (y1>=0))
def Ul(x:ze×List UInt8):Option Bool:=
 zb (Qc (x.1.token.kind,x.2)) fun y1=>
 some y1
def qJ(x:List ze×List UInt8):Option Int:=
 Zu (fun(s1:Int)=>
   bif decide (s1<(x.1.length:Int))then
    zb (geti x.1 s1) fun y2=>
    zb (Ul ((⟨y2.token,y2.list⟩:ze),x.2)) fun y3=>
    bif y3 then
     some (LO.ret s1)
    else
     some (LO.again (w64 (s1+1)))
   else
    some (LO.out ()):Int->Option (LO (Int) (Unit) _)) 0 fun o4=>
 some (-1)
def El(x:List ze×List UInt8):Option (List ze×List ze):=
 zb (qJ (x.1,x.2)) fun y1=>
 bif decide (y1<0)then
  some (x.1,[])
 else
  need (decide (0<=y1)&&decide (y1<=(x.1.length:Int)))<|
  need (decide (0<=y1)&&decide (y1<=(x.1.length:Int)))<|
  some (List.take y1.toNat x.1,List.drop y1.toNat x.1)
def Af(x:Int):Option Int:=
 bif x==2 then
  some 22
 else
  zW (X:=Bool) (
    bif x==19 then
     some (LX.out (x==19))
    else
     bif x==21 then
      some (LX.out (x==21))
     else
      some (LX.out (x==23))) fun j1=>
  bif j1 then
   some (wu8 (x+1))
  else
   some 0
def ik(qX:List ze×Int->Option zP)(x:List ze×Int):Option zP:=
 Zu (fun(s1:Int×zP)=>
   bif decide (s1.1<(x.1.length:Int))then
    zW (X:=Int×zP) (
      zb (geti x.1 s1.1) fun y2=>
      zb (Af y2.token.kind) fun y3=>
      zW (X:=zP) (
        bif bif bif x.2 != 0 then y2.token.kind==x.2 else false then true else bif y3==0 then decide ((y2.list.length:Int)>0)else false then
         some (LX.out (⟨s1.2.depth,w64 (s1.2.tokens+1),true⟩:zP))
        else
         some (LX.out (⟨s1.2.depth,w64 (s1.2.tokens+1),s1.2.bad⟩:zP))) fun j4=>
      bif y3==0 then
       some (LX.out (s1.1,j4))
      else
       zb (qX (y2.list,y3)) fun y5=>
       some (LX.out (s1.1,(⟨if w64 (y5.depth+1)>j4.depth then w64 (y5.depth+1)else j4.depth,w64 (w64 (j4.tokens+y5.tokens)+1),bif j4.bad then true else y5.bad⟩:zP)))) fun j6=>
    some (LO.again (w64 (j6.1+1),j6.2))
   else
    some (LO.out s1.2):Int×zP->Option (LO (Int×zP) (zP) _)) (0,(⟨0,0,false⟩:zP)) fun o7=>
 some o7
def qX:List ze×Int->Option zP:=recE (ik)
def qc(x:List ze):Option Int:=
 zb (qX (x,0)) fun y1=>
 bif decide (y1.depth>16)then
  some 20
 else
  bif decide (y1.tokens>1500)then
   some 4
  else
   bif y1.bad then
    some 8
   else
    some 0
def zH(x:Int×zh):Option zq:=
 bif decide (w64 (x.2.at_+x.1)<(x.2.v.length:Int))then
  zb (geti x.2.v (w64 (x.2.at_+x.1))) fun y1=>
  some y1.token
 else
  some (⟨0,[],0,[],false⟩:zq)
def zX(x:zh):Option (Bool×zh):=
 Zu (fun(s1:zh)=>
   zb (zH (0,s1)) fun y2=>
   bif y2.kind==13 then
    some (LO.again (⟨s1.v,w64 (s1.at_+1)⟩:zh))
   else
    some (LO.out s1):zh->Option (LO (zh) (zh) _)) x fun o3=>
 some (decide (o3.at_>x.at_),o3)
def Zf(x:Str×zh):Option (Bool×zh):=
 zb (zH (0,x.2)) fun y1=>
 bif bif y1.kind != 9 then true else !(y1.text==x.1)then
  some (false,x.2)
 else
  some (true,(⟨x.2.v,w64 (x.2.at_+1)⟩:zh))
def qN(x:zh):Option (Int×zh):=
 Zu (fun(s1:Int×zh)=>
   bif decide (s1.1<3)then
    need (decide (0<=s1.1)&&(decide (s1.1<=w64 (s1.1+1))&&decide (w64 (s1.1+1)<=3)))<|
    zb (Zf (List.drop s1.1.toNat (List.take (w64 (s1.1+1)).toNat ([62,43,126]:Str)),s1.2)) fun y2=>
    bif y2.1 then
     zb (zX y2.2) fun y3=>
     some (LO.ret (wu8 (2+wu8 s1.1),y3.2))
    else
     some (LO.again (w64 (s1.1+1),y2.2))
   else
    some (LO.out s1.2):Int×zh->Option (LO (Int×zh) (zh) _)) (0,x) fun o4=>
 some (0,o4)
def qO(x:Int×zh):Option (List ze):=
 zb (geti x.2.v (w64 (x.2.at_+x.1))) fun y1=>
 some y1.list
def Zj(x:zh):Option Bool:=
 some (x.at_==(x.v.length:Int))
def jl(x:List ze):Option (zA×Bool):=
 zb (zX (⟨x,0⟩:zh)) fun y1=>
 zb (zH (0,y1.2)) fun y2=>
 zb (Za y2.text) fun y3=>
 zb (zH (0,y1.2)) fun y4=>
 bif y4.kind != 1 then
  some ((⟨3,y3,0,[],false,(⟨0,0⟩:VAnb),false,[]⟩:zA),false)
 else
  zb (zX (⟨y1.2.v,w64 (y1.2.at_+1)⟩:zh)) fun y5=>
  zb (Zj y5.2) fun y6=>
  bif y6 then
   some ((⟨3,y3,0,[],false,(⟨0,0⟩:VAnb),false,[]⟩:zA),true)
  else
   zW (X:=(Int×Str×Int×Str×Bool×Int×Int×Bool)×zh×(Int×Str×Int×Str×Bool×Int×Int×Bool)) (
     zb (Zf ([61],y5.2)) fun y7=>
     bif y7.1 then
      some (LX.out ((0,[],0,[],false,0,0,false),y7.2,(3,y3,1,[],false,0,0,false)))
     else
      zb (zH (0,y7.2)) fun y8=>
      zb (ae ([126,124,94,36,42],y8.text)) fun y9=>
      bif bif y8.kind != 9 then true else decide (y9<0)then
       some (LX.ret ((⟨3,y3,0,[],false,(⟨0,0⟩:VAnb),false,[]⟩:zA),false))
      else
       zb (Zf ([61],(⟨y7.2.v,w64 (y7.2.at_+1)⟩:zh))) fun y10=>
       bif !y10.1 then
        some (LX.ret ((⟨3,y3,0,[],false,(⟨0,0⟩:VAnb),false,[]⟩:zA),false))
       else
        some (LX.out ((0,[],0,[],false,0,0,false),y10.2,(3,y3,wu8 (2+wu8 y9),[],false,0,0,false)))) fun j11=>
   zb (zX j11.2.1) fun y12=>
   zb (zH (0,y12.2)) fun y13=>
   bif bif y13.kind != 1 then y13.kind != 5 else false then
    some ((⟨j11.2.2.1,j11.2.2.2.1,j11.2.2.2.2.1,j11.2.2.2.2.2.1,j11.2.2.2.2.2.2.1,(⟨j11.2.2.2.2.2.2.2.1,j11.2.2.2.2.2.2.2.2.1⟩:VAnb),j11.2.2.2.2.2.2.2.2.2,[]⟩:zA),false)
   else
    zb (zX (⟨y12.2.v,w64 (y12.2.at_+1)⟩:zh)) fun y14=>
    zb (zH (0,y14.2)) fun y15=>
    bif y15.kind==1 then
     zb (zX (⟨y14.2.v,w64 (y14.2.at_+1)⟩:zh)) fun y16=>
     zb (Zy (y15.text,[105])) fun y17=>
     zb (Zj y16.2) fun y18=>
     zb (zC (!y17&&y18) (Zy (y15.text,[115])) (default:Bool)) fun y19=>
     some ((⟨j11.2.2.1,j11.2.2.2.1,j11.2.2.2.2.1,y13.text,y17,(⟨j11.2.2.2.2.2.2.2.1,j11.2.2.2.2.2.2.2.2.1⟩:VAnb),j11.2.2.2.2.2.2.2.2.2,[]⟩:zA),bif y18 then bif y17 then true else y19 else false)
    else
     zb (Zj y14.2) fun y20=>
     some ((⟨j11.2.2.1,j11.2.2.2.1,j11.2.2.2.2.1,y13.text,j11.2.2.2.2.2.2.1,(⟨j11.2.2.2.2.2.2.2.1,j11.2.2.2.2.2.2.2.2.1⟩:VAnb),j11.2.2.2.2.2.2.2.2.2,[]⟩:zA),y20)
def Mh(x:Unit):Option (List Str):=
 some [[108,105,110,107],[118,105,115,105,116,101,100],[97,110,121,45,108,105,110,107],[114,111,111,116],[101,109,112,116,121],[110,116,104,45,99,104,105,108,100],[110,116,104,45,108,97,115,116,45,99,104,105,108,100],[105,115],[119,104,101,114,101],[110,111,116],[104,97,115]]
def slices_Index_string(x:List Str×Str):Option Int:=
 Zu (fun(s1:Int)=>
   bif decide (s1<(x.1.length:Int))then
    zb (geti x.1 s1) fun y2=>
    bif x.2==y2 then
     some (LO.ret s1)
    else
     some (LO.again (w64 (s1+1)))
   else
    some (LO.out ()):Int->Option (LO (Int) (Unit) _)) 0 fun o3=>
 some (-1)
def il(x:Str):Option (zA×Bool):=
 zb (Za x) fun y1=>
 bif y1==[102,105,114,115,116,45,99,104,105,108,100]then
  some ((⟨9,[],0,[],false,(⟨0,1⟩:VAnb),false,[]⟩:zA),true)
 else
  bif y1==[108,97,115,116,45,99,104,105,108,100]then
   some ((⟨10,[],0,[],false,(⟨0,1⟩:VAnb),false,[]⟩:zA),true)
  else
   zb (Mh ()) fun y2=>
   zb (Za x) fun y3=>
   zb (slices_Index_string (y2,y3)) fun y4=>
   some ((⟨wu8 (4+wu8 (if 0>y4 then 0 else y4)),[],0,[],false,(⟨0,0⟩:VAnb),false,[]⟩:zA),bif decide (y4>=0)then decide (y4<5)else false)
def Pm(x:ze):Option Bool:=
 zb (zC (x.token.kind==1) (Zy (x.token.text,[111,102])) (default:Bool)) fun y1=>
 some (bif x.token.kind==1 then y1 else false)
def qh(x:List ze):Option Int:=
 Zu (fun(s1:Int)=>
   bif decide (s1<(x.length:Int))then
    zb (geti x s1) fun y2=>
    zb (Pm (⟨y2.token,y2.list⟩:ze)) fun y3=>
    bif y3 then
     some (LO.ret s1)
    else
     some (LO.again (w64 (s1+1)))
   else
    some (LO.out ()):Int->Option (LO (Int) (Unit) _)) 0 fun o4=>
 some (-1)
def ZH(x:zf×Int):Option (zf×Bool):=
 bif bif x.1.deep==3 then true else bif x.1.has then x.2==14 else false then
  some ((⟨0,false⟩:zf),false)
 else
  some ((⟨w64 (x.1.deep+1),bif x.1.has then true else x.2==14⟩:zf),true)
def Hm(Z7:List ze×List zq->Option (List zq))(x:List ze×List zq):Option (List zq):=
 Zu (fun(s1:Int×List zq)=>
   bif decide (s1.1<(x.1.length:Int))then
    zW (X:=Int×List zq) (
      zb (geti x.1 s1.1) fun y2=>
      need (Zi s1.2.length 1 56)<|
      zb (Af y2.token.kind) fun y3=>
      bif y3 != 0 then
       zb (Z7 (y2.list,s1.2++[y2.token])) fun y4=>
       need (Zi y4.length 1 56)<|
       some (LX.out (s1.1,y4++[(⟨y3,[],0,[],false⟩:zq)]))
      else
       some (LX.out (s1.1,s1.2++[y2.token]))) fun j5=>
    some (LO.again (w64 (j5.1+1),j5.2))
   else
    some (LO.out s1.2):Int×List zq->Option (LO (Int×List zq) (List zq) _)) (0,x.2) fun o6=>
 some o6
def Z7:List ze×List zq->Option (List zq):=recE (Hm)
def jk(x:List ze):Option (List zq):=
 Zu (fun(s1:Int×List zq)=>
   bif decide (s1.1<(x.length:Int))then
    zW (X:=Int×List zq) (
      zb (geti x s1.1) fun y2=>
      need (Zi s1.2.length 1 56)<|
      zb (Af y2.token.kind) fun y3=>
      bif y3 != 0 then
       zb (Z7 (y2.list,s1.2++[y2.token])) fun y4=>
       need (Zi y4.length 1 56)<|
       some (LX.out (s1.1,y4++[(⟨y3,[],0,[],false⟩:zq)]))
      else
       some (LX.out (s1.1,s1.2++[y2.token]))) fun j5=>
    some (LO.again (w64 (j5.1+1),j5.2))
   else
    some (LO.out s1.2):Int×List zq->Option (LO (Int×List zq) (List zq) _)) (0,[]) fun o6=>
 some o6
def lg(x:List ze):Option (List zq×Int):=
 zb (qc x) fun y1=>
 bif y1 != 0 then
  some ([],y1)
 else
  zb (jk x) fun y2=>
  some (y2,0)
def mi(x:Str×Int):Option Bool:=
 zb (zC (!(decide ((x.1.length:Int)>x.2))) (strings_IndexByte (x.1,0)) (default:Int)) fun y1=>
 some (bif decide ((x.1.length:Int)>x.2)then true else decide (y1>=0))
def Nh(x:Str):Option Bool:=
 zb (zC (!(x==[])) (mi (x,64)) (default:Bool)) fun y1=>
 some (bif !(x==[])then !y1 else false)
def Lh(x:Str):Option Bool:=
 zb (Nh x) fun y1=>
 zb (zC y1 (Za x) (default:Str)) fun y2=>
 some (bif y1 then y2==x else false)
def lq(x:zA):Option (Bool×Bool):=
 zW (X:=Bool) (
   bif x.kind==9 then
    some (LX.out (x.kind==9))
   else
    some (LX.out (x.kind==10))) fun j1=>
 bif j1 then
  some (x.of_,false)
 else
  zW (X:=Bool) (
    bif x.kind==11 then
     some (LX.out (x.kind==11))
    else
     some (LX.out (x.kind==12))) fun j2=>
  bif j2 then
   some (true,true)
  else
   zW (X:=Bool) (
     bif x.kind==13 then
      some (LX.out (x.kind==13))
     else
      some (LX.out (x.kind==14))) fun j3=>
   bif j3 then
    some (true,false)
   else
    some (false,true)
def Hq(x:Int):Option Bool:=
 some (bif decide ((-1000000000)<=x)then decide (x<=1000000000)else false)
def Bq(x:VAnb):Option Int:=
 zb (Hq x.a) fun y1=>
 zb (zC (!(!y1)) (Hq x.b) (default:Bool)) fun y2=>
 bif bif !y1 then true else !y2 then
  some 8
 else
  some 0
def Um(zg:zy×zf->Option Bool)(x:zy×zf):Option Bool:=
 zb (zg ((⟨x.1.tag,x.1.simples⟩:zy),x.2)) fun y1=>
 some (!y1)
def ZW(zg:zy×zf->Option Bool)(x:List zy×zf):Option Int:=
 Zu (fun(s1:Int)=>
   bif decide (s1<(x.1.length:Int))then
    zb (geti x.1 s1) fun y2=>
    zb (Um zg ((⟨y2.tag,y2.simples⟩:zy),x.2)) fun y3=>
    bif y3 then
     some (LO.ret s1)
    else
     some (LO.again (w64 (s1+1)))
   else
    some (LO.out ()):Int->Option (LO (Int) (Unit) _)) 0 fun o4=>
 some (-1)
def Zz(zg:zy×zf->Option Bool)(x:List zy×zf):Option Bool:=
 zb (ZW zg (x.1,x.2)) fun y1=>
 some (decide (y1>=0))
def Kh(zg:zy×zf->Option Bool)(x:zw×zf×Bool):Option Bool:=
 bif bif bif bif !(x.2.2==(x.1.lead != 0))then true else decide (x.1.lead>4)then true else w64 ((x.1.combs.length:Int)+1) != (x.1.parts.length:Int)then true else decide ((x.1.parts.length:Int)>64)then
  some false
 else
  Zu (fun(s1:Int)=>
    bif decide (s1<(x.1.combs.length:Int))then
     zb (geti x.1.combs s1) fun y2=>
     bif bif decide ((y2.toNat:Int)<1)then true else decide ((y2.toNat:Int)>4)then
      some (LO.ret false)
     else
      some (LO.again (w64 (s1+1)))
    else
     some (LO.out ()):Int->Option (LO (Int) (Unit) _)) 0 fun o3=>
  zb (Zz zg (x.1.parts,x.2.1)) fun y4=>
  some (!y4)
def Tm(zg:zy×zf->Option Bool)(x:zw×zf×zA):Option Bool:=
 zb (Kh zg ((⟨x.1.lead,x.1.parts,x.1.combs⟩:zw),x.2.1,x.2.2.kind==14)) fun y1=>
 some (!y1)
def qg(zg:zy×zf->Option Bool)(x:List zw×zf×zA):Option Int:=
 Zu (fun(s1:Int)=>
   bif decide (s1<(x.1.length:Int))then
    zb (geti x.1 s1) fun y2=>
    zb (Tm zg ((⟨y2.lead,y2.parts,y2.combs⟩:zw),x.2.1,(⟨x.2.2.kind,x.2.2.name,x.2.2.op,x.2.2.value,x.2.2.fold,x.2.2.anb,x.2.2.of_,x.2.2.list⟩:zA))) fun y3=>
    bif y3 then
     some (LO.ret s1)
    else
     some (LO.again (w64 (s1+1)))
   else
    some (LO.out ()):Int->Option (LO (Int) (Unit) _)) 0 fun o4=>
 some (-1)
def ZE(zg:zy×zf->Option Bool)(x:List zw×zf×zA):Option Bool:=
 zb (qg zg (x.1,x.2.1,(⟨x.2.2.kind,x.2.2.name,x.2.2.op,x.2.2.value,x.2.2.fold,x.2.2.anb,x.2.2.of_,x.2.2.list⟩:zA))) fun y1=>
 some (decide (y1>=0))
def ul(zg:zy×zf->Option Bool)(x:zA×zf):Option Bool:=
 zb (lq (⟨x.1.kind,x.1.name,x.1.op,x.1.value,x.1.fold,x.1.anb,x.1.of_,x.1.list⟩:zA)) fun y1=>
 zW (X:=Unit) (
   bif y1.1 then
    zb (ZH (x.2,x.1.kind)) fun y2=>
    zb (zC (!(bif !y2.2 then true else bif !y1.2 then(x.1.list.length:Int)==0 else false)) (ZE zg (x.1.list,y2.1,(⟨x.1.kind,x.1.name,x.1.op,x.1.value,x.1.fold,x.1.anb,x.1.of_,x.1.list⟩:zA))) (default:Bool)) fun y3=>
    bif bif bif !y2.2 then true else bif !y1.2 then(x.1.list.length:Int)==0 else false then true else y3 then
     some (LX.ret false)
    else
     some (LX.out ())
   else
    bif decide ((x.1.list.length:Int)>0)then
     some (LX.ret false)
    else
     some (LX.out ())) fun j4=>
 bif bif bif !(x.1.kind==3)then bif bif x.1.op != 0 then true else !(x.1.value==[])then true else x.1.fold else false then true else bif !(bif x.1.kind==9 then true else x.1.kind==10)then bif x.1.of_ then true else !(x.1.anb.a==0&&(x.1.anb.b==0&&true))else false then
  some false
 else
  zW (X:=Bool) (
    bif x.1.kind==1 then
     some (LX.out (x.1.kind==1))
    else
     some (LX.out (x.1.kind==2))) fun j5=>
  bif j5 then
   zb (Nh x.1.name) fun y6=>
   some y6
  else
   bif x.1.kind==3 then
    zb (Lh x.1.name) fun y7=>
    zb (zC (bif y7 then decide (x.1.op<=6)else false) (mi (x.1.value,400)) (default:Bool)) fun y8=>
    some (bif bif bif y7 then decide (x.1.op<=6)else false then !y8 else false then bif x.1.op != 0 then true else bif x.1.value==[]then !x.1.fold else false else false)
   else
    zb (zC (!(!(bif x.1.kind==9 then true else x.1.kind==10))&&(bif bif x.1.name==[]then decide (x.1.kind>=4)else false then decide (x.1.kind<=14)else false)) (Bq x.1.anb) (default:Int)) fun y9=>
    some (bif bif bif x.1.name==[]then decide (x.1.kind>=4)else false then decide (x.1.kind<=14)else false then bif !(bif x.1.kind==9 then true else x.1.kind==10)then true else y9==0 else false)
def om(zg:zy×zf->Option Bool)(x:zy×zf):Option Bool:=
 zb (zC (bif !(x.1.tag==[])then !(x.1.tag==[42])else false) (Lh x.1.tag) (default:Bool)) fun y1=>
 bif bif bif bif !(x.1.tag==[])then !(x.1.tag==[42])else false then !y1 else false then true else decide ((x.1.simples.length:Int)>64)then
  some false
 else
  Zu (fun(s2:Int)=>
    bif decide (s2<(x.1.simples.length:Int))then
     zb (geti x.1.simples s2) fun y3=>
     zb (ul zg ((⟨y3.kind,y3.name,y3.op,y3.value,y3.fold,y3.anb,y3.of_,y3.list⟩:zA),x.2)) fun y4=>
     bif !y4 then
      some (LO.ret false)
     else
      some (LO.again (w64 (s2+1)))
    else
     some (LO.out ()):Int->Option (LO (Int) (Unit) _)) 0 fun o5=>
  some (bif !(x.1.tag==[])then true else decide ((x.1.simples.length:Int)>0))
def zg:zy×zf->Option Bool:=recE (om)
def Jl(zu:List ze×zf×Bool×Bool->Option (List zw×Bool))(x:zA×List ze×zf):Option (zA×Bool):=
 zb (qh x.2.1) fun y1=>
 zW (X:=List ze×zA×(Int×Str×Int×Str×Bool×Int×Int×Bool)) (
   bif decide (y1>=0)then
    zb (ZH (x.2.2,x.1.kind)) fun y2=>
    need (decide (0<=w64 (y1+1))&&decide (w64 (y1+1)<=(x.2.1.length:Int)))<|
    zb (zu (List.drop (w64 (y1+1)).toNat x.2.1,y2.1,false,false)) fun y3=>
    bif bif !y2.2 then true else !y3.2 then
     some (LX.ret ((⟨x.1.kind,x.1.name,x.1.op,x.1.value,x.1.fold,x.1.anb,x.1.of_,x.1.list⟩:zA),false))
    else
     need (decide (0<=y1)&&decide (y1<=(x.2.1.length:Int)))<|
     some (LX.out (List.take y1.toNat x.2.1,(⟨x.1.kind,x.1.name,x.1.op,x.1.value,x.1.fold,x.1.anb,true,y3.1⟩:zA),(0,[],0,[],false,0,0,false)))
   else
    some (LX.out (x.2.1,(⟨x.1.kind,x.1.name,x.1.op,x.1.value,x.1.fold,x.1.anb,x.1.of_,x.1.list⟩:zA),(0,[],0,[],false,0,0,false)))) fun j4=>
 zb (lg j4.1) fun y5=>
 bif y5.2 != 0 then
  some ((⟨j4.2.1.kind,j4.2.1.name,j4.2.1.op,j4.2.1.value,j4.2.1.fold,j4.2.1.anb,j4.2.1.of_,j4.2.1.list⟩:zA),false)
 else
  zb (Xo y5.1) fun y6=>
  some ((⟨j4.2.1.kind,j4.2.1.name,j4.2.1.op,j4.2.1.value,j4.2.1.fold,y6.1,j4.2.1.of_,j4.2.1.list⟩:zA),y6.2==0)
def Dn(zu:List ze×zf×Bool×Bool->Option (List zw×Bool))(x:Str×List ze×zf):Option (zA×Bool):=
 zb (Mh ()) fun y1=>
 zb (Za x.1) fun y2=>
 zb (slices_Index_string (y1,y2)) fun y3=>
 bif decide (y3<5)then
  some ((⟨0,[],0,[],false,(⟨0,0⟩:VAnb),false,[]⟩:zA),false)
 else
  bif decide (wu8 (4+wu8 y3)<=10)then
   zb (Jl zu ((⟨wu8 (4+wu8 y3),[],0,[],false,(⟨0,0⟩:VAnb),false,[]⟩:zA),x.2.1,x.2.2)) fun y4=>
   some ((⟨y4.1.kind,y4.1.name,y4.1.op,y4.1.value,y4.1.fold,y4.1.anb,y4.1.of_,y4.1.list⟩:zA),y4.2)
  else
   zb (ZH (x.2.2,wu8 (4+wu8 y3))) fun y5=>
   bif !y5.2 then
    some ((⟨wu8 (4+wu8 y3),[],0,[],false,(⟨0,0⟩:VAnb),false,[]⟩:zA),false)
   else
    zb (zu (x.2.1,y5.1,wu8 (4+wu8 y3)==14,decide (wu8 (4+wu8 y3)<=12))) fun y6=>
    some ((⟨wu8 (4+wu8 y3),[],0,[],false,(⟨0,0⟩:VAnb),false,y6.1⟩:zA),y6.2)
def qI(zu:List ze×zf×Bool×Bool->Option (List zw×Bool))(x:zf×zh):Option ((List zA×Bool)×zh):=
 Zu (fun(s1:zh×List zA)=>
   zb (zH (1,s1.1)) fun y2=>
   zW (X:=Bool×zh×List zA×zA) (
     zb (zH (0,s1.1)) fun y3=>
     bif y3.kind==4 then
      some (LX.out (y3.flag,(⟨s1.1.v,w64 (s1.1.at_+1)⟩:zh),s1.2,(⟨1,y3.text,0,[],false,(⟨0,0⟩:VAnb),false,[]⟩:zA)))
     else
      bif bif y3.kind==9 then y3.text==[46]else false then
       some (LX.out (y2.kind==1,(⟨s1.1.v,w64 (s1.1.at_+2)⟩:zh),s1.2,(⟨2,y2.text,0,[],false,(⟨0,0⟩:VAnb),false,[]⟩:zA)))
      else
       bif y3.kind==19 then
        zb (qO (0,s1.1)) fun y4=>
        zb (jl y4) fun y5=>
        some (LX.out (y5.2,(⟨s1.1.v,w64 (s1.1.at_+1)⟩:zh),s1.2,(⟨y5.1.kind,y5.1.name,y5.1.op,y5.1.value,y5.1.fold,y5.1.anb,y5.1.of_,y5.1.list⟩:zA)))
       else
        bif y3.kind==16 then
         zW (X:=Bool×zh×zA) (
           bif y2.kind==1 then
            zb (il y2.text) fun y6=>
            some (LX.out (y6.2,s1.1,(⟨y6.1.kind,y6.1.name,y6.1.op,y6.1.value,y6.1.fold,y6.1.anb,y6.1.of_,y6.1.list⟩:zA)))
           else
            bif y2.kind==2 then
             zb (qO (1,s1.1)) fun y7=>
             zb (Dn zu (y2.text,y7,x.1)) fun y8=>
             some (LX.out (y8.2,s1.1,(⟨y8.1.kind,y8.1.name,y8.1.op,y8.1.value,y8.1.fold,y8.1.anb,y8.1.of_,y8.1.list⟩:zA)))
            else
             some (LX.out (false,s1.1,(⟨0,[],0,[],false,(⟨0,0⟩:VAnb),false,[]⟩:zA)))) fun j9=>
         some (LX.out (j9.1,(⟨j9.2.1.v,w64 (j9.2.1.at_+2)⟩:zh),s1.2,(⟨j9.2.2.kind,j9.2.2.name,j9.2.2.op,j9.2.2.value,j9.2.2.fold,j9.2.2.anb,j9.2.2.of_,j9.2.2.list⟩:zA)))
        else
         some (LX.ret (LO.ret ((s1.2,true),s1.1)))) fun j10=>
   bif !j10.1 then
    some (LO.ret (([],false),j10.2.1))
   else
    need (Zi j10.2.2.1.length 1 104)<|
    some (LO.again (j10.2.1,j10.2.2.1++[(⟨j10.2.2.2.kind,j10.2.2.2.name,j10.2.2.2.op,j10.2.2.2.value,j10.2.2.2.fold,j10.2.2.2.anb,j10.2.2.2.of_,j10.2.2.2.list⟩:zA)])):zh×List zA->Option (LO (zh×List zA) (Unit) _)) (x.2,[]) fun o11=>
 none
def Bn(zu:List ze×zf×Bool×Bool->Option (List zw×Bool))(x:List ze×zf×Bool):Option (zw×Bool):=
 zb (zX (⟨x.1,0⟩:zh)) fun y1=>
 zW (X:=Int×zh×Int) (
   bif x.2.2 then
    zb (qN y1.2) fun y2=>
    bif y2.1==0 then
     some (LX.out (0,y2.2,1))
    else
     some (LX.out (0,y2.2,y2.1))
   else
    some (LX.out (0,y1.2,0))) fun j3=>
 zW (X:=Int×zh×Int) (
   some (LX.out (j3.1,j3.2.1,j3.2.2))) fun j4=>
 Zu (fun(s5:Int×zh×Int×List zy×List UInt8)=>
   zW (X:=Int×zh×Int×List zy×List UInt8×Str) (
     zb (zH (0,s5.2.1)) fun y6=>
     bif y6.kind==1 then
      zb (Za y6.text) fun y7=>
      some (LX.out (s5.1,(⟨s5.2.1.v,w64 (s5.2.1.at_+1)⟩:zh),s5.2.2.1,s5.2.2.2.1,s5.2.2.2.2,y7))
     else
      zb (Zf ([42],s5.2.1)) fun y8=>
      bif y8.1 then
       some (LX.out (s5.1,y8.2,s5.2.2.1,s5.2.2.2.1,s5.2.2.2.2,[42]))
      else
       some (LX.out (s5.1,y8.2,s5.2.2.1,s5.2.2.2.1,s5.2.2.2.2,[]))) fun j9=>
   zb (qI zu (x.2.1,j9.2.1)) fun y10=>
   zb (zC (!(!y10.1.2)) (zg ((⟨j9.2.2.2.2.2,y10.1.1⟩:zy),x.2.1)) (default:Bool)) fun y11=>
   bif bif !y10.1.2 then true else !y11 then
    some (LO.ret ((⟨j9.2.2.1,j9.2.2.2.1,j9.2.2.2.2.1⟩:zw),false))
   else
    need (Zi j9.2.2.2.1.length 1 40)<|
    zb (zX y10.2) fun y12=>
    zb (Zj y12.2) fun y13=>
    bif y13 then
     some (LO.out (j9.1,y12.2,j9.2.2.1,j9.2.2.2.1++[(⟨j9.2.2.2.2.2,y10.1.1⟩:zy)],j9.2.2.2.2.1))
    else
     zb (qN y12.2) fun y14=>
     zW (X:=Int×Int×Int×List zy×List UInt8) (
       bif bif y14.1==0 then !y12.1 else false then
        some (LX.ret (LO.ret ((⟨j9.2.2.1,j9.2.2.2.1++[(⟨j9.2.2.2.2.2,y10.1.1⟩:zy)],j9.2.2.2.2.1⟩:zw),false)))
       else
        bif y14.1==0 then
         some (LX.out (1,j9.1,j9.2.2.1,j9.2.2.2.1++[(⟨j9.2.2.2.2.2,y10.1.1⟩:zy)],j9.2.2.2.2.1))
        else
         some (LX.out (y14.1,j9.1,j9.2.2.1,j9.2.2.2.1++[(⟨j9.2.2.2.2.2,y10.1.1⟩:zy)],j9.2.2.2.2.1))) fun j15=>
     zb (Jc j15.1) fun y16=>
     need (Zi j15.2.2.2.2.length 1 1)<|
     some (LO.again (j15.2.1,y14.2,j15.2.2.1,j15.2.2.2.1,j15.2.2.2.2++[y16])):Int×zh×Int×List zy×List UInt8->Option (LO (Int×zh×Int×List zy×List UInt8) (Int×zh×Int×List zy×List UInt8) _)) (j4.1,j4.2.1,j4.2.2,[],[]) fun o17=>
 some ((⟨o17.2.2.1,o17.2.2.2.1,o17.2.2.2.2⟩:zw),decide ((o17.2.2.2.1.length:Int)<=64))
def Vm(zu:List ze×zf×Bool×Bool->Option (List zw×Bool))(x:List ze×zf×Bool×Bool):Option (List zw×Bool):=
 Zu (fun(s1:(Int×Int)×List zw)=>
   bif decide (s1.1.2<w64 ((x.1.length:Int)+1))then
    zW (X:=(Int×Int)×List zw) (
      zb (zC (decide (s1.1.2<(x.1.length:Int))) (geti x.1 s1.1.2) (default:ze)) fun y2=>
      bif bif decide (s1.1.2<(x.1.length:Int))then y2.token.kind != 18 else false then
       some (LX.out ((s1.1.1,s1.1.2),s1.2))
      else
       zW (X:=List zw) (
         need (decide (0<=s1.1.1)&&(decide (s1.1.1<=s1.1.2)&&decide (s1.1.2<=(x.1.length:Int))))<|
         zb (Bn zu (List.drop s1.1.1.toNat (List.take s1.1.2.toNat x.1),x.2.1,x.2.2.1)) fun y3=>
         bif y3.2 then
          need (Zi s1.2.length 1 56)<|
          some (LX.out (s1.2++[(⟨y3.1.lead,y3.1.parts,y3.1.combs⟩:zw)]))
         else
          bif !x.2.2.2 then
           some (LX.ret (LX.ret (LO.ret ([],false))))
          else
           some (LX.out s1.2)) fun j4=>
       some (LX.out ((w64 (s1.1.2+1),s1.1.2),j4))) fun j5=>
    some (LO.again ((j5.1.1,w64 (j5.1.2+1)),j5.2))
   else
    some (LO.out s1.2):(Int×Int)×List zw->Option (LO ((Int×Int)×List zw) (List zw) _)) ((0,0),[]) fun o6=>
 some (o6,true)
def zu:List ze×zf×Bool×Bool->Option (List zw×Bool):=recE (Vm)
def Wm(Zl:List zw->Option Int)(x:List zw):Option Int:=
 Zu (fun(s1:Int×Int)=>
   bif decide (s1.2<(x.length:Int))then
    zb (geti x s1.2) fun y2=>
    Zu (fun(s3:Int×Int)=>
      bif decide (s3.2<(y2.parts.length:Int))then
       zb (geti y2.parts s3.2) fun y4=>
       Zu (fun(s5:Int×Int)=>
         bif decide (s5.2<(y4.simples.length:Int))then
          zb (geti y4.simples s5.2) fun y6=>
          zb (Zl y6.list) fun y7=>
          some (LO.again (w64 (s5.1+y7),w64 (s5.2+1)))
         else
          some (LO.out s5.1):Int×Int->Option (LO (Int×Int) (Int) _)) (s3.1,0) fun o8=>
       some (LO.again (o8,w64 (s3.2+1)))
      else
       some (LO.out s3.1):Int×Int->Option (LO (Int×Int) (Int) _)) (s1.1,0) fun o9=>
    some (LO.again (o9,w64 (s1.2+1)))
   else
    some (LO.out s1.1):Int×Int->Option (LO (Int×Int) (Int) _)) ((x.length:Int),0) fun o10=>
 some o10
def Zl:List zw->Option Int:=recE (Wm)
def Pk(x:List ze):Option (List zw×Int):=
 zb (qc x) fun y1=>
 bif y1 != 0 then
  some ([],y1)
 else
  zb (zu (x,(⟨0,false⟩:zf),false,false)) fun y2=>
  bif !y2.2 then
   some ([],12)
  else
   zb (Zl y2.1) fun y3=>
   bif decide (y3>64)then
    some ([],4)
   else
    some (y2.1,0)
def Er(x:List ze):Option (List ze):=
 bif x.isEmpty then
  both (
    some []) (
    need (Zi 0 x.length 80)<|
    some x)
 else
  need (Zi 0 x.length 80)<|
  some x
def ek(qG:List ze->Option (List ze))(x:List ze):Option (List ze):=
 zb (Er x) fun y1=>
 Zu (fun(s2:Int×List ze)=>
   bif decide (s2.1<(y1.length:Int))then
    need (decide (0<=s2.1)&&decide (s2.1<(s2.2.length:Int)))<|
    zb s2.2[s2.1.toNat]? fun y3=>
    zb (qG y3.list) fun y4=>
    need (decide (0<=s2.1)&&decide (s2.1<(s2.2.length:Int)))<|
    zb s2.2[s2.1.toNat]? fun y5=>
    some (LO.again (w64 (s2.1+1),List.set s2.2 s2.1.toNat (⟨y5.token,y4⟩:ze)))
   else
    some (LO.out s2.2):Int×List ze->Option (LO (Int×List ze) (List ze) _)) (0,y1) fun o6=>
 some o6
def qG:List ze->Option (List ze):=recE (ek)
def Uf(x:List ze×Int):Option (List (List ze)×Int):=
 zb (qc x.1) fun y1=>
 bif y1 != 0 then
  some ([],y1)
 else
  bif bif decide (x.2<1)then true else decide (x.2>24)then
   some ([],2)
  else
   Zu (fun(s2:(Int×Int)×List (List ze))=>
     bif decide (s2.1.2<(x.1.length:Int))then
      zW (X:=(Int×Int)×List (List ze)) (
        zb (geti x.1 s2.1.2) fun y3=>
        bif y3.token.kind==x.2 then
         need (decide (0<=s2.1.1)&&(decide (s2.1.1<=s2.1.2)&&(decide (s2.1.2<=s2.1.2)&&decide (s2.1.2<=(x.1.length:Int))))&&decide (s2.1.2=s2.1.2))<|
         zb (qG (List.drop s2.1.1.toNat (List.take s2.1.2.toNat x.1))) fun y4=>
         need (Zi s2.2.length 1 24)<|
         some (LX.out ((w64 (s2.1.2+1),s2.1.2),s2.2++[y4]))
        else
         some (LX.out ((s2.1.1,s2.1.2),s2.2))) fun j5=>
      some (LO.again ((j5.1.1,w64 (j5.1.2+1)),j5.2))
     else
      some (LO.out (s2.1.1,s2.2)):(Int×Int)×List (List ze)->Option (LO ((Int×Int)×List (List ze)) (Int×List (List ze)) _)) ((0,0),[]) fun o6=>
   need (decide (0<=o6.1)&&decide (o6.1<=(x.1.length:Int)))<|
   zb (qG (List.drop o6.1.toNat x.1)) fun y7=>
   need (Zi o6.2.length 1 24)<|
   some (o6.2++[y7],0)
def qo(x:ze×Int):Option Bool:=
 some (x.1.token.kind==x.2)
def og(x:List ze):Option (List ze):=
 Zu (fun(s1:List ze)=>
   zb (zC (decide ((s1.length:Int)>0)) (geti s1 0) (default:ze)) fun y2=>
   zb (zC (decide ((s1.length:Int)>0)) (qo ((⟨y2.token,y2.list⟩:ze),13)) (default:Bool)) fun y3=>
   bif bif decide ((s1.length:Int)>0)then y3 else false then
    need (decide (1<=(s1.length:Int)))<|
    some (LO.again (List.drop 1 s1))
   else
    some (LO.out s1):List ze->Option (LO (List ze) (List ze) _)) x fun o4=>
 some o4
def ug(x:List ze):Option (List ze):=
 Zu (fun(s1:List ze)=>
   zb (zC (decide ((s1.length:Int)>0)) (geti s1 (w64 ((s1.length:Int) - 1))) (default:ze)) fun y2=>
   zb (zC (decide ((s1.length:Int)>0)) (qo ((⟨y2.token,y2.list⟩:ze),13)) (default:Bool)) fun y3=>
   bif bif decide ((s1.length:Int)>0)then y3 else false then
    need (decide (0<=w64 ((s1.length:Int) - 1))&&decide (w64 ((s1.length:Int) - 1)<=(s1.length:Int)))<|
    some (LO.again (List.take (w64 ((s1.length:Int) - 1)).toNat s1))
   else
    some (LO.out s1):List ze->Option (LO (List ze) (List ze) _)) x fun o4=>
 some o4
def Pi(x:ze):Option Bool:=
 zb (qo ((⟨x.token,x.list⟩:ze),9)) fun y1=>
 some (bif y1 then x.token.text==[33]else false)
def Vi(x:Int×List ze):Option Bool:=
 zb (geti x.2 x.1) fun y1=>
 some (y1.token.kind==13)
def Pf(x:List ze):Option (List ze×Int):=
 zb (qc x) fun y1=>
 bif y1 != 0 then
  some ([],y1)
 else
  Zu (fun(s2:Int)=>
    zb (zC (decide (s2<(x.length:Int))) (Vi (s2,x)) (default:Bool)) fun y3=>
    bif bif decide (s2<(x.length:Int))then y3 else false then
     some (LO.again (w64 (s2+1)))
    else
     some (LO.out s2):Int->Option (LO (Int) (Int) _)) 0 fun o4=>
  Zu (fun(s5:Int)=>
    zb (zC (decide (o4<s5)) (Vi (w64 (s5 - 1),x)) (default:Bool)) fun y6=>
    bif bif decide (o4<s5)then y6 else false then
     some (LO.again (w64 (s5 - 1)))
    else
     some (LO.out s5):Int->Option (LO (Int) (Int) _)) (x.length:Int) fun o7=>
  need (decide (0<=o4)&&(decide (o4<=o7)&&(decide (o7<=o7)&&decide (o7<=(x.length:Int))))&&decide (o7=o7))<|
  zb (qG (List.drop o4.toNat (List.take o7.toNat x))) fun y8=>
  some (y8,0)
def Yk(x:Str):Option Bool:=
 zb (zC (!(bif x==[]then true else decide ((x.length:Int)>64))) (strings_IndexByte (x,0)) (default:Int)) fun y1=>
 bif bif bif x==[]then true else decide ((x.length:Int)>64)then true else decide (y1>=0)then
  some false
 else
  zb (strings_HasPrefix (x,[45,45])) fun y2=>
  bif y2 then
   some (!(x==[45,45]))
  else
   zb (Za x) fun y3=>
   some (x==y3)
def stringslite_TrimPrefix(x:Str×Str):Option Str:=
 zb (stringslite_HasPrefix (x.1,x.2)) fun y1=>
 bif y1 then
  need (decide (0<=(x.2.length:Int))&&decide ((x.2.length:Int)<=(x.1.length:Int)))<|
  some (List.drop x.2.length x.1)
 else
  some x.1
def strings_TrimPrefix(x:Str×Str):Option Str:=
 zb (stringslite_TrimPrefix (x.1,x.2)) fun y1=>
 some y1
def Tk(x:Int):Option Bool:=
 some (bif decide (48<=x)then decide (x<=57)else false)
def Rw(x:Str):Option Bool:=
 zb (strings_TrimPrefix (x,[45])) fun y1=>
 zb (zC (!(y1==[])) (geti y1 0) 0) fun y2=>
 zb (zC (!(y1==[])) (Tk (y2.toNat:Int)) (default:Bool)) fun y3=>
 some (bif !(y1==[])then y3 else false)
def Bw(x:Int):Option Bool:=
 some (bif bif decide (97<=ibOr IntKind.u8 x 32)then decide (ibOr IntKind.u8 x 32<=122)else false then decide (x<128)else false)
def Tv(x:Int):Option Bool:=
 zb (Bw x) fun y1=>
 zb (zC (!y1) (Tk x) (default:Bool)) fun y2=>
 some (bif bif bif bif y1 then true else y2 then true else x==95 then true else x==45 then true else decide (x>=128))
def strings_Contains(x:Str×Str):Option Bool:=
 zb (ae (x.1,x.2)) fun y1=>
 some (decide (y1>=0))
def Pp(x:zq):Option Bool:=
 need (Bd x.text.length x.unit.length)<|
 zb (strings_IndexByte (x.text++x.unit,0)) fun y1=>
 zW (X:=Bool×Bool×Bool×Bool×Bool) (
   zW (X:=Bool×Bool×Bool×Bool×Bool×Bool) (
     bif x.kind==1 then
      some (LX.out (false,false,false,false,decide (y1<0),x.kind==1))
     else
      bif x.kind==2 then
       some (LX.out (false,false,false,false,decide (y1<0),x.kind==2))
      else
       some (LX.out (false,false,false,false,decide (y1<0),x.kind==3))) fun j2=>
   bif j2.2.2.2.2.2 then
    some (LX.out (true,j2.2.1,j2.2.2.1,j2.2.2.2.1,bif j2.2.2.2.2.1 then !(x.text==[])else false))
   else
    bif x.kind==4 then
     zb (zC (!x.flag&&(bif j2.2.2.2.2.1 then !(x.text==[])else false)) (Rw x.text) (default:Bool)) fun y3=>
     zb (zC (y3&&(!x.flag&&(bif j2.2.2.2.2.1 then !(x.text==[])else false))) (strings_HasPrefix (x.text,[45,45])) (default:Bool)) fun y4=>
     some (LX.out (true,j2.2.1,j2.2.2.1,true,bif bif j2.2.2.2.2.1 then !(x.text==[])else false then bif bif x.flag then true else bif y3 then !y4 else false then true else x.text==[45]else false))
    else
     zW (X:=Bool×Bool×Bool×Bool×Bool×Bool) (
       bif x.kind==5 then
        some (LX.out (j2.1,j2.2.1,j2.2.2.1,j2.2.2.2.1,j2.2.2.2.2.1,x.kind==5))
       else
        some (LX.out (j2.1,j2.2.1,j2.2.2.1,j2.2.2.2.1,j2.2.2.2.2.1,x.kind==7))) fun j5=>
     bif j5.2.2.2.2.2 then
      some (LX.out (true,j5.2.1,j5.2.2.1,j5.2.2.2.1,j5.2.2.2.2.1))
     else
      bif x.kind==9 then
       zb (zC (bif j5.2.2.2.2.1 then(x.text.length:Int)==1 else false) (geti x.text 0) 0) fun y6=>
       zb (zC (bif j5.2.2.2.2.1 then(x.text.length:Int)==1 else false) (Tv (y6.toNat:Int)) (default:Bool)) fun y7=>
       zb (zC (bif bif bif j5.2.2.2.2.1 then(x.text.length:Int)==1 else false then !y7 else false then true else x.text==[45]) (strings_Contains ([32,9,10,12,13,34,39,58,59,44,91,93,40,41,123,125],x.text)) (default:Bool)) fun y8=>
       some (LX.out (true,j5.2.1,j5.2.2.1,j5.2.2.2.1,bif bif bif bif j5.2.2.2.2.1 then(x.text.length:Int)==1 else false then !y7 else false then true else x.text==[45]then !y8 else false))
      else
       zW (X:=Bool×Bool×Bool×Bool×Bool) (
         bif x.kind==10 then
          some (LX.out (j5.2.1,j5.2.2.1,j5.2.2.2.1,j5.2.2.2.2.1,x.kind==10))
         else
          bif x.kind==11 then
           some (LX.out (j5.2.1,j5.2.2.1,j5.2.2.2.1,j5.2.2.2.2.1,x.kind==11))
          else
           some (LX.out (j5.2.1,j5.2.2.1,j5.2.2.2.1,j5.2.2.2.2.1,x.kind==12))) fun j9=>
       bif j9.2.2.2.2 then
        some (LX.out (j5.1,x.kind==12,true,x.kind != 11,bif bif bif bif j9.2.2.2.1 then decide (x.num>=(-1000000000000))else false then decide (x.num<=1000000000000)else false then bif !x.flag then true else Int.tmod x.num 1000==0 else false then bif !(x.kind==12)then true else !(x.unit==[])else false))
       else
        some (LX.out (j5.1,j9.1,j9.2.1,j9.2.2.1,bif decide (x.kind>=13)then decide (x.kind<=24)else false))) fun j10=>
 some (bif bif bif bif j10.2.2.2.2 then bif j10.1 then true else x.text==[]else false then bif j10.2.1 then true else x.unit==[]else false then bif j10.2.2.1 then true else x.num==0 else false then bif j10.2.2.2.1 then true else !x.flag else false)
def Kg(x:(Int×Int)×List zq):Option Bool:=
 zb (zC (decide (x.1.1<(x.2.length:Int))) (geti x.2 x.1.1) (default:zq)) fun y1=>
 some (bif decide (x.1.1<(x.2.length:Int))then y1.kind==x.1.2 else false)
def Sk(x:List zq):Option Int:=
 zb (geti x 0) fun y1=>
 bif bif y1.kind==9 then y1.text==[92]else false then
  zb (Kg ((1,13),x)) fun y2=>
  bif !y2 then
   some 0
  else
   some 2
 else
  zb (zC (y1.kind==2) (Zy (y1.text,[117,114,108])) (default:Bool)) fun y3=>
  bif bif y1.kind==2 then y3 else false then
   zW (X:=Int) (
     zb (Kg ((1,13),x)) fun y4=>
     bif y4 then
      some (LX.out 2)
     else
      some (LX.out 1)) fun j5=>
   zb (Kg ((j5,5),x)) fun y6=>
   bif !y6 then
    some 0
   else
    some (w64 (j5+1))
  else
   some 1
def Uk(x:List zq):Option Int:=
 bif decide ((x.length:Int)>1500)then
  some 4
 else
  Zu (fun(s1:Int)=>
    bif decide (s1<(x.length:Int))then
     zb (geti x s1) fun y2=>
     zb (Pp y2) fun y3=>
     need (decide (0<=s1)&&decide (s1<=(x.length:Int))|| !(!(!y3)))<|
     zb (zC (!(!y3)) (Sk (List.drop s1.toNat x)) (default:Int)) fun y4=>
     bif bif !y3 then true else y4==0 then
      some (LO.ret 8)
     else
      some (LO.again (w64 (s1+1)))
    else
     some (LO.out ()):Int->Option (LO (Int) (Unit) _)) 0 fun o5=>
  some 0
def Em(zD:List ze->Option Bool)(x:ze):Option Bool:=
 zb (qo ((⟨x.token,x.list⟩:ze),20)) fun y1=>
 zb (zC (!y1) (qo ((⟨x.token,x.list⟩:ze),22)) (default:Bool)) fun y2=>
 zb (zC (!(bif y1 then true else y2)) (qo ((⟨x.token,x.list⟩:ze),24)) (default:Bool)) fun y3=>
 zb (zC (!(bif bif y1 then true else y2 then true else y3)) (zD x.list) (default:Bool)) fun y4=>
 some (bif bif bif y1 then true else y2 then true else y3 then true else y4)
def qi(zD:List ze->Option Bool)(x:List ze):Option Int:=
 Zu (fun(s1:Int)=>
   bif decide (s1<(x.length:Int))then
    zb (geti x s1) fun y2=>
    zb (Em zD (⟨y2.token,y2.list⟩:ze)) fun y3=>
    bif y3 then
     some (LO.ret s1)
    else
     some (LO.again (w64 (s1+1)))
   else
    some (LO.out ()):Int->Option (LO (Int) (Unit) _)) 0 fun o4=>
 some (-1)
def ZV(zD:List ze->Option Bool)(x:List ze):Option Bool:=
 zb (qi zD x) fun y1=>
 some (decide (y1>=0))
def Dm(zD:List ze->Option Bool)(x:List ze):Option Bool:=
 zb (ZV zD x) fun y1=>
 some y1
def zD:List ze->Option Bool:=recE (Dm)
def Uq(x:ze):Option Bool:=
 zb (qo ((⟨x.token,x.list⟩:ze),17)) fun y1=>
 zb (zC (!y1) (Pi (⟨x.token,x.list⟩:ze)) (default:Bool)) fun y2=>
 some (bif y1 then true else y2)
def qj(x:List ze):Option Int:=
 Zu (fun(s1:Int)=>
   bif decide (s1<(x.length:Int))then
    zb (geti x s1) fun y2=>
    zb (Uq (⟨y2.token,y2.list⟩:ze)) fun y3=>
    bif y3 then
     some (LO.ret s1)
    else
     some (LO.again (w64 (s1+1)))
   else
    some (LO.out ()):Int->Option (LO (Int) (Unit) _)) 0 fun o4=>
 some (-1)
def ZF(x:List ze):Option Bool:=
 zb (qj x) fun y1=>
 some (decide (y1>=0))
def Yf(x:zV):Option Int:=
 zb (lg x.value) fun y1=>
 zb (Yk x.name) fun y2=>
 zb (zC (!(bif !y2 then true else y1.2 != 0)) (Uk y1.1) (default:Int)) fun y3=>
 zb (zC (!(bif bif !y2 then true else y1.2 != 0 then true else y3 != 0)) (zD x.value) (default:Bool)) fun y4=>
 bif bif bif bif !y2 then true else y1.2 != 0 then true else y3 != 0 then true else y4 then
  some 8
 else
  zb (ZF x.value) fun y5=>
  bif y5 then
   some 8
  else
   zb (zC ((x.value.length:Int)==0) (strings_HasPrefix (x.name,[45,45])) (default:Bool)) fun y6=>
   zb (zC (decide ((x.value.length:Int)>0)&& !(bif (x.value.length:Int)==0 then !y6 else false)) (geti x.value 0) (default:ze)) fun y7=>
   zb (zC (decide ((x.value.length:Int)>0)&& !(bif (x.value.length:Int)==0 then !y6 else false)) (qo ((⟨y7.token,y7.list⟩:ze),13)) (default:Bool)) fun y8=>
   zb (zC (!y8&&(decide ((x.value.length:Int)>0)&& !(bif (x.value.length:Int)==0 then !y6 else false))) (geti x.value (w64 ((x.value.length:Int) - 1))) (default:ze)) fun y9=>
   zb (zC (!y8&&(decide ((x.value.length:Int)>0)&& !(bif (x.value.length:Int)==0 then !y6 else false))) (qo ((⟨y9.token,y9.list⟩:ze),13)) (default:Bool)) fun y10=>
   bif bif bif (x.value.length:Int)==0 then !y6 else false then true else bif decide ((x.value.length:Int)>0)then bif y8 then true else y10 else false then
    some 8
   else
    some 0
def kg(x:List ze):Option (zV×Bool):=
 zb (og x) fun y1=>
 zb (ug y1) fun y2=>
 zb (zC (!((y2.length:Int)==0)) (geti y2 0) (default:ze)) fun y3=>
 zb (zC (!((y2.length:Int)==0)) (qo ((⟨y3.token,y3.list⟩:ze),1)) (default:Bool)) fun y4=>
 bif bif (y2.length:Int)==0 then true else !y4 then
  some ((⟨[],[],false⟩:zV),false)
 else
  zb (geti y2 0) fun y5=>
  zW (X:=List ze×(Str×Bool)×(Str×Bool)) (
    zb (strings_HasPrefix (y5.token.text,[45,45])) fun y6=>
    bif !y6 then
     zb (Za y5.token.text) fun y7=>
     some (LX.out (y2,([],false),(y7,false)))
    else
     some (LX.out (y2,([],false),(y5.token.text,false)))) fun j8=>
  need (decide (1<=(j8.1.length:Int)))<|
  zb (og (List.drop 1 j8.1)) fun y9=>
  zb (zC (!((y9.length:Int)==0)) (geti y9 0) (default:ze)) fun y10=>
  zb (zC (!((y9.length:Int)==0)) (qo ((⟨y10.token,y10.list⟩:ze),16)) (default:Bool)) fun y11=>
  bif bif (y9.length:Int)==0 then true else !y11 then
   some ((⟨[],[],false⟩:zV),false)
  else
   need (decide (1<=(y9.length:Int)))<|
   zb (og (List.drop 1 y9)) fun y12=>
   zW (X:=List ze×(Str×Bool)×(Str×Bool)) (
     zb (zC (decide (w64 ((y12.length:Int) - 1)>0)) (geti y12 (w64 ((y12.length:Int) - 1))) (default:ze)) fun y13=>
     zb (zC (decide (w64 ((y12.length:Int) - 1)>0)) (qo ((⟨y13.token,y13.list⟩:ze),1)) (default:Bool)) fun y14=>
     zb (zC (bif decide (w64 ((y12.length:Int) - 1)>0)then y14 else false) (geti y12 (w64 ((y12.length:Int) - 1))) (default:ze)) fun y15=>
     zb (zC (bif decide (w64 ((y12.length:Int) - 1)>0)then y14 else false) (Zy (y15.token.text,[105,109,112,111,114,116,97,110,116])) (default:Bool)) fun y16=>
     bif bif bif decide (w64 ((y12.length:Int) - 1)>0)then y14 else false then y16 else false then
      need (decide (0<=w64 ((y12.length:Int) - 1))&&decide (w64 ((y12.length:Int) - 1)<=(y12.length:Int)))<|
      zb (ug (List.take (w64 ((y12.length:Int) - 1)).toNat y12)) fun y17=>
      zb (zC (decide ((y17.length:Int)>0)) (geti y17 (w64 ((y17.length:Int) - 1))) (default:ze)) fun y18=>
      zb (zC (decide ((y17.length:Int)>0)) (Pi (⟨y18.token,y18.list⟩:ze)) (default:Bool)) fun y19=>
      bif bif decide ((y17.length:Int)>0)then y19 else false then
       need (decide (0<=w64 ((y17.length:Int) - 1))&&decide (w64 ((y17.length:Int) - 1)<=(y17.length:Int)))<|
       zb (ug (List.take (w64 ((y17.length:Int) - 1)).toNat y17)) fun y20=>
       some (LX.out (y20,(j8.2.1.1,j8.2.1.2),(j8.2.2.1,true)))
      else
       some (LX.out (y12,(j8.2.1.1,j8.2.1.2),(j8.2.2.1,j8.2.2.2)))
     else
      some (LX.out (y12,(j8.2.1.1,j8.2.1.2),(j8.2.2.1,j8.2.2.2)))) fun j21=>
   zb (Pf j21.1) fun y22=>
   zb (zC (!(y22.2 != 0)) (Yf (⟨j21.2.2.1,y22.1,j21.2.2.2⟩:zV)) (default:Int)) fun y23=>
   bif bif y22.2 != 0 then true else y23 != 0 then
    some ((⟨[],[],false⟩:zV),false)
   else
    some ((⟨j21.2.2.1,y22.1,j21.2.2.2⟩:zV),true)
def Xj(x:List ze):Option (List zV×Int):=
 zb (Uf (x,17)) fun y1=>
 bif y1.2 != 0 then
  some ([],y1.2)
 else
  Zu (fun(s2:Int×List zV)=>
    bif decide (s2.1<(y1.1.length:Int))then
     zW (X:=Int×List zV) (
       zb (geti y1.1 s2.1) fun y3=>
       zb (kg y3) fun y4=>
       bif bif y4.2 then decide ((s2.2.length:Int)<32)else false then
        need (Zi s2.2.length 1 48)<|
        some (LX.out (s2.1,s2.2++[y4.1]))
       else
        some (LX.out (s2.1,s2.2))) fun j5=>
     some (LO.again (w64 (j5.1+1),j5.2))
    else
     some (LO.out s2.2):Int×List zV->Option (LO (Int×List zV) (List zV) _)) (0,[]) fun o6=>
  some (o6,0)
def Gl(x:List ze×List ze):Option (zL×Bool):=
 zb (Pk x.1) fun y1=>
 bif y1.2 != 0 then
  some ((⟨0,[],[],(⟨0,[],0,(⟨[],[],false⟩:zV),[]⟩:zt),[],[]⟩:zL),false)
 else
  zb (Xj x.2) fun y2=>
  some ((⟨1,y1.1,y2.1,(⟨0,[],0,(⟨[],[],false⟩:zV),[]⟩:zt),[],[]⟩:zL),y2.2==0)
def Uh(x:Str):Option Bool:=
 zb (zC (!(bif x==[]then true else decide ((x.length:Int)>64))) (strings_IndexByte (x,0)) (default:Int)) fun y1=>
 some (bif bif x==[]then true else decide ((x.length:Int)>64)then true else decide (y1>=0))
def qz(x:List Str):Option Int:=
 Zu (fun(s1:Int)=>
   bif decide (s1<(x.length:Int))then
    need (decide (0<=s1)&&decide (s1<(x.length:Int)))<|
    zb x[s1.toNat]? fun y2=>
    zb (Uh y2) fun y3=>
    bif y3 then
     some (LO.ret s1)
    else
     some (LO.again (w64 (s1+1)))
   else
    some (LO.out ()):Int->Option (LO (Int) (Unit) _)) 0 fun o4=>
 some (-1)
def ZK(x:List Str):Option Bool:=
 zb (qz x) fun y1=>
 some (decide (y1>=0))
def Hl(x:List Str):Option Bool:=
 zb (zC (bif decide ((x.length:Int)>0)then decide ((x.length:Int)<=16)else false) (ZK x) (default:Bool)) fun y1=>
 some (bif bif decide ((x.length:Int)>0)then decide ((x.length:Int)<=16)else false then !y1 else false)
def ak(x:List ze):Option (List Str×Bool):=
 zb (Pf x) fun y1=>
 bif bif y1.2 != 0 then true else Int.tmod (y1.1.length:Int) 2==0 then
  some ([],false)
 else
  Zu (fun(s2:Int×List Str)=>
    bif decide (s2.1<(y1.1.length:Int))then
     zW (X:=Int×List Str) (
       zb (geti y1.1 s2.1) fun y3=>
       bif Int.tmod s2.1 2==1 then
        bif bif y3.token.kind != 9 then true else !(y3.token.text==[46])then
         some (LX.ret (LO.ret ([],false)))
        else
         some (LX.out (s2.1,s2.2))
       else
        bif y3.token.kind != 1 then
         some (LX.ret (LO.ret ([],false)))
        else
         need (Zi s2.2.length 1 16)<|
         some (LX.out (s2.1,s2.2++[y3.token.text]))) fun j4=>
     some (LO.again (w64 (j4.1+1),j4.2))
    else
     some (LO.out s2.2):Int×List Str->Option (LO (Int×List Str) (List Str) _)) (0,[]) fun o5=>
  zb (Hl o5) fun y6=>
  some (o5,y6)
def Dh(x:List ze×Bool):Option (zL×Bool):=
 zb (Uf (x.1,18)) fun y1=>
 bif bif y1.2 != 0 then true else decide ((y1.1.length:Int)>64)then
  some ((⟨0,[],[],(⟨0,[],0,(⟨[],[],false⟩:zV),[]⟩:zt),[],[]⟩:zL),false)
 else
  zW (X:=(Int×Int×Str×Int×Str×Bool)×(Int×Int×Str×Int×Str×Bool)) (
    bif x.2 then
     zb (Pf x.1) fun y2=>
     bif (y2.1.length:Int)==0 then
      some (LX.ret ((⟨4,[],[],(⟨0,[],0,(⟨[],[],false⟩:zV),[]⟩:zt),[],[]⟩:zL),true))
     else
      some (LX.out ((0,0,[],0,[],false),(4,0,[],0,[],false)))
    else
     some (LX.out ((0,0,[],0,[],false),(5,0,[],0,[],false)))) fun j3=>
  Zu (fun(s4:Int×(Int×Int×Str×Int×Str×Bool)×(Int×Int×Str×Int×Str×Bool)×List (List Str))=>
    bif decide (s4.1<(y1.1.length:Int))then
     zb (geti y1.1 s4.1) fun y5=>
     zb (ak y5) fun y6=>
     bif !y6.2 then
      some (LO.ret ((⟨0,[],[],(⟨0,[],0,(⟨[],[],false⟩:zV),[]⟩:zt),[],[]⟩:zL),false))
     else
      need (Zi s4.2.2.2.length 1 24)<|
      some (LO.again (w64 (s4.1+1),(s4.2.1.1,s4.2.1.2.1,s4.2.1.2.2.1,s4.2.1.2.2.2.1,s4.2.1.2.2.2.2.1,s4.2.1.2.2.2.2.2),(s4.2.2.1.1,s4.2.2.1.2.1,s4.2.2.1.2.2.1,s4.2.2.1.2.2.2.1,s4.2.2.1.2.2.2.2.1,s4.2.2.1.2.2.2.2.2),s4.2.2.2++[y6.1]))
    else
     some (LO.out ((s4.2.1.1,s4.2.1.2.1,s4.2.1.2.2.1,s4.2.1.2.2.2.1,s4.2.1.2.2.2.2.1,s4.2.1.2.2.2.2.2),(s4.2.2.1.1,s4.2.2.1.2.1,s4.2.2.1.2.2.1,s4.2.2.1.2.2.2.1,s4.2.2.1.2.2.2.2.1,s4.2.2.1.2.2.2.2.2),s4.2.2.2)):Int×(Int×Int×Str×Int×Str×Bool)×(Int×Int×Str×Int×Str×Bool)×List (List Str)->Option (LO (Int×(Int×Int×Str×Int×Str×Bool)×(Int×Int×Str×Int×Str×Bool)×List (List Str)) ((Int×Int×Str×Int×Str×Bool)×(Int×Int×Str×Int×Str×Bool)×List (List Str)) _)) (0,(j3.1.1,j3.1.2.1,j3.1.2.2.1,j3.1.2.2.2.1,j3.1.2.2.2.2.1,j3.1.2.2.2.2.2),(j3.2.1,j3.2.2.1,j3.2.2.2.1,j3.2.2.2.2.1,j3.2.2.2.2.2.1,j3.2.2.2.2.2.2),[]) fun o7=>
  some ((⟨o7.2.1.1,[],[],(⟨o7.2.1.2.1,o7.2.1.2.2.1,o7.2.1.2.2.2.1,(⟨o7.2.1.2.2.2.2.1,[],o7.2.1.2.2.2.2.2⟩:zV),[]⟩:zt),o7.2.2,[]⟩:zL),bif !x.2 then true else(o7.2.2.length:Int)==1)
def zN(x:zm):Option Int:=
 bif (x.v.length:Int)==0 then
  some 0
 else
  zb (geti x.v 0) fun y1=>
  some y1.token.kind
def zO(x:zm):Option (ze×zm):=
 zb (geti x.v 0) fun y1=>
 need (decide (1<=(x.v.length:Int)))<|
 some ((⟨y1.token,y1.list⟩:ze),(⟨List.drop 1 x.v⟩:zm))
def zJ(x:zm):Option (Bool×zm):=
 Zu (fun(s1:zm)=>
   zb (zN s1) fun y2=>
   bif y2==13 then
    zb (zO s1) fun y3=>
    some (LO.again y3.2)
   else
    some (LO.out s1):zm->Option (LO (zm) (zm) _)) x fun o4=>
 some (decide ((o4.v.length:Int)<(x.v.length:Int)),o4)
def Zt(x:List Str×zm):Option (Str×zm):=
 Zu (fun(s1:Int×zm)=>
   bif decide (s1.1<(x.1.length:Int))then
    zb (geti x.1 s1.1) fun y2=>
    zb (zN s1.2) fun y3=>
    zb (zC (y3==1) (geti s1.2.v 0) (default:ze)) fun y4=>
    zb (zC (y3==1) (Zy (y4.token.text,y2)) (default:Bool)) fun y5=>
    bif bif y3==1 then y5 else false then
     zb (zO s1.2) fun y6=>
     some (LO.ret (y2,y6.2))
    else
     some (LO.again (w64 (s1.1+1),s1.2))
   else
    some (LO.out s1.2):Int×zm->Option (LO (Int×zm) (zm) _)) (0,x.2) fun o7=>
 some ([],o7)
def slices_Contains_string(x:List Str×Str):Option Bool:=
 zb (slices_Index_string (x.1,x.2)) fun y1=>
 some (decide (y1>=0))
def Fh(x:Str):Option Bool:=
 zb (slices_Contains_string ([[],[97,110,100],[111,114],[110,111,116],[111,110,108,121]],x)) fun y1=>
 zb (zC (bif !y1 then decide ((x.length:Int)<=64)else false) (Za x) (default:Str)) fun y2=>
 zb (zC (bif bif !y1 then decide ((x.length:Int)<=64)else false then y2==x else false) (strings_IndexByte (x,0)) (default:Int)) fun y3=>
 some (bif bif bif !y1 then decide ((x.length:Int)<=64)else false then y2==x else false then decide (y3<0)else false)
def Al(x:List Int):Option Int:=
 Zu (fun(s1:Int)=>
   bif decide (s1<(x.length:Int))then
    zb (geti x s1) fun y2=>
    bif bif decide (y2<(-1000000000000))then true else decide (y2>1000000000000)then
     some (LO.ret 8)
    else
     some (LO.again (w64 (s1+1)))
   else
    some (LO.out ()):Int->Option (LO (Int) (Unit) _)) 0 fun o3=>
 some 0
def Eh(x:Int):Option Int:=
 zb (Al [x]) fun y1=>
 some y1
def qL(x:zm):Option ((zt×Bool)×zm):=
 zb (zN x) fun y1=>
 bif y1 != 21 then
  some (((⟨0,[],0,(⟨[],[],false⟩:zV),[]⟩:zt),false),x)
 else
  zb (zO x) fun y2=>
  zb (zJ (⟨y2.1.list⟩:zm)) fun y3=>
  zW (X:=(Int×Str×Int×Str×Bool)×zm×(Int×Str×Int×Str×Bool)) (
    zb (Zt ([[109,105,110,45,119,105,100,116,104],[109,97,120,45,119,105,100,116,104]],y3.2)) fun y4=>
    bif y4.1==[]then
     some (LX.ret (((⟨5,[],0,(⟨[],[],false⟩:zV),[]⟩:zt),false),y2.2))
    else
     bif y4.1==[109,97,120,45,119,105,100,116,104]then
      some (LX.out ((0,[],0,[],false),y4.2,(6,[],0,[],false)))
     else
      some (LX.out ((0,[],0,[],false),y4.2,(5,[],0,[],false)))) fun j5=>
  zb (zJ j5.2.1) fun y6=>
  zb (zN y6.2) fun y7=>
  bif y7 != 16 then
   some (((⟨j5.2.2.1,j5.2.2.2.1,j5.2.2.2.2.1,(⟨j5.2.2.2.2.2.1,[],j5.2.2.2.2.2.2⟩:zV),[]⟩:zt),false),y2.2)
  else
   zb (zO y6.2) fun y8=>
   zb (zJ y8.2) fun y9=>
   zb (zN y9.2) fun y10=>
   zb (zC (y10 != 12) (zN y9.2) (default:Int)) fun y11=>
   bif bif y10 != 12 then y11 != 10 else false then
    some (((⟨j5.2.2.1,j5.2.2.2.1,j5.2.2.2.2.1,(⟨j5.2.2.2.2.2.1,[],j5.2.2.2.2.2.2⟩:zV),[]⟩:zt),false),y2.2)
   else
    zb (zO y9.2) fun y12=>
    zb (zJ y12.2) fun y13=>
    zb (zC (y12.1.token.kind==12) (Zy (y12.1.token.unit,[112,120])) (default:Bool)) fun y14=>
    zb (zC (bif bif bif y12.1.token.kind==12 then y14 else false then true else bif y12.1.token.kind==10 then y12.1.token.num==0 else false then decide (y12.1.token.num>=0)else false) (Eh y12.1.token.num) (default:Int)) fun y15=>
    some (((⟨j5.2.2.1,j5.2.2.2.1,y12.1.token.num,(⟨j5.2.2.2.2.2.1,[],j5.2.2.2.2.2.2⟩:zV),[]⟩:zt),bif bif bif bif bif y12.1.token.kind==12 then y14 else false then true else bif y12.1.token.kind==10 then y12.1.token.num==0 else false then decide (y12.1.token.num>=0)else false then y15==0 else false then(y13.2.v.length:Int)==0 else false),y2.2)
def dm(x:zm):Option ((zt×Bool)×zm):=
 zb (zJ x) fun y1=>
 zb (Zt ([[110,111,116],[111,110,108,121]],y1.2)) fun y2=>
 zb (zJ y2.2) fun y3=>
 zW (X:=zm×(Int×Str×Int×Str×Bool)×(Int×Str×Int×Str×Bool)×List zt) (
   zb (zN y3.2) fun y4=>
   bif y4==1 then
    zb (zO y3.2) fun y5=>
    zb (Za y5.1.token.text) fun y6=>
    zb (Fh y6) fun y7=>
    bif !y7 then
     some (LX.ret (((⟨1,[],0,(⟨[],[],false⟩:zV),[]⟩:zt),false),y5.2))
    else
     need (Zi 0 1 104)<|
     some (LX.out (y5.2,(0,[],0,[],false),(1,[],0,[],false),[(⟨4,y6,0,(⟨[],[],false⟩:zV),[]⟩:zt)]))
   else
    zb (qL y3.2) fun y8=>
    bif bif !y8.1.2 then true else !(y2.1==[])then
     some (LX.ret (((⟨1,[],0,(⟨[],[],false⟩:zV),[]⟩:zt),false),y8.2))
    else
     need (Zi 0 1 104)<|
     some (LX.out (y8.2,(0,[],0,[],false),(1,[],0,[],false),[(⟨y8.1.1.kind,y8.1.1.name,y8.1.1.num,y8.1.1.decl,y8.1.1.list⟩:zt)]))) fun j9=>
 zb (zJ j9.1) fun y10=>
 Zu (fun(s11:zm×(Int×Str×Int×Str×Bool)×(Int×Str×Int×Str×Bool)×List zt)=>
   bif decide ((s11.1.v.length:Int)>0)then
    zb (Zt ([[97,110,100]],s11.1)) fun y12=>
    bif y12.1==[]then
     some (LO.ret (((⟨s11.2.2.1.1,s11.2.2.1.2.1,s11.2.2.1.2.2.1,(⟨s11.2.2.1.2.2.2.1,[],s11.2.2.1.2.2.2.2⟩:zV),s11.2.2.2⟩:zt),false),y12.2))
    else
     zb (zJ y12.2) fun y13=>
     zb (qL y13.2) fun y14=>
     bif !y14.1.2 then
      some (LO.ret (((⟨s11.2.2.1.1,s11.2.2.1.2.1,s11.2.2.1.2.2.1,(⟨s11.2.2.1.2.2.2.1,[],s11.2.2.1.2.2.2.2⟩:zV),s11.2.2.2⟩:zt),false),y14.2))
     else
      need (Zi s11.2.2.2.length 1 104)<|
      zb (zJ y14.2) fun y15=>
      some (LO.again (y15.2,(s11.2.1.1,s11.2.1.2.1,s11.2.1.2.2.1,s11.2.1.2.2.2.1,s11.2.1.2.2.2.2),(s11.2.2.1.1,s11.2.2.1.2.1,s11.2.2.1.2.2.1,s11.2.2.1.2.2.2.1,s11.2.2.1.2.2.2.2),s11.2.2.2++[(⟨y14.1.1.kind,y14.1.1.name,y14.1.1.num,y14.1.1.decl,y14.1.1.list⟩:zt)]))
   else
    some (LO.out (s11.1,(s11.2.1.1,s11.2.1.2.1,s11.2.1.2.2.1,s11.2.1.2.2.2.1,s11.2.1.2.2.2.2),(s11.2.2.1.1,s11.2.2.1.2.1,s11.2.2.1.2.2.1,s11.2.2.1.2.2.2.1,s11.2.2.1.2.2.2.2),s11.2.2.2)):zm×(Int×Str×Int×Str×Bool)×(Int×Str×Int×Str×Bool)×List zt->Option (LO (zm×(Int×Str×Int×Str×Bool)×(Int×Str×Int×Str×Bool)×List zt) (zm×(Int×Str×Int×Str×Bool)×(Int×Str×Int×Str×Bool)×List zt) _)) (y10.2,(j9.2.1.1,j9.2.1.2.1,j9.2.1.2.2.1,j9.2.1.2.2.2.1,j9.2.1.2.2.2.2),(j9.2.2.1.1,j9.2.2.1.2.1,j9.2.2.1.2.2.1,j9.2.2.1.2.2.2.1,j9.2.2.1.2.2.2.2),j9.2.2.2) fun o16=>
 zW (X:=(Int×Str×Int×Str×Bool)×(Int×Str×Int×Str×Bool×List zt)) (
   bif y2.1==[110,111,116]then
    some (LX.out ((o16.2.1.1,o16.2.1.2.1,o16.2.1.2.2.1,o16.2.1.2.2.2.1,o16.2.1.2.2.2.2),(3,[],0,[],false,[(⟨o16.2.2.1.1,o16.2.2.1.2.1,o16.2.2.1.2.2.1,(⟨o16.2.2.1.2.2.2.1,[],o16.2.2.1.2.2.2.2⟩:zV),o16.2.2.2⟩:zt)])))
   else
    some (LX.out ((o16.2.1.1,o16.2.1.2.1,o16.2.1.2.2.1,o16.2.1.2.2.2.1,o16.2.1.2.2.2.2),(o16.2.2.1.1,o16.2.2.1.2.1,o16.2.2.1.2.2.1,o16.2.2.1.2.2.2.1,o16.2.2.1.2.2.2.2,o16.2.2.2)))) fun j17=>
 some (((⟨j17.2.1,j17.2.2.1,j17.2.2.2.1,(⟨j17.2.2.2.2.1,[],j17.2.2.2.2.2.1⟩:zV),j17.2.2.2.2.2.2⟩:zt),true),o16.1)
def xg(x:List ze):Option (zt×Int):=
 zb (Uf (x,18)) fun y1=>
 bif y1.2 != 0 then
  some ((⟨0,[],0,(⟨[],[],false⟩:zV),[]⟩:zt),y1.2)
 else
  zW (X:=Int×Str×Int×Str×Bool) (
    bif (y1.1.length:Int)==1 then
     zb (zJ (⟨x⟩:zm)) fun y2=>
     bif (y2.2.v.length:Int)==0 then
      some (LX.ret ((⟨1,[],0,(⟨[],[],false⟩:zV),[]⟩:zt),0))
     else
      some (LX.out (0,[],0,[],false))
    else
     some (LX.out (0,[],0,[],false))) fun j3=>
  bif decide ((y1.1.length:Int)>64)then
   some ((⟨0,[],0,(⟨[],[],false⟩:zV),[]⟩:zt),4)
  else
   Zu (fun(s4:Int×(Int×Str×Int×Str×Bool)×List zt)=>
     bif decide (s4.1<(y1.1.length:Int))then
      zb (geti y1.1 s4.1) fun y5=>
      zb (dm (⟨y5⟩:zm)) fun y6=>
      zW (X:=(Int×Str×Int×Str×Bool)×List zt×zt) (
        bif !y6.1.2 then
         some (LX.out ((s4.2.1.1,s4.2.1.2.1,s4.2.1.2.2.1,s4.2.1.2.2.2.1,s4.2.1.2.2.2.2),s4.2.2,(⟨3,[],0,(⟨[],[],false⟩:zV),[(⟨1,[],0,(⟨[],[],false⟩:zV),[(⟨4,[97,108,108],0,(⟨[],[],false⟩:zV),[]⟩:zt)]⟩:zt)]⟩:zt)))
        else
         some (LX.out ((s4.2.1.1,s4.2.1.2.1,s4.2.1.2.2.1,s4.2.1.2.2.2.1,s4.2.1.2.2.2.2),s4.2.2,(⟨y6.1.1.kind,y6.1.1.name,y6.1.1.num,y6.1.1.decl,y6.1.1.list⟩:zt)))) fun j7=>
      need (Zi j7.2.1.length 1 104)<|
      some (LO.again (w64 (s4.1+1),(j7.1.1,j7.1.2.1,j7.1.2.2.1,j7.1.2.2.2.1,j7.1.2.2.2.2),j7.2.1++[(⟨j7.2.2.kind,j7.2.2.name,j7.2.2.num,j7.2.2.decl,j7.2.2.list⟩:zt)]))
     else
      some (LO.out ((s4.2.1.1,s4.2.1.2.1,s4.2.1.2.2.1,s4.2.1.2.2.2.1,s4.2.1.2.2.2.2),s4.2.2)):Int×(Int×Str×Int×Str×Bool)×List zt->Option (LO (Int×(Int×Str×Int×Str×Bool)×List zt) ((Int×Str×Int×Str×Bool)×List zt) _)) (0,(2,[],0,[],false),[]) fun o8=>
   some ((⟨o8.1.1,o8.1.2.1,o8.1.2.2.1,(⟨o8.1.2.2.2.1,[],o8.1.2.2.2.2⟩:zV),o8.2⟩:zt),0)
def sj(x:List ze):Option (zV×Bool×Int):=
 zb (qc x) fun y1=>
 bif y1 != 0 then
  some ((⟨[],[],false⟩:zV),false,y1)
 else
  zb (kg x) fun y2=>
  some (y2.1,y2.2,0)
def Qo(zG:zm->Option ((zt×Bool)×zm))(x:zm):Option ((zt×Bool)×zm):=
 zb (zN x) fun y1=>
 bif y1==2 then
  zb (zO x) fun y2=>
  some (((⟨8,[],0,(⟨[],[],false⟩:zV),[]⟩:zt),true),y2.2)
 else
  bif y1==21 then
   zb (zO x) fun y3=>
   zb (sj y3.1.list) fun y4=>
   bif bif y4.2.2==0 then y4.2.1 else false then
    some (((⟨7,[],0,y4.1,[]⟩:zt),true),y3.2)
   else
    zb (zG (⟨y3.1.list⟩:zm)) fun y5=>
    bif y5.1.2 then
     some (((⟨y5.1.1.kind,y5.1.1.name,y5.1.1.num,y5.1.1.decl,y5.1.1.list⟩:zt),true),y3.2)
    else
     some (((⟨8,[],0,(⟨[],[],false⟩:zV),[]⟩:zt),true),y3.2)
  else
   some (((⟨8,[],0,(⟨[],[],false⟩:zV),[]⟩:zt),false),x)
def Q8(zG:zm->Option ((zt×Bool)×zm))(x:zm):Option ((zt×Bool)×zm):=
 zb (zJ x) fun y1=>
 zb (Zt ([[110,111,116]],y1.2)) fun y2=>
 bif !(y2.1==[])then
  zb (zJ y2.2) fun y3=>
  zb (Qo zG y3.2) fun y4=>
  zb (zJ y4.2) fun y5=>
  some (((⟨3,[],0,(⟨[],[],false⟩:zV),[(⟨y4.1.1.kind,y4.1.1.name,y4.1.1.num,y4.1.1.decl,y4.1.1.list⟩:zt)]⟩:zt),bif bif y4.1.2 then y3.1 else false then(y5.2.v.length:Int)==0 else false),y5.2)
 else
  zb (Qo zG y2.2) fun y6=>
  bif !y6.1.2 then
   some (((⟨y6.1.1.kind,y6.1.1.name,y6.1.1.num,y6.1.1.decl,y6.1.1.list⟩:zt),false),y6.2)
  else
   zb (zJ y6.2) fun y7=>
   bif (y7.2.v.length:Int)==0 then
    some (((⟨y6.1.1.kind,y6.1.1.name,y6.1.1.num,y6.1.1.decl,y6.1.1.list⟩:zt),true),y7.2)
   else
    Zu (fun(s8:Bool×zm×(Int×Str×Int×Str×Bool)×(Int×Str×Int×Str×Bool)×List zt)=>
      bif decide ((s8.2.1.v.length:Int)>0)then
       zb (Zt ([[97,110,100],[111,114]],s8.2.1)) fun y9=>
       bif bif bif (bif y9.1==[97,110,100]then 1 else bif y9.1==[111,114]then 2 else(0:Int))==0 then true else !s8.1 then true else bif s8.2.2.2.1.1 != 0 then s8.2.2.2.1.1 != (bif y9.1==[97,110,100]then 1 else bif y9.1==[111,114]then 2 else(0:Int))else false then
        some (LO.ret (((⟨s8.2.2.2.1.1,s8.2.2.2.1.2.1,s8.2.2.2.1.2.2.1,(⟨s8.2.2.2.1.2.2.2.1,[],s8.2.2.2.1.2.2.2.2⟩:zV),s8.2.2.2.2⟩:zt),false),y9.2))
       else
        zb (zJ y9.2) fun y10=>
        zb (Qo zG y10.2) fun y11=>
        bif bif !y10.1 then true else !y11.1.2 then
         some (LO.ret (((⟨bif y9.1==[97,110,100]then 1 else bif y9.1==[111,114]then 2 else(0:Int),s8.2.2.2.1.2.1,s8.2.2.2.1.2.2.1,(⟨s8.2.2.2.1.2.2.2.1,[],s8.2.2.2.1.2.2.2.2⟩:zV),s8.2.2.2.2⟩:zt),false),y11.2))
        else
         need (Zi s8.2.2.2.2.length 1 104)<|
         zb (zJ y11.2) fun y12=>
         some (LO.again (y12.1,y12.2,(s8.2.2.1.1,s8.2.2.1.2.1,s8.2.2.1.2.2.1,s8.2.2.1.2.2.2.1,s8.2.2.1.2.2.2.2),(bif y9.1==[97,110,100]then 1 else bif y9.1==[111,114]then 2 else(0:Int),s8.2.2.2.1.2.1,s8.2.2.2.1.2.2.1,s8.2.2.2.1.2.2.2.1,s8.2.2.2.1.2.2.2.2),s8.2.2.2.2++[(⟨y11.1.1.kind,y11.1.1.name,y11.1.1.num,y11.1.1.decl,y11.1.1.list⟩:zt)]))
      else
       some (LO.out (s8.2.1,(s8.2.2.1.1,s8.2.2.1.2.1,s8.2.2.1.2.2.1,s8.2.2.1.2.2.2.1,s8.2.2.1.2.2.2.2),(s8.2.2.2.1.1,s8.2.2.2.1.2.1,s8.2.2.2.1.2.2.1,s8.2.2.2.1.2.2.2.1,s8.2.2.2.1.2.2.2.2),s8.2.2.2.2)):Bool×zm×(Int×Str×Int×Str×Bool)×(Int×Str×Int×Str×Bool)×List zt->Option (LO (Bool×zm×(Int×Str×Int×Str×Bool)×(Int×Str×Int×Str×Bool)×List zt) (zm×(Int×Str×Int×Str×Bool)×(Int×Str×Int×Str×Bool)×List zt) _)) (y7.1,y7.2,(0,[],0,[],false),(0,[],0,[],false),[(⟨y6.1.1.kind,y6.1.1.name,y6.1.1.num,y6.1.1.decl,y6.1.1.list⟩:zt)]) fun o13=>
    some (((⟨o13.2.2.1.1,o13.2.2.1.2.1,o13.2.2.1.2.2.1,(⟨o13.2.2.1.2.2.2.1,[],o13.2.2.1.2.2.2.2⟩:zV),o13.2.2.2⟩:zt),true),o13.1)
def zG:zm->Option ((zt×Bool)×zm):=recE (Q8)
def Vf(x:List ze):Option (Int×Int):=
 zb (qc x) fun y1=>
 bif y1 != 0 then
  some (0,y1)
 else
  zb (qX (x,0)) fun y2=>
  some (y2.depth,0)
def qW(x:zt):Option Bool:=
 some (bif bif bif bif x.name==[]then x.num==0 else false then x.decl.name==[]else false then(x.decl.value.length:Int)==0 else false then !x.decl.important else false)
def Rp(x:zt):Option Bool:=
 some (bif x.kind==7 then true else x.kind==8)
def Sl(QF:zt×Int->Option ((Int×Bool)×Int))(x:zt×Int):Option ((Int×Bool)×Int):=
 bif decide (w64 (x.2+1)>1500)then
  some ((0,false),w64 (x.2+1))
 else
  bif x.1.kind==7 then
   zb (Vf x.1.decl.value) fun y1=>
   zb (zC (bif bif bif (x.1.list.length:Int)==0 then x.1.name==[]else false then x.1.num==0 else false then y1.2==0 else false) (Yf x.1.decl) (default:Int)) fun y2=>
   some ((w64 (y1.1+1),bif bif bif bif (x.1.list.length:Int)==0 then x.1.name==[]else false then x.1.num==0 else false then y1.2==0 else false then y2==0 else false),w64 (x.2+1))
  else
   bif x.1.kind==8 then
    zb (zC ((x.1.list.length:Int)==0) (qW (⟨x.1.kind,x.1.name,x.1.num,x.1.decl,x.1.list⟩:zt)) (default:Bool)) fun y3=>
    some ((1,bif (x.1.list.length:Int)==0 then y3 else false),w64 (x.2+1))
   else
    zW (X:=Bool) (
      bif x.1.kind==3 then
       some (LX.out (x.1.kind==3))
      else
       bif x.1.kind==1 then
        some (LX.out (x.1.kind==1))
       else
        some (LX.out (x.1.kind==2))) fun j4=>
    bif j4 then
     zb (qW (⟨x.1.kind,x.1.name,x.1.num,x.1.decl,x.1.list⟩:zt)) fun y5=>
     bif bif bif !y5 then true else bif x.1.kind==3 then(x.1.list.length:Int) != 1 else false then true else bif x.1.kind != 3 then decide ((x.1.list.length:Int)<2)else false then
      some ((0,false),w64 (x.2+1))
     else
      Zu (fun(s6:(Int×Int)×Int)=>
        bif decide (s6.1.2<(x.1.list.length:Int))then
         zb (geti x.1.list s6.1.2) fun y7=>
         zb (QF ((⟨y7.kind,y7.name,y7.num,y7.decl,y7.list⟩:zt),s6.2)) fun y8=>
         bif !y8.1.2 then
          some (LO.ret ((0,false),y8.2))
         else
          zW (X:=Int×Int) (
            zb (Rp (⟨y7.kind,y7.name,y7.num,y7.decl,y7.list⟩:zt)) fun y9=>
            bif !y9 then
             some (LX.out (s6.1.1,w64 (y8.1.1+1)))
            else
             some (LX.out (s6.1.1,y8.1.1))) fun j10=>
          some (LO.again ((if j10.2>j10.1 then j10.2 else j10.1,w64 (s6.1.2+1)),y8.2))
        else
         some (LO.out (s6.1.1,s6.2)):(Int×Int)×Int->Option (LO ((Int×Int)×Int) (Int×Int) _)) ((0,0),w64 (x.2+1)) fun o11=>
      some ((o11.1,true),o11.2)
    else
     some ((0,false),w64 (x.2+1))
def QF:zt×Int->Option ((Int×Bool)×Int):=recE (Sl)
def qp(x:zt):Option Int:=
 zb (QF ((⟨x.kind,x.name,x.num,x.decl,x.list⟩:zt),0)) fun y1=>
 bif bif !y1.1.2 then true else decide (y1.1.1>16)then
  some 8
 else
  some 0
def Rh(x:List ze):Option (zt×Int):=
 zb (qc x) fun y1=>
 bif y1 != 0 then
  some ((⟨0,[],0,(⟨[],[],false⟩:zV),[]⟩:zt),y1)
 else
  zb (zG (⟨x⟩:zm)) fun y2=>
  zb (zC (!(!y2.1.2)) (qp (⟨y2.1.1.kind,y2.1.1.name,y2.1.1.num,y2.1.1.decl,y2.1.1.list⟩:zt)) (default:Int)) fun y3=>
  bif bif !y2.1.2 then true else y3 != 0 then
   some ((⟨0,[],0,(⟨[],[],false⟩:zV),[]⟩:zt),12)
  else
   some ((⟨y2.1.1.kind,y2.1.1.name,y2.1.1.num,y2.1.1.decl,y2.1.1.list⟩:zt),0)
def QK(x:(Bool×Str×List ze)×zo):Option ((zL×Bool)×zo):=
 zW (X:=Bool×zo×(Int×Int×Str×Int×Str×Bool)×zL) (
   bif bif !x.1.1 then false else false then
    none
   else
    bif bif x.1.1 then x.1.2.1==[108,97,121,101,114]else false then
     zb (Dh (x.1.2.2,false)) fun y1=>
     some (LX.out (y1.2,x.2,(0,0,[],0,[],false),(⟨y1.1.kind,y1.1.selectors,y1.1.decls,(⟨y1.1.cond.kind,y1.1.cond.name,y1.1.cond.num,y1.1.cond.decl,y1.1.cond.list⟩:zt),y1.1.names,y1.1.rules⟩:zL)))
    else
     bif bif bif x.1.1 then x.1.2.1==[109,101,100,105,97]else false then false else false then
      zb (xg x.1.2.2) fun y2=>
      some (LX.out (y2.2==0,x.2,(0,0,[],0,[],false),(⟨2,[],[],(⟨y2.1.kind,y2.1.name,y2.1.num,y2.1.decl,y2.1.list⟩:zt),[],[]⟩:zL)))
     else
      bif bif bif x.1.1 then x.1.2.1==[115,117,112,112,111,114,116,115]else false then false else false then
       zb (Rh x.1.2.2) fun y3=>
       some (LX.out (y3.2==0,x.2,(0,0,[],0,[],false),(⟨3,[],[],(⟨y3.1.kind,y3.1.name,y3.1.num,y3.1.decl,y3.1.list⟩:zt),[],[]⟩:zL)))
      else
       some (LX.out (false,x.2,(0,0,[],0,[],false),(⟨0,[],[],(⟨0,[],0,(⟨[],[],false⟩:zV),[]⟩:zt),[],[]⟩:zL)))) fun j4=>
 bif !j4.1 then
  some (((⟨0,[],[],(⟨0,[],0,(⟨[],[],false⟩:zV),[]⟩:zt),[],[]⟩:zL),false),j4.2.1)
 else
  bif bif bif j4.2.2.2.kind==2 then true else j4.2.2.2.kind==3 then true else j4.2.2.2.kind==4 then
   none
  else
   some (((⟨j4.2.2.2.kind,j4.2.2.2.selectors,j4.2.2.2.decls,(⟨j4.2.2.2.cond.kind,j4.2.2.2.cond.name,j4.2.2.2.cond.num,j4.2.2.2.cond.decl,j4.2.2.2.cond.list⟩:zt),j4.2.2.2.names,j4.2.2.2.rules⟩:zL),true),(⟨w64 (j4.2.1.room - 1),j4.2.1.constructs⟩:zo))
def ym(zF:(List ze×Bool)×zo->Option (List zL×zo))(x:(Bool×Str×List ze×ze)×zo):Option ((zL×Bool)×zo):=
 zW (X:=Bool×zo×(Int×Int×Str×Int×Str×Bool)×zL) (
   bif bif !x.1.1 then true else false then
    zb (Gl (x.1.2.2.1,x.1.2.2.2.list)) fun y1=>
    some (LX.out (y1.2,x.2,(0,0,[],0,[],false),(⟨y1.1.kind,y1.1.selectors,y1.1.decls,(⟨y1.1.cond.kind,y1.1.cond.name,y1.1.cond.num,y1.1.cond.decl,y1.1.cond.list⟩:zt),y1.1.names,y1.1.rules⟩:zL)))
   else
    bif bif x.1.1 then x.1.2.1==[108,97,121,101,114]else false then
     zb (Dh (x.1.2.2.1,true)) fun y2=>
     some (LX.out (y2.2,x.2,(0,0,[],0,[],false),(⟨y2.1.kind,y2.1.selectors,y2.1.decls,(⟨y2.1.cond.kind,y2.1.cond.name,y2.1.cond.num,y2.1.cond.decl,y2.1.cond.list⟩:zt),y2.1.names,y2.1.rules⟩:zL)))
    else
     bif bif bif x.1.1 then x.1.2.1==[109,101,100,105,97]else false then true else false then
      zb (xg x.1.2.2.1) fun y3=>
      some (LX.out (y3.2==0,x.2,(0,0,[],0,[],false),(⟨2,[],[],(⟨y3.1.kind,y3.1.name,y3.1.num,y3.1.decl,y3.1.list⟩:zt),[],[]⟩:zL)))
     else
      bif bif bif x.1.1 then x.1.2.1==[115,117,112,112,111,114,116,115]else false then true else false then
       zb (Rh x.1.2.2.1) fun y4=>
       some (LX.out (y4.2==0,x.2,(0,0,[],0,[],false),(⟨3,[],[],(⟨y4.1.kind,y4.1.name,y4.1.num,y4.1.decl,y4.1.list⟩:zt),[],[]⟩:zL)))
      else
       some (LX.out (false,x.2,(0,0,[],0,[],false),(⟨0,[],[],(⟨0,[],0,(⟨[],[],false⟩:zV),[]⟩:zt),[],[]⟩:zL)))) fun j5=>
 bif !j5.1 then
  some (((⟨0,[],[],(⟨0,[],0,(⟨[],[],false⟩:zV),[]⟩:zt),[],[]⟩:zL),false),j5.2.1)
 else
  zW (X:=zo×(Int×Int×Str×Int×Str×Bool)×zL) (
    bif bif bif j5.2.2.2.kind==2 then true else j5.2.2.2.kind==3 then true else j5.2.2.2.kind==4 then
     zb (zF ((x.1.2.2.2.list,false),(⟨w64 (j5.2.1.room - 1),j5.2.1.constructs⟩:zo))) fun y6=>
     some (LX.out (y6.2,(j5.2.2.1.1,j5.2.2.1.2.1,j5.2.2.1.2.2.1,j5.2.2.1.2.2.2.1,j5.2.2.1.2.2.2.2.1,j5.2.2.1.2.2.2.2.2),(⟨j5.2.2.2.kind,j5.2.2.2.selectors,j5.2.2.2.decls,(⟨j5.2.2.2.cond.kind,j5.2.2.2.cond.name,j5.2.2.2.cond.num,j5.2.2.2.cond.decl,j5.2.2.2.cond.list⟩:zt),j5.2.2.2.names,y6.1⟩:zL)))
    else
     some (LX.out ((⟨w64 (j5.2.1.room - 1),j5.2.1.constructs⟩:zo),(j5.2.2.1.1,j5.2.2.1.2.1,j5.2.2.1.2.2.1,j5.2.2.1.2.2.2.1,j5.2.2.1.2.2.2.2.1,j5.2.2.1.2.2.2.2.2),(⟨j5.2.2.2.kind,j5.2.2.2.selectors,j5.2.2.2.decls,(⟨j5.2.2.2.cond.kind,j5.2.2.2.cond.name,j5.2.2.2.cond.num,j5.2.2.2.cond.decl,j5.2.2.2.cond.list⟩:zt),j5.2.2.2.names,j5.2.2.2.rules⟩:zL)))) fun j7=>
  some (((⟨j7.2.2.kind,j7.2.2.selectors,j7.2.2.decls,(⟨j7.2.2.cond.kind,j7.2.2.cond.name,j7.2.2.cond.num,j7.2.2.cond.decl,j7.2.2.cond.list⟩:zt),j7.2.2.names,j7.2.2.rules⟩:zL),true),j7.1)
def Qt(zF:(List ze×Bool)×zo->Option (List zL×zo))(x:(List ze×Bool)×zo):Option (List zL×zo):=
 Zu (fun(s1:List ze×zo×List zL)=>
   bif decide ((s1.1.length:Int)>0)then
    zb (Ri s1.1) fun y2=>
    bif bif y2==13 then true else bif x.1.2 then bif y2==14 then true else y2==15 else false then
     need (decide (1<=(s1.1.length:Int)))<|
     some (LO.again (List.drop 1 s1.1,s1.2.1,s1.2.2))
    else
     zW (X:=List ze×zo×List zL) (
       bif x.1.2 then
        some (LX.out (s1.1,(⟨s1.2.1.room,w64 (s1.2.1.constructs+1)⟩:zo),s1.2.2))
       else
        some (LX.out (s1.1,s1.2.1,s1.2.2))) fun j3=>
     zW (X:=(List ze×Str)×zo×List zL×List UInt8) (
       bif y2==3 then
        zb (geti j3.1 0) fun y4=>
        zb (Za y4.token.text) fun y5=>
        need (Zi 1 1 1)<|
        need (decide (1<=(j3.1.length:Int)))<|
        some (LX.out ((List.drop 1 j3.1,y5),j3.2.1,j3.2.2,[(23:UInt8),(17:UInt8)]))
       else
        some (LX.out ((j3.1,[]),j3.2.1,j3.2.2,[(23:UInt8)]))) fun j6=>
     zb (El (j6.1.1,j6.2.2.2)) fun y7=>
     zb (Ri y7.2) fun y8=>
     bif y8==23 then
      zb (geti y7.2 0) fun y9=>
      zW (X:=List ze×zo×List zL) (
        bif decide ((y7.2.length:Int)>0)then
         need (decide (1<=(y7.2.length:Int)))<|
         some (LX.out (List.drop 1 y7.2,j6.2.1,j6.2.2.1))
        else
         some (LX.out (y7.2,j6.2.1,j6.2.2.1))) fun j10=>
      bif j10.2.1.room==0 then
       some (LO.again (j10.1,j10.2.1,j10.2.2))
      else
       zb (ym zF ((y2==3,j6.1.2,y7.1,y9),j10.2.1)) fun y11=>
       bif y11.1.2 then
        need (Zi j10.2.2.length 1 208)<|
        some (LO.again (j10.1,y11.2,j10.2.2++[(⟨y11.1.1.kind,y11.1.1.selectors,y11.1.1.decls,(⟨y11.1.1.cond.kind,y11.1.1.cond.name,y11.1.1.cond.num,y11.1.1.cond.decl,y11.1.1.cond.list⟩:zt),y11.1.1.names,y11.1.1.rules⟩:zL)]))
       else
        some (LO.again (j10.1,y11.2,j10.2.2))
     else
      zW (X:=List ze×zo×List zL) (
        bif decide ((y7.2.length:Int)>0)then
         need (decide (1<=(y7.2.length:Int)))<|
         some (LX.out (List.drop 1 y7.2,j6.2.1,j6.2.2.1))
        else
         some (LX.out (y7.2,j6.2.1,j6.2.2.1))) fun j12=>
      bif j12.2.1.room==0 then
       some (LO.again (j12.1,j12.2.1,j12.2.2))
      else
       zb (QK ((y2==3,j6.1.2,y7.1),j12.2.1)) fun y13=>
       bif y13.1.2 then
        need (Zi j12.2.2.length 1 208)<|
        some (LO.again (j12.1,y13.2,j12.2.2++[(⟨y13.1.1.kind,y13.1.1.selectors,y13.1.1.decls,(⟨y13.1.1.cond.kind,y13.1.1.cond.name,y13.1.1.cond.num,y13.1.1.cond.decl,y13.1.1.cond.list⟩:zt),y13.1.1.names,y13.1.1.rules⟩:zL)]))
       else
        some (LO.again (j12.1,y13.2,j12.2.2))
   else
    some (LO.out (s1.2.1,s1.2.2)):List ze×zo×List zL->Option (LO (List ze×zo×List zL) (zo×List zL) _)) (x.1.1,x.2,[]) fun o14=>
 some (o14.2,o14.1)
def zF:(List ze×Bool)×zo->Option (List zL×zo):=recE (Qt)
def yg(x:Str):Option (List zL×Int):=
 zb (af x) fun y1=>
 bif y1.2 != 0 then
  some ([],y1.2)
 else
  zb (parseF y1.1) fun y2=>
  bif y2.2 != 0 then
   some ([],y2.2)
  else
   zb (zF ((y2.1,true),(⟨64,0⟩:zo))) fun y3=>
   none
def Bh(x:Str):Option (Qi×Int):=
 zb (yg x) fun y1=>
 bif y1.2 != 0 then
  some ((⟨[]⟩:Qi),y1.2)
 else
  some ((⟨y1.1⟩:Qi),0)
def Ih(x:Str):Option ((List zL×Int)×zo):=
 zb (af x) fun y1=>
 bif y1.2 != 0 then
  none
 else
  zb (parseF y1.1) fun y2=>
  bif y2.2 != 0 then
   none
  else
   zb (zF ((y2.1,true),(⟨64,0⟩:zo))) fun y3=>
   some ((y3.1,0),y3.2)
def ji(x:Str):Option (Qi×Int):=
 zb (Ih x) fun y1=>
 bif y1.1.2 != 0 then
  some ((⟨[]⟩:Qi),y1.1.2)
 else
  some ((⟨y1.1.1⟩:Qi),0)
def Zx(x:Str):Option (Qi×Int):=
 zb (af x) fun y1=>
 bif !(y1.2==0)then
  zb (Bh x) fun z1=>
  some z1
 else
  zb (parseF y1.1) fun y2=>
  bif !(y2.2==0)then
   zb (Bh x) fun z1=>
   some z1
  else
   zb (ji x) fun z1=>
   some z1
def ZY(x:List Str):Option Int:=
 Zu (fun(s1:Int)=>
   bif decide (s1<(x.length:Int))then
    zb (geti x s1) fun y2=>
    zb (Uh y2) fun y3=>
    bif y3 then
     some (LO.ret s1)
    else
     some (LO.again (w64 (s1+1)))
   else
    some (LO.out ()):Int->Option (LO (Int) (Unit) _)) 0 fun o4=>
 some (-1)
def ZB(x:List Str):Option Bool:=
 zb (ZY x) fun y1=>
 some (decide (y1>=0))
def Lm(x:List Str):Option Bool:=
 zb (zC (bif decide ((x.length:Int)>0)then decide ((x.length:Int)<=16)else false) (ZB x) (default:Bool)) fun y1=>
 some (bif bif decide ((x.length:Int)>0)then decide ((x.length:Int)<=16)else false then !y1 else false)
def Nl(x:List Str):Option Bool:=
 zb (Lm x) fun y1=>
 some (!y1)
def ZX(x:List (List Str)):Option Int:=
 Zu (fun(s1:Int)=>
   bif decide (s1<(x.length:Int))then
    zb (geti x s1) fun y2=>
    zb (Nl y2) fun y3=>
    bif y3 then
     some (LO.ret s1)
    else
     some (LO.again (w64 (s1+1)))
   else
    some (LO.out ()):Int->Option (LO (Int) (Unit) _)) 0 fun o4=>
 some (-1)
def ZA(x:List (List Str)):Option Bool:=
 zb (ZX x) fun y1=>
 some (decide (y1>=0))
def Sm(Zn:List zw->Option Int)(x:List zw):Option Int:=
 Zu (fun(s1:Int×Int)=>
   bif decide (s1.2<(x.length:Int))then
    zb (geti x s1.2) fun y2=>
    Zu (fun(s3:Int×Int)=>
      bif decide (s3.2<(y2.parts.length:Int))then
       zb (geti y2.parts s3.2) fun y4=>
       Zu (fun(s5:Int×Int)=>
         bif decide (s5.2<(y4.simples.length:Int))then
          zW (X:=Int×Int) (
            zb (geti y4.simples s5.2) fun y6=>
            bif bif y6.kind==3 then true else bif decide (y6.kind>=9)then !(bif bif bif y6.kind==9 then true else y6.kind==10 then !y6.of_ else false then y6.anb.a==0&&(y6.anb.b==1&&true)else false)else false then
             zb (Zn y6.list) fun y7=>
             some (LX.out (if w64 (y7+1)>s5.1 then w64 (y7+1)else s5.1,s5.2))
            else
             some (LX.out (s5.1,s5.2))) fun j8=>
          some (LO.again (j8.1,w64 (j8.2+1)))
         else
          some (LO.out s5.1):Int×Int->Option (LO (Int×Int) (Int) _)) (s3.1,0) fun o9=>
       some (LO.again (o9,w64 (s3.2+1)))
      else
       some (LO.out s3.1):Int×Int->Option (LO (Int×Int) (Int) _)) (s1.1,0) fun o10=>
    some (LO.again (o10,w64 (s1.2+1)))
   else
    some (LO.out s1.1):Int×Int->Option (LO (Int×Int) (Int) _)) (0,0) fun o11=>
 some o11
def Zn:List zw->Option Int:=recE (Sm)
def Xm(x:zw):Option Bool:=
 zb (Kh zg ((⟨x.lead,x.parts,x.combs⟩:zw),(⟨0,false⟩:zf),false)) fun y1=>
 some (!y1)
def ZL(x:List zw):Option Int:=
 Zu (fun(s1:Int)=>
   bif decide (s1<(x.length:Int))then
    zb (geti x s1) fun y2=>
    zb (Xm (⟨y2.lead,y2.parts,y2.combs⟩:zw)) fun y3=>
    bif y3 then
     some (LO.ret s1)
    else
     some (LO.again (w64 (s1+1)))
   else
    some (LO.out ()):Int->Option (LO (Int) (Unit) _)) 0 fun o4=>
 some (-1)
def Zv(x:List zw):Option Bool:=
 zb (ZL x) fun y1=>
 some (decide (y1>=0))
def Gm(x:List zw):Option Int:=
 zb (zC (!((x.length:Int)==0)) (Zv x) (default:Bool)) fun y1=>
 bif bif (x.length:Int)==0 then true else y1 then
  some 8
 else
  zb (Zl x) fun y2=>
  bif decide (y2>64)then
   some 4
  else
   some 0
def Ig(x:zt):Option Bool:=
 some (bif bif bif bif bif bif x.kind==0 then x.name==[]else false then x.num==0 else false then(x.list.length:Int)==0 else false then x.decl.name==[]else false then(x.decl.value.length:Int)==0 else false then !x.decl.important else false)
def Mm(Z8:zt->Option Int)(x:zt):Option Int:=
 zW (X:=Int) (
   bif bif x.kind==5 then true else x.kind==6 then
    some (LX.out 1)
   else
    some (LX.out 0)) fun j1=>
 Zu (fun(s2:Int×Int)=>
   bif decide (s2.2<(x.list.length:Int))then
    zb (geti x.list s2.2) fun y3=>
    zb (Z8 (⟨y3.kind,y3.name,y3.num,y3.decl,y3.list⟩:zt)) fun y4=>
    some (LO.again (if y4>s2.1 then y4 else s2.1,w64 (s2.2+1)))
   else
    some (LO.out s2.1):Int×Int->Option (LO (Int×Int) (Int) _)) (j1,0) fun o5=>
 some o5
def Z8:zt->Option Int:=recE (Mm)
def Ti(x:zt):Option Bool:=
 zb (zC (!(x.kind != 1)) (qW (⟨x.kind,x.name,x.num,x.decl,x.list⟩:zt)) (default:Bool)) fun y1=>
 bif bif bif x.kind != 1 then true else !y1 then true else(x.list.length:Int)==0 then
  some false
 else
  Zu (fun(s2:Int)=>
    bif decide (s2<(x.list.length:Int))then
     zW (X:=Int) (
       zb (geti x.list s2) fun y3=>
       zb (zC (!(decide ((y3.list.length:Int)>0))) (qW (⟨y3.kind,[],0,y3.decl,y3.list⟩:zt)) (default:Bool)) fun y4=>
       bif bif decide ((y3.list.length:Int)>0)then true else !y4 then
        some (LX.ret (LO.ret false))
       else
        bif y3.kind==4 then
         zb (zC (!(bif decide (s2>0)then true else y3.num != 0)) (Fh y3.name) (default:Bool)) fun y5=>
         bif bif bif decide (s2>0)then true else y3.num != 0 then true else !y5 then
          some (LX.ret (LO.ret false))
         else
          some (LX.out s2)
        else
         zW (X:=Bool) (
           bif y3.kind==5 then
            some (LX.out (y3.kind==5))
           else
            some (LX.out (y3.kind==6))) fun j6=>
         bif j6 then
          zb (zC (!(bif !(y3.name==[])then true else decide (y3.num<0))) (Eh y3.num) (default:Int)) fun y7=>
          bif bif bif !(y3.name==[])then true else decide (y3.num<0)then true else y7 != 0 then
           some (LX.ret (LO.ret false))
          else
           some (LX.out s2)
         else
          some (LX.ret (LO.ret false))) fun j8=>
     some (LO.again (w64 (j8+1)))
    else
     some (LO.out ()):Int->Option (LO (Int) (Unit) _)) 0 fun o9=>
  some true
def Dq(x:zt):Option Bool:=
 zb (zC (decide ((x.list.length:Int)>0)) (geti x.list 0) (default:zt)) fun y1=>
 some (bif decide ((x.list.length:Int)>0)then y1.kind==4 else false)
def Mk(x:zt):Option Bool:=
 bif x.kind==3 then
  zb (qW (⟨x.kind,x.name,x.num,x.decl,x.list⟩:zt)) fun y1=>
  zb (zC (bif y1 then(x.list.length:Int)==1 else false) (geti x.list 0) (default:zt)) fun y2=>
  zb (zC (bif y1 then(x.list.length:Int)==1 else false) (Ti (⟨y2.kind,y2.name,y2.num,y2.decl,y2.list⟩:zt)) (default:Bool)) fun y3=>
  zb (zC (bif bif y1 then(x.list.length:Int)==1 else false then y3 else false) (geti x.list 0) (default:zt)) fun y4=>
  zb (zC (bif bif y1 then(x.list.length:Int)==1 else false then y3 else false) (Dq (⟨y4.kind,y4.name,y4.num,y4.decl,y4.list⟩:zt)) (default:Bool)) fun y5=>
  some (bif bif bif y1 then(x.list.length:Int)==1 else false then y3 else false then y5 else false)
 else
  zb (Ti (⟨x.kind,x.name,x.num,x.decl,x.list⟩:zt)) fun y6=>
  some y6
def gm(x:zt):Option Bool:=
 zb (Mk (⟨x.kind,x.name,x.num,x.decl,x.list⟩:zt)) fun y1=>
 some (!y1)
def Qd(x:List zt):Option Int:=
 Zu (fun(s1:Int)=>
   bif decide (s1<(x.length:Int))then
    zb (geti x s1) fun y2=>
    zb (gm (⟨y2.kind,y2.name,y2.num,y2.decl,y2.list⟩:zt)) fun y3=>
    bif y3 then
     some (LO.ret s1)
    else
     some (LO.again (w64 (s1+1)))
   else
    some (LO.out ()):Int->Option (LO (Int) (Unit) _)) 0 fun o4=>
 some (-1)
def qf(x:List zt):Option Bool:=
 zb (Qd x) fun y1=>
 some (decide (y1>=0))
def Rm(x:zt):Option Int:=
 zb (zC (bif bif x.kind==2 then decide ((x.list.length:Int)>0)else false then decide ((x.list.length:Int)<=64)else false) (qf x.list) (default:Bool)) fun y1=>
 zb (qW (⟨x.kind,x.name,x.num,x.decl,x.list⟩:zt)) fun y2=>
 bif bif !y2 then true else bif !(bif x.kind==1 then(x.list.length:Int)==0 else false)then !(bif bif bif x.kind==2 then decide ((x.list.length:Int)>0)else false then decide ((x.list.length:Int)<=64)else false then !y1 else false)else false then
  some 8
 else
  some 0
def Ll(qP:zt->Option Int)(x:zt):Option Int:=
 bif x.kind==7 then
  zb (Vf x.decl.value) fun y1=>
  some (w64 (y1.1+1))
 else
  bif x.kind==8 then
   some 1
  else
   Zu (fun(s2:Int×Int)=>
     bif decide (s2.2<(x.list.length:Int))then
      zb (geti x.list s2.2) fun y3=>
      zb (qP (⟨y3.kind,y3.name,y3.num,y3.decl,y3.list⟩:zt)) fun y4=>
      zW (X:=Int×Int) (
        bif bif y3.kind != 7 then y3.kind != 8 else false then
         some (LX.out (s2.1,w64 (y4+1)))
        else
         some (LX.out (s2.1,y4))) fun j5=>
      some (LO.again (if j5.2>j5.1 then j5.2 else j5.1,w64 (s2.2+1)))
     else
      some (LO.out s2.1):Int×Int->Option (LO (Int×Int) (Int) _)) (0,0) fun o6=>
   some o6
def qP:zt->Option Int:=recE (Ll)
def Ml(qd:List zL->Option zB)(x:List zL):Option zB:=
 Zu (fun(s1:Int×zB)=>
   bif decide (s1.1<(x.length:Int))then
    zb (geti x s1.1) fun y2=>
    zb (qd y2.rules) fun y3=>
    zb (ZA y2.names) fun y4=>
    zW (X:=(Int×Bool)×zB×zB) (
      bif y2.kind==1 then
       zb (Zn y2.selectors) fun y5=>
       zb (zC (!(bif y3.bad then true else y4)) (Gm y2.selectors) (default:Int)) fun y6=>
       zb (zC (!(bif bif bif y3.bad then true else y4 then true else y6 != 0 then true else decide ((y2.decls.length:Int)>32))) (Ig (⟨y2.cond.kind,y2.cond.name,y2.cond.num,y2.cond.decl,y2.cond.list⟩:zt)) (default:Bool)) fun y7=>
       Zu (fun(s8:(Bool×Int)×zB)=>
         bif decide (s8.1.2<(y2.decls.length:Int))then
          zb (geti y2.decls s8.1.2) fun y9=>
          zb (Vf y9.value) fun y10=>
          zb (zC (!(bif s8.1.1 then true else y10.2 != 0)) (Yf y9) (default:Int)) fun y11=>
          some (LO.again ((bif bif s8.1.1 then true else y10.2 != 0 then true else y11 != 0,w64 (s8.1.2+1)),(⟨s8.2.rules,if y10.1>s8.2.depth then y10.1 else s8.2.depth,s8.2.bad⟩:zB)))
         else
          some (LO.out (s8.1.1,s8.2)):(Bool×Int)×zB->Option (LO ((Bool×Int)×zB) (Bool×zB) _)) ((bif bif bif bif bif y3.bad then true else y4 then true else y6 != 0 then true else decide ((y2.decls.length:Int)>32)then true else !y7 then true else decide (w64 ((y2.names.length:Int)+(y2.rules.length:Int))>0),0),y3) fun o12=>
       some (LX.out ((y5,o12.1),(⟨w64 (s1.2.rules+w64 (y3.rules+1)),s1.2.depth,s1.2.bad⟩:zB),o12.2))
      else
       bif y2.kind==2 then
        zb (Z8 (⟨y2.cond.kind,y2.cond.name,y2.cond.num,y2.cond.decl,y2.cond.list⟩:zt)) fun y13=>
        zb (zC (!(bif bif bif y3.bad then true else y4 then true else decide (w64 ((y2.selectors.length:Int)+(y2.decls.length:Int))>0)then true else decide ((y2.names.length:Int)>0))) (Rm (⟨y2.cond.kind,y2.cond.name,y2.cond.num,y2.cond.decl,y2.cond.list⟩:zt)) (default:Int)) fun y14=>
        some (LX.out ((y13,bif bif bif bif y3.bad then true else y4 then true else decide (w64 ((y2.selectors.length:Int)+(y2.decls.length:Int))>0)then true else decide ((y2.names.length:Int)>0)then true else y14 != 0),(⟨w64 (s1.2.rules+w64 (y3.rules+1)),s1.2.depth,s1.2.bad⟩:zB),y3))
       else
        bif y2.kind==3 then
         zb (qP (⟨y2.cond.kind,y2.cond.name,y2.cond.num,y2.cond.decl,y2.cond.list⟩:zt)) fun y15=>
         zb (zC (!(bif bif bif y3.bad then true else y4 then true else decide (w64 ((y2.selectors.length:Int)+(y2.decls.length:Int))>0)then true else decide ((y2.names.length:Int)>0))) (qp (⟨y2.cond.kind,y2.cond.name,y2.cond.num,y2.cond.decl,y2.cond.list⟩:zt)) (default:Int)) fun y16=>
         some (LX.out ((y15,bif bif bif bif y3.bad then true else y4 then true else decide (w64 ((y2.selectors.length:Int)+(y2.decls.length:Int))>0)then true else decide ((y2.names.length:Int)>0)then true else y16 != 0),(⟨w64 (s1.2.rules+w64 (y3.rules+1)),s1.2.depth,s1.2.bad⟩:zB),y3))
        else
         bif y2.kind==4 then
          zb (zC (!(bif bif bif y3.bad then true else y4 then true else decide (w64 ((y2.selectors.length:Int)+(y2.decls.length:Int))>0)then true else decide ((y2.names.length:Int)>1))) (Ig (⟨y2.cond.kind,y2.cond.name,y2.cond.num,y2.cond.decl,y2.cond.list⟩:zt)) (default:Bool)) fun y17=>
          some (LX.out ((0,bif bif bif bif y3.bad then true else y4 then true else decide (w64 ((y2.selectors.length:Int)+(y2.decls.length:Int))>0)then true else decide ((y2.names.length:Int)>1)then true else !y17),(⟨w64 (s1.2.rules+w64 (y3.rules+1)),s1.2.depth,s1.2.bad⟩:zB),y3))
         else
          bif y2.kind==5 then
           zb (zC (!(bif bif bif bif bif y3.bad then true else y4 then true else decide (w64 ((y2.selectors.length:Int)+(y2.decls.length:Int))>0)then true else decide ((y2.names.length:Int)<1)then true else decide ((y2.names.length:Int)>64)then true else decide ((y2.rules.length:Int)>0))) (Ig (⟨y2.cond.kind,y2.cond.name,y2.cond.num,y2.cond.decl,y2.cond.list⟩:zt)) (default:Bool)) fun y18=>
           some (LX.out ((0,bif bif bif bif bif bif y3.bad then true else y4 then true else decide (w64 ((y2.selectors.length:Int)+(y2.decls.length:Int))>0)then true else decide ((y2.names.length:Int)<1)then true else decide ((y2.names.length:Int)>64)then true else decide ((y2.rules.length:Int)>0)then true else !y18),(⟨w64 (s1.2.rules+w64 (y3.rules+1)),s1.2.depth,s1.2.bad⟩:zB),(⟨y3.rules,(-1),y3.bad⟩:zB)))
          else
           some (LX.out ((0,true),(⟨w64 (s1.2.rules+w64 (y3.rules+1)),s1.2.depth,s1.2.bad⟩:zB),y3))) fun j19=>
    some (LO.again (w64 (s1.1+1),(⟨j19.2.1.rules,if j19.1.1>(if w64 (j19.2.2.depth+1)>j19.2.1.depth then w64 (j19.2.2.depth+1)else j19.2.1.depth)then j19.1.1 else if w64 (j19.2.2.depth+1)>j19.2.1.depth then w64 (j19.2.2.depth+1)else j19.2.1.depth,bif j19.2.1.bad then true else j19.1.2⟩:zB)))
   else
    some (LO.out s1.2):Int×zB->Option (LO (Int×zB) (zB) _)) (0,(⟨0,0,false⟩:zB)) fun o20=>
 some o20
def qd:List zL->Option zB:=recE (Ml)
def Il(x:List zL):Option Int:=
 zb (qd x) fun y1=>
 bif bif bif y1.bad then true else decide (y1.rules>64)then true else decide (y1.depth>16)then
  some 8
 else
  some 0
def df(x:Qi):Option Int:=
 zb (Il x.rules) fun y1=>
 some y1
def Zg(x:Str×List UInt8):Option Bool:=
 zb (Zx x.1) fun y1=>
 zb (zC (!(bif y1.2 != 0 then true else(y1.1.rules.length:Int) != (x.2.length:Int))) (df y1.1) (default:Int)) fun y2=>
 bif bif bif y1.2 != 0 then true else(y1.1.rules.length:Int) != (x.2.length:Int)then true else y2 != 0 then
  some false
 else
  Zu (fun(s3:Int)=>
    bif decide (s3<(x.2.length:Int))then
     zb (geti y1.1.rules s3) fun y4=>
     zb (geti x.2 s3) fun y5=>
     bif y4.kind != (y5.toNat:Int)then
      some (LO.ret false)
     else
      some (LO.again (w64 (s3+1)))
    else
     some (LO.out ()):Int->Option (LO (Int) (Unit) _)) 0 fun o6=>
  some true
def ai(x:Qi):Option (Int×Int):=
 zb (qd x.rules) fun y1=>
 zb (df x) fun y2=>
 bif y2 != 0 then
  some (0,y2)
 else
  some (y1.rules,0)
def Ah(x:Str):Option (zL×Int):=
 zb (yg x) fun y1=>
 bif y1.2 != 0 then
  some ((⟨0,[],[],(⟨0,[],0,(⟨[],[],false⟩:zV),[]⟩:zt),[],[]⟩:zL),y1.2)
 else
  none
def di(x:Str):Option (zL×Int):=
 zb (Ih x) fun y1=>
 bif y1.1.2 != 0 then
  some ((⟨0,[],[],(⟨0,[],0,(⟨[],[],false⟩:zV),[]⟩:zt),[],[]⟩:zL),y1.1.2)
 else
  bif bif (y1.1.1.length:Int) != 1 then true else y1.2.constructs != 1 then
   some ((⟨0,[],[],(⟨0,[],0,(⟨[],[],false⟩:zV),[]⟩:zt),[],[]⟩:zL),12)
  else
   zb (geti y1.1.1 0) fun y2=>
   some ((⟨y2.kind,y2.selectors,y2.decls,(⟨y2.cond.kind,y2.cond.name,y2.cond.num,y2.cond.decl,y2.cond.list⟩:zt),y2.names,y2.rules⟩:zL),0)
def qY(x:Str):Option (zL×Int):=
 zb (af x) fun y1=>
 bif !(y1.2==0)then
  zb (Ah x) fun z1=>
  some z1
 else
  zb (parseF y1.1) fun y2=>
  bif !(y2.2==0)then
   zb (Ah x) fun z1=>
   some z1
  else
   zb (di x) fun z1=>
   some z1
def uk(x:Unit):Option Bool:=
 zb (Zx [97,123,98,58,99,125,32,120,32,121,59,32,100,123,101,58,102,125,32,64,109,101,100,105,97,32,112,114,105,110,116,123,103,123,125,125,32,64,108,97,121,101,114,32,112,46,113,44,32,114,59,32,64,102,111,110,116,45,102,97,99,101,123,125]) fun y1=>
 zb (zC (!(y1.2 != 0)) (Zg ([97,123,98,58,99,125,32,120,32,121,59,32,100,123,101,58,102,125,32,64,109,101,100,105,97,32,112,114,105,110,116,123,103,123,125,125,32,64,108,97,121,101,114,32,112,46,113,44,32,114,59,32,64,102,111,110,116,45,102,97,99,101,123,125],[(1:UInt8),(2:UInt8),(5:UInt8)])) (default:Bool)) fun y2=>
 zb (zC (!(bif y1.2 != 0 then true else !y2)) (geti y1.1.rules 1) (default:zL)) fun y3=>
 bif bif bif y1.2 != 0 then true else !y2 then true else(y3.rules.length:Int) != 1 then
  some false
 else
  zb (geti y1.1.rules 2) fun y4=>
  zb (zC ((y4.names.length:Int)==2) (geti y4.names 0) (default:List Str)) fun y5=>
  zb (zC (bif (y4.names.length:Int)==2 then(y5.length:Int)==2 else false) (geti y4.names 0) (default:List Str)) fun y6=>
  zb (zC (bif (y4.names.length:Int)==2 then(y5.length:Int)==2 else false) (geti y6 0) (default:Str)) fun y7=>
  zb (zC (bif bif (y4.names.length:Int)==2 then(y5.length:Int)==2 else false then y7==[112]else false) (geti y4.names 0) (default:List Str)) fun y8=>
  zb (zC (bif bif (y4.names.length:Int)==2 then(y5.length:Int)==2 else false then y7==[112]else false) (geti y8 1) (default:Str)) fun y9=>
  zb (zC (bif bif bif (y4.names.length:Int)==2 then(y5.length:Int)==2 else false then y7==[112]else false then y9==[113]else false) (geti y4.names 1) (default:List Str)) fun y10=>
  zb (zC (bif bif bif bif (y4.names.length:Int)==2 then(y5.length:Int)==2 else false then y7==[112]else false then y9==[113]else false then(y10.length:Int)==1 else false) (geti y4.names 1) (default:List Str)) fun y11=>
  zb (zC (bif bif bif bif (y4.names.length:Int)==2 then(y5.length:Int)==2 else false then y7==[112]else false then y9==[113]else false then(y10.length:Int)==1 else false) (geti y11 0) (default:Str)) fun y12=>
  some (bif bif bif bif bif (y4.names.length:Int)==2 then(y5.length:Int)==2 else false then y7==[112]else false then y9==[113]else false then(y10.length:Int)==1 else false then y12==[114]else false)
def uq(x:Unit):Option Bool:=
 zb (Zg ([],[])) fun y1=>
 zb (zC y1 (Zg ([32,60,33,45,45,32,97,123,125,32,45,45,62,32],[(1:UInt8)])) (default:Bool)) fun y2=>
 zb (zC (bif y1 then y2 else false) (Zg ([65,44,98,123,99,58,100,59,101,125,102,123],[(1:UInt8),(1:UInt8)])) (default:Bool)) fun y3=>
 zb (zC (bif bif y1 then y2 else false then y3 else false) (Zg ([64,77,69,68,73,65,123,97,123,125,125,64,115,117,112,112,111,114,116,115,32,40,97,58,98,41,123,125],[(2:UInt8),(3:UInt8)])) (default:Bool)) fun y4=>
 zb (zC (bif bif bif y1 then y2 else false then y3 else false then y4 else false) (Zg ([64,108,97,121,101,114,123,125,64,108,97,121,101,114,32,97,46,98,32,123,99,123,125,125,32,64,108,97,121,101,114,32,100,59,64,108,97,121,101,114,32,101,44,102],[(4:UInt8),(4:UInt8),(5:UInt8),(5:UInt8)])) (default:Bool)) fun y5=>
 zb (Zg ([97],[])) fun y6=>
 zb (zC y6 (Zg ([123,125],[])) (default:Bool)) fun y7=>
 zb (zC (bif y6 then y7 else false) (Zg ([97,59,98,123,125],[])) (default:Bool)) fun y8=>
 zb (zC (bif bif y6 then y7 else false then y8 else false) (Zg ([64,109,101,100,105,97,32,112,114,105,110,116,59],[])) (default:Bool)) fun y9=>
 zb (zC (bif bif bif y6 then y7 else false then y8 else false then y9 else false) (Zg ([64,109,101,100,105,97,32,112,114,105,110,116],[])) (default:Bool)) fun y10=>
 zb (zC (bif bif bif bif y6 then y7 else false then y8 else false then y9 else false then y10 else false) (Zg ([64,115,117,112,112,111,114,116,115,32,120,123,97,123,125,125],[])) (default:Bool)) fun y11=>
 zb (zC (bif bif bif bif bif y6 then y7 else false then y8 else false then y9 else false then y10 else false then y11 else false) (Zg ([64,108,97,121,101,114,59],[])) (default:Bool)) fun y12=>
 zb (zC (bif bif bif bif bif bif y6 then y7 else false then y8 else false then y9 else false then y10 else false then y11 else false then y12 else false) (Zg ([64,108,97,121,101,114,32,97,32,98,59,64,108,97,121,101,114,32,97,44,59,64,108,97,121,101,114,32,97,44,98,123,125,64,108,97,121,101,114,32,46,97,123,125,64,108,97,121,101,114,32,97,46,32,98,59,64,108,97,121,101,114,32,49,59],[])) (default:Bool)) fun y13=>
 zb (zC (bif bif bif bif bif bif bif y6 then y7 else false then y8 else false then y9 else false then y10 else false then y11 else false then y12 else false then y13 else false) (Zg ([64,105,109,112,111,114,116,32,39,120,39,59,64,120,123,97,123,125,125,98,123,125],[(1:UInt8)])) (default:Bool)) fun y14=>
 zb (zC (bif bif bif bif bif bif bif bif y6 then y7 else false then y8 else false then y9 else false then y10 else false then y11 else false then y12 else false then y13 else false then y14 else false) (Zg ([97,123,125,125,98,123,125],[(1:UInt8)])) (default:Bool)) fun y15=>
 zb (zC (bif bif bif bif bif bif bif bif bif y6 then y7 else false then y8 else false then y9 else false then y10 else false then y11 else false then y12 else false then y13 else false then y14 else false then y15 else false) (Zg ([64,109,101,100,105,97,123,45,45,62,32,97,123,125,98,123,125,125],[(2:UInt8)])) (default:Bool)) fun y16=>
 zb (zC (bif bif bif bif bif bif bif bif bif bif y6 then y7 else false then y8 else false then y9 else false then y10 else false then y11 else false then y12 else false then y13 else false then y14 else false then y15 else false then y16 else false) (Zg ([64,109,101,100,105,97,123,64,120,59,97,123,125,125],[(2:UInt8)])) (default:Bool)) fun y17=>
 zb (zC (bif bif bif bif bif bif bif bif bif bif bif y6 then y7 else false then y8 else false then y9 else false then y10 else false then y11 else false then y12 else false then y13 else false then y14 else false then y15 else false then y16 else false then y17 else false) (Zg ([64,99,104,97,114,115,101,116,32,34,120,34,32,97,123,125,98,123,125],[(1:UInt8)])) (default:Bool)) fun y18=>
 zb (Zx [64,109,101,100,105,97,123,45,45,62,32,97,123,125,98,123,125,125]) fun y19=>
 zb (Zx [64,109,101,100,105,97,123,64,120,59,97,123,125,64,108,97,121,101,114,32,98,59,99,125]) fun y20=>
 zb (zC (!(bif bif bif y19.2 != 0 then true else y20.2 != 0 then true else(y19.1.rules.length:Int) != 1 then true else(y20.1.rules.length:Int) != 1)) (geti y19.1.rules 0) (default:zL)) fun y21=>
 zb (zC (!(bif bif bif bif y19.2 != 0 then true else y20.2 != 0 then true else(y19.1.rules.length:Int) != 1 then true else(y20.1.rules.length:Int) != 1 then true else(y21.rules.length:Int) != 1)) (geti y20.1.rules 0) (default:zL)) fun y22=>
 bif bif bif bif bif bif y19.2 != 0 then true else y20.2 != 0 then true else(y19.1.rules.length:Int) != 1 then true else(y20.1.rules.length:Int) != 1 then true else(y21.rules.length:Int) != 1 then true else(y22.rules.length:Int) != 2 then
  some false
 else
  Zu (fun(s23:Str×Str×Int)=>
    bif decide (s23.2.2<65)then
     need (Bd s23.1.length ([97,123,125]:Str).length)<|
     need (Bd s23.2.1.length ([64,108,97,121,101,114,123]:Str).length)<|
     some (LO.again (s23.1++([97,123,125]:Str),s23.2.1++([64,108,97,121,101,114,123]:Str),w64 (s23.2.2+1)))
    else
     some (LO.out (s23.1,s23.2.1)):Str×Str×Int->Option (LO (Str×Str×Int) (Str×Str) _)) ([],[],0) fun o24=>
  zb (Zx o24.1) fun y25=>
  zb (ai y25.1) fun y26=>
  need (decide (119<=(o24.2.length:Int)))<|
  zb (Zx (List.take 119 o24.2)) fun y27=>
  need (decide (105<=(o24.2.length:Int)))<|
  need (Bd (List.take 105 o24.2).length ([97,123,98,58,99]:Str).length)<|
  zb (Zx (List.take 105 o24.2++([97,123,98,58,99]:Str))) fun y28=>
  zb (ai y28.1) fun y29=>
  need (decide (120<=(o24.1.length:Int)))<|
  need (Bd ([64,108,97,121,101,114,123]:Str).length (List.take 120 o24.1).length)<|
  need (Bd (([64,108,97,121,101,114,123]:Str)++List.take 120 o24.1).length ([125]:Str).length)<|
  need (decide (120<=(o24.1.length:Int)))<|
  need (Bd (([64,108,97,121,101,114,123]:Str)++List.take 120 o24.1++([125]:Str)).length (List.take 120 o24.1).length)<|
  zb (Zx (([64,108,97,121,101,114,123]:Str)++List.take 120 o24.1++([125]:Str)++List.take 120 o24.1)) fun y30=>
  zb (Zx (List.replicate (Int.toNat 4001) (0:UInt8))) fun y31=>
  zb (qY [97,123,125,98,123,125]) fun y32=>
  zb (qY [97,123,125,32,120]) fun y33=>
  zb (qY [32,97,123,98,58,99,125,60,33,45,45,32]) fun y34=>
  zb (qY [64,120,59]) fun y35=>
  zb (qY []) fun y36=>
  zb (qY [40,40,40,40,40,40,40,40,40,40,40,40,40,40,40,40,40,40]) fun y37=>
  zb (zC (!((y30.1.rules.length:Int) != 24)) (geti y30.1.rules 0) (default:zL)) fun y38=>
  bif bif (y30.1.rules.length:Int) != 24 then true else(y38.rules.length:Int) != 40 then
   some false
  else
   need (Zi 1 y25.1.rules.length 208)<|
   zb (zC (bif bif bif bif bif bif bif bif bif bif bif bif bif bif bif bif bif bif bif bif bif y1 then y2 else false then y3 else false then y4 else false then y5 else false then bif bif bif bif bif bif bif bif bif bif bif bif y6 then y7 else false then y8 else false then y9 else false then y10 else false then y11 else false then y12 else false then y13 else false then y14 else false then y15 else false then y16 else false then y17 else false then y18 else false else false then y25.2==0 else false then y26.2==0 else false then y26.1==64 else false then y27.2==20 else false then y28.2==0 else false then y29.2==0 else false then y29.1==16 else false then y30.2==0 else false then y31.2==28 else false then y32.2==12 else false then y33.2==12 else false then y34.2==0 else false then y34.1.kind==1 else false then y35.2==12 else false then y36.2==12 else false then y37.2==20 else false) (df (⟨[(⟨4,[],[],(⟨0,[],0,(⟨[],[],false⟩:zV),[]⟩:zt),[],[]⟩:zL)]++y25.1.rules⟩:Qi)) (default:Int)) fun y39=>
   zb (zC (bif bif bif bif bif bif bif bif bif bif bif bif bif bif bif bif bif bif bif bif bif bif y1 then y2 else false then y3 else false then y4 else false then y5 else false then bif bif bif bif bif bif bif bif bif bif bif bif y6 then y7 else false then y8 else false then y9 else false then y10 else false then y11 else false then y12 else false then y13 else false then y14 else false then y15 else false then y16 else false then y17 else false then y18 else false else false then y25.2==0 else false then y26.2==0 else false then y26.1==64 else false then y27.2==20 else false then y28.2==0 else false then y29.2==0 else false then y29.1==16 else false then y30.2==0 else false then y31.2==28 else false then y32.2==12 else false then y33.2==12 else false then y34.2==0 else false then y34.1.kind==1 else false then y35.2==12 else false then y36.2==12 else false then y37.2==20 else false then y39==8 else false) (uk ()) (default:Bool)) fun y40=>
   some (bif bif bif bif bif bif bif bif bif bif bif bif bif bif bif bif bif bif bif bif bif bif bif y1 then y2 else false then y3 else false then y4 else false then y5 else false then bif bif bif bif bif bif bif bif bif bif bif bif y6 then y7 else false then y8 else false then y9 else false then y10 else false then y11 else false then y12 else false then y13 else false then y14 else false then y15 else false then y16 else false then y17 else false then y18 else false else false then y25.2==0 else false then y26.2==0 else false then y26.1==64 else false then y27.2==20 else false then y28.2==0 else false then y29.2==0 else false then y29.1==16 else false then y30.2==0 else false then y31.2==28 else false then y32.2==12 else false then y33.2==12 else false then y34.2==0 else false then y34.1.kind==1 else false then y35.2==12 else false then y36.2==12 else false then y37.2==20 else false then y39==8 else false then y40 else false)
end Go.Lv.VT
end
