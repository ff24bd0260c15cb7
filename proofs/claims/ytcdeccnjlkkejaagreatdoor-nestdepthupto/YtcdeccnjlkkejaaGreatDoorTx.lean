/- Texts. -/
import Derived.Test.YtcdeccnjlkkejaaGreatDoorTy
import Derived.Test.YtcdeccnjlkkejaaGreatDoorLf
noncomputable section
set_option linter.unusedSimpArgs false
set_option linter.unusedVariables false
namespace Go.Lv.VT
set_option maxRecDepth 100000
def gq(x:Int):Option Int:=
 bif x==19 then
  some 20
 else
  zR (X:=Bool) (
    bif x==21 then
     some (LX.out (x==21))
    else
     some (LX.out (x==2))) fun j1=>
  bif j1 then
   some 22
  else
   bif x==23 then
    some 24
   else
    some 0
def stringslite_HasPrefix(x:Str×Str):Option Bool:=
 need (decide (0<=(x.2.length:Int))&&decide ((x.2.length:Int)<=(x.1.length:Int))|| !(decide ((x.1.length:Int)>=(x.2.length:Int))))<|
 some (bif decide ((x.1.length:Int)>=(x.2.length:Int))then List.take x.2.length x.1==x.2 else false)
def strings_HasPrefix(x:Str×Str):Option Bool:=
 zf (stringslite_HasPrefix (x.1,x.2)) fun y1=>
 some y1
def Ze(x:za):Option za:=
 Qv (fun(s1:za)=>
   need (decide (0<=s1.at_)&&decide (s1.at_<=(s1.s.length:Int)))<|
   zf (strings_HasPrefix (List.drop s1.at_.toNat s1.s,[47,42])) fun y2=>
   bif y2 then
    need (decide (0<=w64 (s1.at_+2))&&decide (w64 (s1.at_+2)<=(s1.s.length:Int)))<|
    zf (Lj (List.drop (w64 (s1.at_+2)).toNat s1.s,[42,47])) fun y3=>
    bif decide (y3<0)then
     some (LO.ret (⟨s1.s,(s1.s.length:Int)⟩:za))
    else
     some (LO.again (⟨s1.s,w64 (s1.at_+w64 (y3+4))⟩:za))
   else
    some (LO.out s1):za->Option (LO (za) (za) _)) x fun o4=>
 some o4
def zb(x:Int×za):Option Int:=
 bif decide (w64 (x.2.at_+x.1)<(x.2.s.length:Int))then
  zf (geti x.2.s (w64 (x.2.at_+x.1))) fun y1=>
  some (w64 (y1.toNat:Int))
 else
  some (-1)
def Za(x:Int):Option Bool:=
 some (bif bif x==32 then true else x==9 then true else x==10)
def zG(x:za):Option za:=
 Qv (fun(s1:za)=>
   zf (zb (0,s1)) fun y2=>
   zf (Za y2) fun y3=>
   bif y3 then
    some (LO.again (⟨s1.s,w64 (s1.at_+1)⟩:za))
   else
    some (LO.out s1):za->Option (LO (za) (za) _)) x fun o4=>
 some o4
def qp(x:Int):Option (List UInt8):=
 bif decide (wu32 x<=2047)then
  zf (ZP (ibOr IntKind.u8 192 (wu8 (og IntKind.i32 x 6)))) fun y1=>
  zf (ZP (ibOr IntKind.u8 128 (pg IntKind.u8 (wu8 x) 63))) fun y2=>
  need (zJ 0 2 1)<|
  some [y1,y2]
 else
  zR (X:=Bool) (
    bif decide (wu32 x<55296)then
     some (LX.out (decide (wu32 x<55296)))
    else
     some (LX.out (bif decide (57343<wu32 x)then decide (wu32 x<=65535)else false))) fun j3=>
  bif j3 then
   zf (ZP (ibOr IntKind.u8 224 (wu8 (og IntKind.i32 x 12)))) fun y4=>
   zf (ZP (ibOr IntKind.u8 128 (pg IntKind.u8 (wu8 (og IntKind.i32 x 6)) 63))) fun y5=>
   zf (ZP (ibOr IntKind.u8 128 (pg IntKind.u8 (wu8 x) 63))) fun y6=>
   need (zJ 0 3 1)<|
   some [y4,y5,y6]
  else
   bif bif decide (wu32 x>65535)then decide (wu32 x<=1114111)else false then
    zf (ZP (ibOr IntKind.u8 240 (wu8 (og IntKind.i32 x 18)))) fun y7=>
    zf (ZP (ibOr IntKind.u8 128 (pg IntKind.u8 (wu8 (og IntKind.i32 x 12)) 63))) fun y8=>
    zf (ZP (ibOr IntKind.u8 128 (pg IntKind.u8 (wu8 (og IntKind.i32 x 6)) 63))) fun y9=>
    zf (ZP (ibOr IntKind.u8 128 (pg IntKind.u8 (wu8 x) 63))) fun y10=>
    need (zJ 0 4 1)<|
    some [y7,y8,y9,y10]
   else
    need (zJ 0 3 1)<|
    some [(239:UInt8),(191:UInt8),(189:UInt8)]
def ZR(x:Int):Option (List UInt8):=
 bif decide (wu32 x<=127)then
  zf (ZP (wu8 x)) fun y1=>
  need (zJ 0 1 1)<|
  some [y1]
 else
  zf (qp x) fun y2=>
  some y2
def ZO(x:Int×Int×Int):Option Bool:=
 some (bif decide (x.2.1<=x.1)then decide (x.1<=x.2.2)else false)
def Zj(x:Int):Option Bool:=
 zf (ZO (x,48,57)) fun y1=>
 some y1
def Qh(x:Int):Option Int:=
 zf (Zj x) fun y1=>
 bif y1 then
  some (w64 (x - 48))
 else
  zf (zU (x != (-1)) (ZO (ibOr IntKind.i64 x 32,97,102)) (default:Bool)) fun y2=>
  bif bif bif bif x != (-1)then y2 else false then decide (x>64)else false then decide (x<128)else false then
   some (w64 (w64 (ibOr IntKind.i64 x 32 - 97)+10))
  else
   some (-1)
def Zo(x:za):Option (za×List UInt8):=
 zf (zb (0,(⟨x.s,w64 (x.at_+1)⟩:za))) fun y1=>
 bif y1==(-1)then
  zf (ZR 65533) fun y2=>
  some ((⟨x.s,w64 (x.at_+1)⟩:za),y2)
 else
  zf (Qh y1) fun y3=>
  bif decide (y3<0)then
   zf (ZP (wu8 y1)) fun y4=>
   need (zJ 0 1 1)<|
   some ((⟨x.s,w64 (w64 (x.at_+1)+1)⟩:za),[y4])
  else
   Qv (fun(s5:(Int×Int)×za)=>
     bif decide (s5.1.2<6)then
      zf (zb (0,s5.2)) fun y6=>
      zf (Qh y6) fun y7=>
      bif decide (y7<0)then
       some (LO.out (s5.1.1,s5.2))
      else
       some (LO.again ((ibOr IntKind.i64 (pq IntKind.i64 s5.1.1 4) y7,w64 (s5.1.2+1)),(⟨s5.2.s,w64 (s5.2.at_+1)⟩:za)))
     else
      some (LO.out (s5.1.1,s5.2)):(Int×Int)×za->Option (LO ((Int×Int)×za) (Int×za) _)) ((0,0),(⟨x.s,w64 (x.at_+1)⟩:za)) fun o8=>
   zR (X:=Int×za) (
     zf (zb (0,o8.2)) fun y9=>
     zf (Za y9) fun y10=>
     bif y10 then
      some (LX.out (o8.1,(⟨o8.2.s,w64 (o8.2.at_+1)⟩:za)))
     else
      some (LX.out (o8.1,o8.2))) fun j11=>
   zR (X:=Int) (
     bif j11.1==0 then
      some (LX.out 65533)
     else
      some (LX.out j11.1)) fun j12=>
   zf (ZR (w32 j12)) fun y13=>
   some (j11.2,y13)
def qw(x:Int×List UInt8):Option (List UInt8):=
 bif decide (wu32 x.1<=2047)then
  zf (ZP (ibOr IntKind.u8 192 (wu8 (og IntKind.i32 x.1 6)))) fun y1=>
  zf (ZP (ibOr IntKind.u8 128 (pg IntKind.u8 (wu8 x.1) 63))) fun y2=>
  need (zJ x.2.length 2 1)<|
  some (x.2++[y1,y2])
 else
  zR (X:=Bool×List UInt8) (
    bif decide (wu32 x.1<55296)then
     some (LX.out (decide (wu32 x.1<55296),x.2))
    else
     some (LX.out (bif decide (57343<wu32 x.1)then decide (wu32 x.1<=65535)else false,x.2))) fun j3=>
  bif j3.1 then
   zf (ZP (ibOr IntKind.u8 224 (wu8 (og IntKind.i32 x.1 12)))) fun y4=>
   zf (ZP (ibOr IntKind.u8 128 (pg IntKind.u8 (wu8 (og IntKind.i32 x.1 6)) 63))) fun y5=>
   zf (ZP (ibOr IntKind.u8 128 (pg IntKind.u8 (wu8 x.1) 63))) fun y6=>
   need (zJ j3.2.length 3 1)<|
   some (j3.2++[y4,y5,y6])
  else
   bif bif decide (wu32 x.1>65535)then decide (wu32 x.1<=1114111)else false then
    zf (ZP (ibOr IntKind.u8 240 (wu8 (og IntKind.i32 x.1 18)))) fun y7=>
    zf (ZP (ibOr IntKind.u8 128 (pg IntKind.u8 (wu8 (og IntKind.i32 x.1 12)) 63))) fun y8=>
    zf (ZP (ibOr IntKind.u8 128 (pg IntKind.u8 (wu8 (og IntKind.i32 x.1 6)) 63))) fun y9=>
    zf (ZP (ibOr IntKind.u8 128 (pg IntKind.u8 (wu8 x.1) 63))) fun y10=>
    need (zJ j3.2.length 4 1)<|
    some (j3.2++[y7,y8,y9,y10])
   else
    need (zJ j3.2.length 3 1)<|
    some (j3.2++[(239:UInt8),(191:UInt8),(189:UInt8)])
def ZT(x:Int×List UInt8):Option (List UInt8):=
 bif decide (wu32 x.1<=127)then
  zf (ZP (wu8 x.1)) fun y1=>
  need (zJ x.2.length 1 1)<|
  some (x.2++[y1])
 else
  zf (qw (x.1,x.2)) fun y2=>
  some y2
def zA(x:za×List UInt8):Option (za×List UInt8):=
 zf (zb (0,(⟨x.1.s,w64 (x.1.at_+1)⟩:za))) fun y1=>
 bif y1==(-1)then
  zf (ZT (65533,x.2)) fun y2=>
  some ((⟨x.1.s,w64 (x.1.at_+1)⟩:za),y2)
 else
  zf (Qh y1) fun y3=>
  bif decide (y3<0)then
   zf (ZP (wu8 y1)) fun y4=>
   need (zJ x.2.length 1 1)<|
   some ((⟨x.1.s,w64 (w64 (x.1.at_+1)+1)⟩:za),x.2++[y4])
  else
   Qv (fun(s5:(Int×Int)×za)=>
     bif decide (s5.1.2<6)then
      zf (zb (0,s5.2)) fun y6=>
      zf (Qh y6) fun y7=>
      bif decide (y7<0)then
       some (LO.out (s5.1.1,s5.2))
      else
       some (LO.again ((ibOr IntKind.i64 (pq IntKind.i64 s5.1.1 4) y7,w64 (s5.1.2+1)),(⟨s5.2.s,w64 (s5.2.at_+1)⟩:za)))
     else
      some (LO.out (s5.1.1,s5.2)):(Int×Int)×za->Option (LO ((Int×Int)×za) (Int×za) _)) ((0,0),(⟨x.1.s,w64 (x.1.at_+1)⟩:za)) fun o8=>
   zR (X:=Int×za×List UInt8) (
     zf (zb (0,o8.2)) fun y9=>
     zf (Za y9) fun y10=>
     bif y10 then
      some (LX.out (o8.1,(⟨o8.2.s,w64 (o8.2.at_+1)⟩:za),x.2))
     else
      some (LX.out (o8.1,o8.2,x.2))) fun j11=>
   zR (X:=Int×List UInt8) (
     bif j11.1==0 then
      some (LX.out (65533,j11.2.2))
     else
      some (LX.out (j11.1,j11.2.2))) fun j12=>
   zf (ZT (w32 j12.1,j12.2)) fun y13=>
   some (j11.2.1,y13)
def ZM(x:za):Option (ze×za):=
 zf (zb (0,x)) fun y1=>
 Qv (fun(s2:za×ze×List UInt8)=>
   zf (zb (0,s2.1)) fun y3=>
   bif y3==(-1)then
    some (LO.out (s2.1,s2.2.1,s2.2.2))
   else
    bif y3==y1 then
     some (LO.out ((⟨s2.1.s,w64 (s2.1.at_+1)⟩:za),s2.2.1,s2.2.2))
    else
     bif y3==10 then
      some (LO.ret ((⟨6,[],0,[],false⟩:ze),s2.1))
     else
      zf (zU (y3==92) (zb (1,s2.1)) (default:Int)) fun y4=>
      zf (zU (!(y4==(-1))&&y3==92) (zb (1,s2.1)) (default:Int)) fun y5=>
      bif bif y3==92 then bif y4==(-1)then true else y5==10 else false then
       some (LO.again ((⟨s2.1.s,if(s2.1.s.length:Int)<w64 (s2.1.at_+2)then(s2.1.s.length:Int)else w64 (s2.1.at_+2)⟩:za),s2.2.1,s2.2.2))
      else
       bif y3==92 then
        zf (zA (s2.1,s2.2.2)) fun y6=>
        some (LO.again (y6.1,s2.2.1,y6.2))
       else
        zf (ZP (wu8 y3)) fun y7=>
        need (zJ s2.2.2.length 1 1)<|
        some (LO.again ((⟨s2.1.s,w64 (s2.1.at_+1)⟩:za),s2.2.1,s2.2.2++[y7])):za×ze×List UInt8->Option (LO (za×ze×List UInt8) (za×ze×List UInt8) _)) ((⟨x.s,w64 (x.at_+1)⟩:za),(⟨0,[],0,[],false⟩:ze),[]) fun o8=>
 some ((⟨5,o8.2.2,0,[],false⟩:ze),o8.1)
def Im(x:Int):Option Bool:=
 zf (ZO (ibOr IntKind.i64 x 32,97,122)) fun y1=>
 some (bif bif bif bif y1 then decide (x<128)else false then decide (x>64)else false then true else x==95 then true else decide (x>=128))
def Qi(x:Int):Option Bool:=
 zf (Im x) fun y1=>
 zf (zU (!y1) (Zj x) (default:Bool)) fun y2=>
 some (bif bif y1 then true else y2 then true else x==45)
def zo(x:Int×za):Option Bool:=
 zf (zb (x.1,x.2)) fun y1=>
 zf (zU (y1==92) (zb (w64 (x.1+1),x.2)) (default:Int)) fun y2=>
 some (bif y1==92 then y2 != 10 else false)
def zF(x:Int×za):Option Bool:=
 zf (zb (x.1,x.2)) fun y1=>
 bif y1 != 45 then
  zf (zb (x.1,x.2)) fun y2=>
  zf (Im y2) fun y3=>
  zf (zU (!y3) (zo (x.1,x.2)) (default:Bool)) fun y4=>
  some (bif y3 then true else y4)
 else
  zf (zb (w64 (x.1+1),x.2)) fun y5=>
  zf (Im y5) fun y6=>
  zf (zU (!y6) (zb (w64 (x.1+1),x.2)) (default:Int)) fun y7=>
  zf (zU (!(bif y6 then true else y7==45)) (zo (w64 (x.1+1),x.2)) (default:Bool)) fun y8=>
  some (bif bif y6 then true else y7==45 then true else y8)
def zI(x:za):Option (Str×za):=
 Qv (fun(s1:za×List UInt8)=>
   zf (zb (0,s1.1)) fun y2=>
   zf (Qi y2) fun y3=>
   bif y3 then
    zf (ZP (wu8 y2)) fun y4=>
    need (zJ s1.2.length 1 1)<|
    some (LO.again ((⟨s1.1.s,w64 (s1.1.at_+1)⟩:za),s1.2++[y4]))
   else
    zf (zU (y2 != (-1)) (zo (0,s1.1)) (default:Bool)) fun y5=>
    bif bif y2 != (-1)then y5 else false then
     zf (zA (s1.1,s1.2)) fun y6=>
     some (LO.again (y6.1,y6.2))
    else
     some (LO.ret (s1.2,s1.1)):za×List UInt8->Option (LO (za×List UInt8) (Unit) _)) (x,[]) fun o7=>
 none
def qy(x:za):Option Bool:=
 zR (X:=Int) (
   zf (zb (0,x)) fun y1=>
   bif bif y1==43 then true else y1==45 then
    some (LX.out 1)
   else
    some (LX.out 0)) fun j2=>
 zR (X:=Int) (
   zf (zb (j2,x)) fun y3=>
   bif y3==46 then
    some (LX.out (w64 (j2+1)))
   else
    some (LX.out j2)) fun j4=>
 zf (zb (j4,x)) fun y5=>
 zf (Zj y5) fun y6=>
 some y6
def zV(x:za):Option za:=
 Qv (fun(s1:za)=>
   zf (zb (0,s1)) fun y2=>
   zf (Zj y2) fun y3=>
   bif y3 then
    some (LO.again (⟨s1.s,w64 (s1.at_+1)⟩:za))
   else
    some (LO.out s1):za->Option (LO (za) (za) _)) x fun o4=>
 some o4
def ZB(x:za):Option (Bool×za):=
 zR (X:=za) (
   zf (zb (0,x)) fun y1=>
   bif bif y1==43 then true else y1==45 then
    some (LX.out (⟨x.s,w64 (x.at_+1)⟩:za))
   else
    some (LX.out x)) fun j2=>
 zf (zV j2) fun y3=>
 zR (X:=Bool×za) (
   zf (zb (0,y3)) fun y4=>
   zf (zU (y4==46) (zb (1,y3)) (default:Int)) fun y5=>
   zf (zU (y4==46) (Zj y5) (default:Bool)) fun y6=>
   bif bif y4==46 then y6 else false then
    zf (zV (⟨y3.s,w64 (y3.at_+1)⟩:za)) fun y7=>
    some (LX.out (false,y7))
   else
    some (LX.out (true,y3))) fun j8=>
 zR (X:=Bool×za) (
   zf (zb (0,j8.2)) fun y9=>
   zf (zU (!(y9==101)) (zb (0,j8.2)) (default:Int)) fun y10=>
   bif bif y9==101 then true else y10==69 then
    zR (X:=(Bool×Int)×za) (
      zf (zb (1,j8.2)) fun y11=>
      bif bif y11==43 then true else y11==45 then
       some (LX.out ((j8.1,2),j8.2))
      else
       some (LX.out ((j8.1,1),j8.2))) fun j12=>
    zf (zb (j12.1.2,j12.2)) fun y13=>
    zf (Zj y13) fun y14=>
    bif y14 then
     zf (zV (⟨j12.2.s,w64 (j12.2.at_+j12.1.2)⟩:za)) fun y15=>
     some (LX.out (false,y15))
    else
     some (LX.out (j12.1.1,j12.2))
   else
    some (LX.out (j8.1,j8.2))) fun j16=>
 some (j16.1,j16.2)
def qG(x:Str):Option Int:=
 zf (geti x 0) fun y1=>
 zf (Cj (x,[43,45])) fun y2=>
 zR (X:=Str×Int) (
   zf (Aq (y2,[101,69])) fun y3=>
   bif decide (y3>=0)then
    need (decide (0<=w64 (y3+1))&&decide (w64 (y3+1)<=(y2.length:Int)))<|
    zf (Cj (List.drop (w64 (y3+1)).toNat y2,[43,45])) fun y4=>
    need (decide (y4.length<=maxLen))<|
    Qv (fun(s5:Int×Int)=>
      bif decide (s5.2<(y4.length:Int))then
       need (decide (0<=s5.2)&&decide (s5.2<(y4.length:Int)))<|
       zf y4[s5.2.toNat]? fun y6=>
       some (LO.again (if 1048576<w64 (w64 (10*s5.1)+w64 (wu8 ((y6.toNat:Int) - 48)))then 1048576 else w64 (w64 (10*s5.1)+w64 (wu8 ((y6.toNat:Int) - 48))),w64 (s5.2+1)))
      else
       some (LO.out s5.1):Int×Int->Option (LO (Int×Int) (Int) _)) (0,0) fun o7=>
    zR (X:=Str×Int×Int) (
      zf (geti y2 (w64 (y3+1))) fun y8=>
      bif (y8.toNat:Int)==45 then
       some (LX.out (y2,3,w64 (0 - o7)))
      else
       some (LX.out (y2,3,o7))) fun j9=>
    need (decide (0<=y3)&&decide (y3<=(j9.1.length:Int)))<|
    some (LX.out (List.take y3.toNat j9.1,w64 (j9.2.1+j9.2.2)))
   else
    some (LX.out (y2,3))) fun j10=>
 zf (cutF (j10.1,[46])) fun y11=>
 need (Ei y11.1.length y11.2.1.length)<|
 zR (X:=Str×Int) (
   bif decide (w64 (j10.2 - (y11.2.1.length:Int))<0)then
    need (decide (0<=(if w64 (((y11.1++y11.2.1).length:Int)+w64 (j10.2 - (y11.2.1.length:Int)))>0 then w64 (((y11.1++y11.2.1).length:Int)+w64 (j10.2 - (y11.2.1.length:Int)))else 0))&&decide ((if w64 (((y11.1++y11.2.1).length:Int)+w64 (j10.2 - (y11.2.1.length:Int)))>0 then w64 (((y11.1++y11.2.1).length:Int)+w64 (j10.2 - (y11.2.1.length:Int)))else 0)<=((y11.1++y11.2.1).length:Int)))<|
    some (LX.out (List.take (if w64 (((y11.1++y11.2.1).length:Int)+w64 (j10.2 - (y11.2.1.length:Int)))>0 then w64 (((y11.1++y11.2.1).length:Int)+w64 (j10.2 - (y11.2.1.length:Int)))else 0).toNat (y11.1++y11.2.1),w64 (j10.2 - (y11.2.1.length:Int))))
   else
    some (LX.out (y11.1++y11.2.1,w64 (j10.2 - (y11.2.1.length:Int))))) fun j12=>
 need (decide (j12.1.length<=maxLen))<|
 Qv (fun(s13:Int×Int)=>
   bif decide (s13.2<(j12.1.length:Int))then
    need (decide (0<=s13.2)&&decide (s13.2<(j12.1.length:Int)))<|
    zf j12.1[s13.2.toNat]? fun y14=>
    some (LO.again (if 1000000000000<w64 (w64 (10*s13.1)+w64 (wu8 ((y14.toNat:Int) - 48)))then 1000000000000 else w64 (w64 (10*s13.1)+w64 (wu8 ((y14.toNat:Int) - 48))),w64 (s13.2+1)))
   else
    some (LO.out s13.1):Int×Int->Option (LO (Int×Int) (Int) _)) (0,0) fun o15=>
 Qv (fun(s16:Int×Int)=>
   bif bif bif decide (s16.1>0)then decide (s16.2>0)else false then decide (s16.2<1000000000000)else false then
    some (LO.again (w64 (s16.1 - 1),if 1000000000000<w64 (10*s16.2)then 1000000000000 else w64 (10*s16.2)))
   else
    some (LO.out s16.2):Int×Int->Option (LO (Int×Int) (Int) _)) (j12.2,o15) fun o17=>
 zR (X:=Int) (
   bif (y1.toNat:Int)==45 then
    some (LX.out (w64 (0 - o17)))
   else
    some (LX.out o17)) fun j18=>
 some j18
def ZC(x:za):Option (ze×za):=
 zf (ZB x) fun y1=>
 need (decide (0<=x.at_)&&(decide (x.at_<=y1.2.at_)&&decide (y1.2.at_<=(y1.2.s.length:Int))))<|
 zf (qG (List.drop x.at_.toNat (List.take y1.2.at_.toNat y1.2.s))) fun y2=>
 zR (X:=za×ze×ze) (
   zf (zF (0,y1.2)) fun y3=>
   bif y3 then
    zf (zI y1.2) fun y4=>
    some (LX.out (y4.2,(⟨0,[],0,[],false⟩:ze),(⟨12,[],y2,y4.1,y1.1⟩:ze)))
   else
    zf (zb (0,y1.2)) fun y5=>
    bif y5==37 then
     some (LX.out ((⟨y1.2.s,w64 (y1.2.at_+1)⟩:za),(⟨0,[],0,[],false⟩:ze),(⟨11,[],y2,[],false⟩:ze)))
    else
     some (LX.out (y1.2,(⟨0,[],0,[],false⟩:ze),(⟨10,[],y2,[],y1.1⟩:ze)))) fun j6=>
 some (j6.2.2,j6.1)
def Lm(x:Str):Option Str:=
 need (decide (x.length<=maxLen))<|
 Qv (fun(s1:Int×List UInt8)=>
   bif decide (s1.1<(x.length:Int))then
    zR (X:=Int×List UInt8) (
      need (decide (0<=s1.1)&&decide (s1.1<(s1.2.length:Int)))<|
      zf s1.2[s1.1.toNat]? fun y2=>
      bif bif decide (65<=(y2.toNat:Int))then decide ((y2.toNat:Int)<=90)else false then
       need (decide (0<=s1.1)&&decide (s1.1<(s1.2.length:Int)))<|
       zf s1.2[s1.1.toNat]? fun y3=>
       need (decide (0<=s1.1)&&decide (s1.1<(s1.2.length:Int)))<|
       zf s1.2[s1.1.toNat]? fun y4=>
       zf (ZP (ibOr IntKind.u8 (y3.toNat:Int) 32)) fun y5=>
       some (LX.out (s1.1,List.set s1.2 s1.1.toNat y5))
      else
       some (LX.out (s1.1,s1.2))) fun j6=>
    some (LO.again (w64 (j6.1+1),j6.2))
   else
    some (LO.out s1.2):Int×List UInt8->Option (LO (Int×List UInt8) (List UInt8) _)) (0,x) fun o7=>
 some o7
def QL(x:Str×Str):Option Bool:=
 zf (Lm x.1) fun y1=>
 zf (Lm x.2) fun y2=>
 some (y1==y2)
def Zw(x:za):Option (ze×za):=
 Qv (fun(s1:za×ze)=>
   zf (zb (0,s1.1)) fun y2=>
   bif y2==(-1)then
    some (LO.ret ((⟨8,[],0,[],false⟩:ze),s1.1))
   else
    zf (zo (0,s1.1)) fun y3=>
    bif y3 then
     zf (Zo s1.1) fun y4=>
     some (LO.again (y4.1,s1.2))
    else
     zf (geti s1.1.s (w64 (w64 (s1.1.at_+1) - 1))) fun y5=>
     bif (y5.toNat:Int)==41 then
      some (LO.ret ((⟨8,[],0,[],false⟩:ze),(⟨s1.1.s,w64 (s1.1.at_+1)⟩:za)))
     else
      some (LO.again ((⟨s1.1.s,w64 (s1.1.at_+1)⟩:za),s1.2)):za×ze->Option (LO (za×ze) (Unit) _)) (x,(⟨0,[],0,[],false⟩:ze)) fun o6=>
 none
def qF(x:za):Option (ze×za):=
 zf (zG x) fun y1=>
 Qv (fun(s2:za×ze×List UInt8)=>
   zf (zb (0,s2.1)) fun y3=>
   zR (X:=Int×za×ze×List UInt8) (
     zf (Za y3) fun y4=>
     bif y4 then
      zf (zG s2.1) fun y5=>
      zf (zb (0,y5)) fun y6=>
      bif bif y6 != 41 then y6 != (-1)else false then
       zf (Zw y5) fun y7=>
       some (LX.ret (LO.ret (y7.1,y7.2)))
      else
       some (LX.out (y6,y5,s2.2.1,s2.2.2))
     else
      some (LX.out (y3,s2.1,s2.2.1,s2.2.2))) fun j8=>
   bif j8.1==(-1)then
    some (LO.ret ((⟨7,j8.2.2.2,0,[],false⟩:ze),j8.2.1))
   else
    bif j8.1==41 then
     some (LO.ret ((⟨7,j8.2.2.2,0,[],false⟩:ze),(⟨j8.2.1.s,w64 (j8.2.1.at_+1)⟩:za)))
    else
     zf (zU (!(bif bif bif bif j8.1==34 then true else j8.1==39 then true else j8.1==40 then true else decide (j8.1<=8)then true else j8.1==11)) (ZO (j8.1,14,31)) (default:Bool)) fun y9=>
     bif bif bif bif bif bif bif j8.1==34 then true else j8.1==39 then true else j8.1==40 then true else decide (j8.1<=8)then true else j8.1==11 then true else y9 then true else j8.1==127 then
      zf (Zw j8.2.1) fun y10=>
      some (LO.ret (y10.1,y10.2))
     else
      bif j8.1 != 92 then
       zf (ZP (wu8 j8.1)) fun y11=>
       need (zJ j8.2.2.2.length 1 1)<|
       some (LO.again ((⟨j8.2.1.s,w64 (j8.2.1.at_+1)⟩:za),j8.2.2.1,j8.2.2.2++[y11]))
      else
       zf (zo (0,j8.2.1)) fun y12=>
       bif y12 then
        zf (zA (j8.2.1,j8.2.2.2)) fun y13=>
        some (LO.again (y13.1,j8.2.2.1,y13.2))
       else
        zf (Zw j8.2.1) fun y14=>
        some (LO.ret (y14.1,y14.2)):za×ze×List UInt8->Option (LO (za×ze×List UInt8) (Unit) _)) (y1,(⟨0,[],0,[],false⟩:ze),[]) fun o15=>
 none
def ZZ(x:za):Option (ze×za):=
 zf (zI x) fun y1=>
 zf (zb (0,y1.2)) fun y2=>
 bif y2 != 40 then
  some ((⟨1,y1.1,0,[],false⟩:ze),y1.2)
 else
  zR (X:=za×ze) (
    zf (QL (y1.1,[117,114,108])) fun y3=>
    bif y3 then
     zf (zG (⟨y1.2.s,w64 (y1.2.at_+1)⟩:za)) fun y4=>
     zf (zb (0,y4)) fun y5=>
     bif bif y5 != 34 then y5 != 39 else false then
      zf (qF (⟨y1.2.s,w64 (y1.2.at_+1)⟩:za)) fun y6=>
      some (LX.ret (y6.1,y6.2))
     else
      some (LX.out ((⟨y1.2.s,w64 (y1.2.at_+1)⟩:za),(⟨0,[],0,[],false⟩:ze)))
    else
     some (LX.out ((⟨y1.2.s,w64 (y1.2.at_+1)⟩:za),(⟨0,[],0,[],false⟩:ze)))) fun j7=>
  some ((⟨2,y1.1,0,[],false⟩:ze),j7.1)
def strings_IndexByte(x:Str×Int):Option Int:=
 zf (uo (x.1,x.2)) fun y1=>
 some y1
def qi(x:za):Option (ze×za):=
 zf (zb (0,x)) fun y1=>
 need (decide (0<=x.at_)&&decide (x.at_<=(x.s.length:Int)))<|
 zf (Za y1) fun y2=>
 bif y2 then
  zf (zG x) fun y3=>
  some ((⟨13,[],0,[],false⟩:ze),y3)
 else
  bif bif y1==34 then true else y1==39 then
   zf (ZM x) fun y4=>
   some (y4.1,y4.2)
  else
   zf (zU (y1==35) (zb (1,x)) (default:Int)) fun y5=>
   zf (zU (y1==35) (Qi y5) (default:Bool)) fun y6=>
   zf (zU (!y6&&y1==35) (zo (1,x)) (default:Bool)) fun y7=>
   bif bif y1==35 then bif y6 then true else y7 else false then
    zf (zF (1,x)) fun y8=>
    zf (zI (⟨x.s,w64 (x.at_+1)⟩:za)) fun y9=>
    some ((⟨4,y9.1,0,[],y8⟩:ze),y9.2)
   else
    zf (qy x) fun y10=>
    bif y10 then
     zf (ZC x) fun y11=>
     some (y11.1,y11.2)
    else
     zf (strings_HasPrefix (List.drop x.at_.toNat x.s,[45,45,62])) fun y12=>
     bif y12 then
      some ((⟨15,[],0,[],false⟩:ze),(⟨x.s,w64 (x.at_+3)⟩:za))
     else
      zf (strings_HasPrefix (List.drop x.at_.toNat x.s,[60,33,45,45])) fun y13=>
      bif y13 then
       some ((⟨14,[],0,[],false⟩:ze),(⟨x.s,w64 (x.at_+4)⟩:za))
      else
       zf (zU (y1==64) (zF (1,x)) (default:Bool)) fun y14=>
       bif bif y1==64 then y14 else false then
        zf (zI (⟨x.s,w64 (x.at_+1)⟩:za)) fun y15=>
        some ((⟨3,y15.1,0,[],false⟩:ze),y15.2)
       else
        zf (zF (0,x)) fun y16=>
        bif y16 then
         zf (ZZ x) fun y17=>
         some (y17.1,y17.2)
        else
         zf (strings_IndexByte ([58,59,44,91,93,40,41,123,125],wu8 y1)) fun y18=>
         bif decide (y18>=0)then
          some ((⟨wu8 (16+wu8 y18),[],0,[],false⟩:ze),(⟨x.s,w64 (x.at_+1)⟩:za))
         else
          need (decide (1<=((List.drop x.at_.toNat x.s).length:Int)))<|
          some ((⟨9,List.take 1 (List.drop x.at_.toNat x.s),0,[],false⟩:ze),(⟨x.s,w64 (x.at_+1)⟩:za))
def QK(x:(ze×Int×Int)×List ze):Option (List ze):=
 need (zJ x.2.length 1 56)<|
 some (x.2++[x.1.1])
def Yq(x:Str):Option (Int×List ze):=
 zf (Hl x) fun y1=>
 bif y1.2 != 0 then
  some (y1.2,[])
 else
  zf (Ze (⟨y1.1,0⟩:za)) fun y2=>
  Qv (fun(s3:Int×List ze×za)=>
    bif decide (s3.2.2.at_<(y1.1.length:Int))then
     bif decide (w64 (s3.1+1)>1500)then
      some (LO.ret (4,s3.2.1))
     else
      zf (qi s3.2.2) fun y4=>
      zf (QK ((y4.1,s3.2.2.at_,y4.2.at_),s3.2.1)) fun y5=>
      zf (Ze y4.2) fun y6=>
      some (LO.again (w64 (s3.1+1),y5,y6))
    else
     some (LO.out (s3.2.1,s3.2.2)):Int×List ze×za->Option (LO (Int×List ze×za) (List ze×za) _)) (0,[],y2) fun o7=>
  some (0,o7.1)
def qh(x:Str):Option (List ze×Int):=
 zf (Yq x) fun y1=>
 bif y1.1 != 0 then
  some ([],y1.1)
 else
  some (y1.2,0)
def Zh(x:Int):Option Int:=
 bif x==2 then
  some 22
 else
  zR (X:=Bool) (
    bif x==19 then
     some (LX.out (x==19))
    else
     bif x==21 then
      some (LX.out (x==21))
     else
      some (LX.out (x==23))) fun j1=>
  bif j1 then
   some (wu8 (x+1))
  else
   some 0
def Jm(Zt:List zg×Int->Option zm)(x:List zg×Int):Option zm:=
 Qv (fun(s1:Int×zm)=>
   bif decide (s1.1<(x.1.length:Int))then
    zR (X:=Int×zm) (
      zf (geti x.1 s1.1) fun y2=>
      zf (Zh y2.token.kind) fun y3=>
      zR (X:=zm) (
        bif bif bif x.2 != 0 then y2.token.kind==x.2 else false then true else bif y3==0 then decide ((y2.list.length:Int)>0)else false then
         some (LX.out (⟨s1.2.depth,w64 (s1.2.tokens+1),true⟩:zm))
        else
         some (LX.out (⟨s1.2.depth,w64 (s1.2.tokens+1),s1.2.bad⟩:zm))) fun j4=>
      bif y3==0 then
       some (LX.out (s1.1,j4))
      else
       zf (Zt (y2.list,y3)) fun y5=>
       some (LX.out (s1.1,(⟨if w64 (y5.depth+1)>j4.depth then w64 (y5.depth+1)else j4.depth,w64 (w64 (j4.tokens+y5.tokens)+1),bif j4.bad then true else y5.bad⟩:zm)))) fun j6=>
    some (LO.again (w64 (j6.1+1),j6.2))
   else
    some (LO.out s1.2):Int×zm->Option (LO (Int×zm) (zm) _)) (0,(⟨0,0,false⟩:zm)) fun o7=>
 some o7
def Zt:List zg×Int->Option zm:=recE (Jm)
def Qn(x:List zg):Option Int:=
 zf (Zt (x,0)) fun y1=>
 bif decide (y1.depth>16)then
  some 20
 else
  bif decide (y1.tokens>1500)then
   some 4
  else
   bif y1.bad then
    some 8
   else
    some 0
def Q6(Zi:List zg×List ze->Option (List ze))(x:List zg×List ze):Option (List ze):=
 Qv (fun(s1:Int×List ze)=>
   bif decide (s1.1<(x.1.length:Int))then
    zR (X:=Int×List ze) (
      zf (geti x.1 s1.1) fun y2=>
      need (zJ s1.2.length 1 56)<|
      zf (Zh y2.token.kind) fun y3=>
      bif y3 != 0 then
       zf (Zi (y2.list,s1.2++[y2.token])) fun y4=>
       need (zJ y4.length 1 56)<|
       some (LX.out (s1.1,y4++[(⟨y3,[],0,[],false⟩:ze)]))
      else
       some (LX.out (s1.1,s1.2++[y2.token]))) fun j5=>
    some (LO.again (w64 (j5.1+1),j5.2))
   else
    some (LO.out s1.2):Int×List ze->Option (LO (Int×List ze) (List ze) _)) (0,x.2) fun o6=>
 some o6
def Zi:List zg×List ze->Option (List ze):=recE (Q6)
def Km(x:List zg):Option (List ze):=
 Qv (fun(s1:Int×List ze)=>
   bif decide (s1.1<(x.length:Int))then
    zR (X:=Int×List ze) (
      zf (geti x s1.1) fun y2=>
      need (zJ s1.2.length 1 56)<|
      zf (Zh y2.token.kind) fun y3=>
      bif y3 != 0 then
       zf (Zi (y2.list,s1.2++[y2.token])) fun y4=>
       need (zJ y4.length 1 56)<|
       some (LX.out (s1.1,y4++[(⟨y3,[],0,[],false⟩:ze)]))
      else
       some (LX.out (s1.1,s1.2++[y2.token]))) fun j5=>
    some (LO.again (w64 (j5.1+1),j5.2))
   else
    some (LO.out s1.2):Int×List ze->Option (LO (Int×List ze) (List ze) _)) (0,[]) fun o6=>
 some o6
def stringslite_TrimPrefix(x:Str×Str):Option Str:=
 zf (stringslite_HasPrefix (x.1,x.2)) fun y1=>
 bif y1 then
  need (decide (0<=(x.2.length:Int))&&decide ((x.2.length:Int)<=(x.1.length:Int)))<|
  some (List.drop x.2.length x.1)
 else
  some x.1
def strings_TrimPrefix(x:Str×Str):Option Str:=
 zf (stringslite_TrimPrefix (x.1,x.2)) fun y1=>
 some y1
def qW(x:Int):Option Bool:=
 some (bif decide (48<=x)then decide (x<=57)else false)
def QR(x:Str):Option Bool:=
 zf (strings_TrimPrefix (x,[45])) fun y1=>
 zf (zU (!(y1==[])) (geti y1 0) 0) fun y2=>
 zf (zU (!(y1==[])) (qW (y2.toNat:Int)) (default:Bool)) fun y3=>
 some (bif !(y1==[])then y3 else false)
def Mq(x:Int):Option Bool:=
 some (bif bif decide (97<=ibOr IntKind.u8 x 32)then decide (ibOr IntKind.u8 x 32<=122)else false then decide (x<128)else false)
def Sm(x:Int):Option Bool:=
 zf (Mq x) fun y1=>
 zf (zU (!y1) (qW x) (default:Bool)) fun y2=>
 some (bif bif bif bif y1 then true else y2 then true else x==95 then true else x==45 then true else decide (x>=128))
def strings_Contains(x:Str×Str):Option Bool:=
 zf (Lj (x.1,x.2)) fun y1=>
 some (decide (y1>=0))
def Uu(x:ze):Option Bool:=
 need (Ei x.text.length x.unit.length)<|
 zf (strings_IndexByte (x.text++x.unit,0)) fun y1=>
 zR (X:=Bool×Bool×Bool×Bool×Bool) (
   zR (X:=Bool×Bool×Bool×Bool×Bool×Bool) (
     bif x.kind==1 then
      some (LX.out (false,false,false,false,decide (y1<0),x.kind==1))
     else
      bif x.kind==2 then
       some (LX.out (false,false,false,false,decide (y1<0),x.kind==2))
      else
       some (LX.out (false,false,false,false,decide (y1<0),x.kind==3))) fun j2=>
   bif j2.2.2.2.2.2 then
    some (LX.out (true,j2.2.1,j2.2.2.1,j2.2.2.2.1,bif j2.2.2.2.2.1 then !(x.text==[])else false))
   else
    bif x.kind==4 then
     zf (zU (!x.flag&&(bif j2.2.2.2.2.1 then !(x.text==[])else false)) (QR x.text) (default:Bool)) fun y3=>
     zf (zU (y3&&(!x.flag&&(bif j2.2.2.2.2.1 then !(x.text==[])else false))) (strings_HasPrefix (x.text,[45,45])) (default:Bool)) fun y4=>
     some (LX.out (true,j2.2.1,j2.2.2.1,true,bif bif j2.2.2.2.2.1 then !(x.text==[])else false then bif bif x.flag then true else bif y3 then !y4 else false then true else x.text==[45]else false))
    else
     zR (X:=Bool×Bool×Bool×Bool×Bool×Bool) (
       bif x.kind==5 then
        some (LX.out (j2.1,j2.2.1,j2.2.2.1,j2.2.2.2.1,j2.2.2.2.2.1,x.kind==5))
       else
        some (LX.out (j2.1,j2.2.1,j2.2.2.1,j2.2.2.2.1,j2.2.2.2.2.1,x.kind==7))) fun j5=>
     bif j5.2.2.2.2.2 then
      some (LX.out (true,j5.2.1,j5.2.2.1,j5.2.2.2.1,j5.2.2.2.2.1))
     else
      bif x.kind==9 then
       zf (zU (bif j5.2.2.2.2.1 then(x.text.length:Int)==1 else false) (geti x.text 0) 0) fun y6=>
       zf (zU (bif j5.2.2.2.2.1 then(x.text.length:Int)==1 else false) (Sm (y6.toNat:Int)) (default:Bool)) fun y7=>
       zf (zU (bif bif bif j5.2.2.2.2.1 then(x.text.length:Int)==1 else false then !y7 else false then true else x.text==[45]) (strings_Contains ([32,9,10,12,13,34,39,58,59,44,91,93,40,41,123,125],x.text)) (default:Bool)) fun y8=>
       some (LX.out (true,j5.2.1,j5.2.2.1,j5.2.2.2.1,bif bif bif bif j5.2.2.2.2.1 then(x.text.length:Int)==1 else false then !y7 else false then true else x.text==[45]then !y8 else false))
      else
       zR (X:=Bool×Bool×Bool×Bool×Bool) (
         bif x.kind==10 then
          some (LX.out (j5.2.1,j5.2.2.1,j5.2.2.2.1,j5.2.2.2.2.1,x.kind==10))
         else
          bif x.kind==11 then
           some (LX.out (j5.2.1,j5.2.2.1,j5.2.2.2.1,j5.2.2.2.2.1,x.kind==11))
          else
           some (LX.out (j5.2.1,j5.2.2.1,j5.2.2.2.1,j5.2.2.2.2.1,x.kind==12))) fun j9=>
       bif j9.2.2.2.2 then
        some (LX.out (j5.1,x.kind==12,true,x.kind != 11,bif bif bif bif j9.2.2.2.1 then decide (x.num>=(-1000000000000))else false then decide (x.num<=1000000000000)else false then bif !x.flag then true else Int.tmod x.num 1000==0 else false then bif !(x.kind==12)then true else !(x.unit==[])else false))
       else
        some (LX.out (j5.1,j9.1,j9.2.1,j9.2.2.1,bif decide (x.kind>=13)then decide (x.kind<=24)else false))) fun j10=>
 some (bif bif bif bif j10.2.2.2.2 then bif j10.1 then true else x.text==[]else false then bif j10.2.1 then true else x.unit==[]else false then bif j10.2.2.1 then true else x.num==0 else false then bif j10.2.2.2.1 then true else !x.flag else false)
def qI(x:(Int×Int)×List ze):Option Bool:=
 zf (zU (decide (x.1.1<(x.2.length:Int))) (geti x.2 x.1.1) (default:ze)) fun y1=>
 some (bif decide (x.1.1<(x.2.length:Int))then y1.kind==x.1.2 else false)
def Yj(x:List ze):Option Int:=
 zf (geti x 0) fun y1=>
 bif bif y1.kind==9 then y1.text==[92]else false then
  zf (qI ((1,13),x)) fun y2=>
  bif !y2 then
   some 0
  else
   some 2
 else
  zf (zU (y1.kind==2) (QL (y1.text,[117,114,108])) (default:Bool)) fun y3=>
  bif bif y1.kind==2 then y3 else false then
   zR (X:=Int) (
     zf (qI ((1,13),x)) fun y4=>
     bif y4 then
      some (LX.out 2)
     else
      some (LX.out 1)) fun j5=>
   zf (qI ((j5,5),x)) fun y6=>
   bif !y6 then
    some 0
   else
    some (w64 (j5+1))
  else
   some 1
def Tq(x:List ze):Option Int:=
 bif decide ((x.length:Int)>1500)then
  some 4
 else
  Qv (fun(s1:Int)=>
    bif decide (s1<(x.length:Int))then
     zf (geti x s1) fun y2=>
     zf (Uu y2) fun y3=>
     need (decide (0<=s1)&&decide (s1<=(x.length:Int))|| !(!(!y3)))<|
     zf (zU (!(!y3)) (Yj (List.drop s1.toNat x)) (default:Int)) fun y4=>
     bif bif !y3 then true else y4==0 then
      some (LO.ret 8)
     else
      some (LO.again (w64 (s1+1)))
    else
     some (LO.out ()):Int->Option (LO (Int) (Unit) _)) 0 fun o5=>
  some 0
def Z9(x:Str):Option Int:=
 zf (strings_HasPrefix (x,[45])) fun y1=>
 bif y1 then
  some 2
 else
  some 1
def Zm(x:Int×List UInt8):Option (List UInt8):=
 zf (zU (bif decide (x.1>32)then decide (x.1<127)else false) (qW x.1) (default:Bool)) fun y1=>
 zf (zU (bif bif decide (x.1>32)then decide (x.1<127)else false then !y1 else false) (Mq x.1) (default:Bool)) fun y2=>
 bif bif bif bif decide (x.1>32)then decide (x.1<127)else false then !y1 else false then !y2 else false then
  zf (ZP x.1) fun y3=>
  need (zJ x.2.length 2 1)<|
  some (x.2++[(92:UInt8),y3])
 else
  need (zJ x.2.length 1 1)<|
  zf (Du ((wu64 x.1,16),x.2++[(92:UInt8)])) fun y4=>
  need (zJ y4.length 1 1)<|
  some (y4++[(32:UInt8)])
def qm(x:(Str×Int)×List UInt8):Option (List UInt8):=
 Qv (fun(s1:Int×List UInt8)=>
   bif decide (s1.1<(x.1.1.length:Int))then
    zR (X:=Int×List UInt8) (
      zf (geti x.1.1 s1.1) fun y2=>
      zf (Sm (y2.toNat:Int)) fun y3=>
      zf (zU (!(decide (s1.1>=x.1.2))&&y3) (qW (y2.toNat:Int)) (default:Bool)) fun y4=>
      bif bif bif y3 then bif decide (s1.1>=x.1.2)then true else !y4 else false then bif x.1.2==0 then true else !(x.1.1==[45])else false then
       zf (ZP (y2.toNat:Int)) fun y5=>
       need (zJ s1.2.length 1 1)<|
       some (LX.out (s1.1,s1.2++[y5]))
      else
       zf (Zm ((y2.toNat:Int),s1.2)) fun y6=>
       some (LX.out (s1.1,y6))) fun j7=>
    some (LO.again (w64 (j7.1+1),j7.2))
   else
    some (LO.out s1.2):Int×List UInt8->Option (LO (Int×List UInt8) (List UInt8) _)) (0,x.2) fun o8=>
 some o8
def ou(x:Unit):Option qV:=
 some (⟨[32],[60,33,45,45],[45,45,62],[58],[59],[44],[91],[93],[40],[41],[123],[125]⟩:qV)
def qc(x:(Int×Bool)×List UInt8):Option (List UInt8):=
 zR (X:=Int×List UInt8) (
   bif decide (x.1.1<0)then
    need (zJ x.2.length 1 1)<|
    some (LX.out (w64 (0 - x.1.1),x.2++[(45:UInt8)]))
   else
    some (LX.out (x.1.1,x.2))) fun j1=>
 zf (Eu ((w64 (Int.tdiv j1.1 1000),10),j1.2)) fun y2=>
 zf (Ws (w64 (1000+Int.tmod j1.1 1000),10)) fun y3=>
 need (decide (1<=(y3.length:Int)))<|
 zf (xk (List.drop 1 y3,[48])) fun y4=>
 zR (X:=List UInt8) (
   bif !(y4==[])then
    need (zJ y2.length 1 1)<|
    need (zJ (y2++[(46:UInt8)]).length y4.length 1)<|
    some (LX.out (y2++[(46:UInt8)]++y4))
   else
    bif x.1.2 then
     need (zJ y2.length ([46,48]:Str).length 1)<|
     some (LX.out (y2++([46,48]:Str)))
    else
     some (LX.out y2)) fun j5=>
 some j5
def Kq(x:ze×List UInt8):Option (List UInt8):=
 bif x.1.kind==1 then
  zf (Z9 x.1.text) fun y1=>
  zf (qm ((x.1.text,y1),x.2)) fun y2=>
  some y2
 else
  bif x.1.kind==2 then
   zf (Z9 x.1.text) fun y3=>
   zf (qm ((x.1.text,y3),x.2)) fun y4=>
   need (zJ y4.length 1 1)<|
   some (y4++[(40:UInt8)])
  else
   bif x.1.kind==3 then
    need (zJ x.2.length 1 1)<|
    zf (Z9 x.1.text) fun y5=>
    zf (qm ((x.1.text,y5),x.2++[(64:UInt8)])) fun y6=>
    some y6
   else
    bif x.1.kind==4 then
     zR (X:=Int×List UInt8) (
       bif x.1.flag then
        zf (Z9 x.1.text) fun y7=>
        some (LX.out (y7,x.2))
       else
        some (LX.out (0,x.2))) fun j8=>
     need (zJ j8.2.length 1 1)<|
     zf (qm ((x.1.text,j8.1),j8.2++[(35:UInt8)])) fun y9=>
     some y9
    else
     bif x.1.kind==5 then
      need (zJ x.2.length 1 1)<|
      need (decide (x.1.text.length<=maxLen))<|
      Qv (fun(s10:Int×List UInt8)=>
        bif decide (s10.1<(x.1.text.length:Int))then
         zR (X:=Int×List UInt8) (
           need (decide (0<=s10.1)&&decide (s10.1<(x.1.text.length:Int)))<|
           zf x.1.text[s10.1.toNat]? fun y11=>
           zf (strings_IndexByte ([10,12,13,34,92],(y11.toNat:Int))) fun y12=>
           bif decide (y12>=0)then
            zf (Zm ((y11.toNat:Int),s10.2)) fun y13=>
            some (LX.out (s10.1,y13))
           else
            zf (ZP (y11.toNat:Int)) fun y14=>
            need (zJ s10.2.length 1 1)<|
            some (LX.out (s10.1,s10.2++[y14]))) fun j15=>
         some (LO.again (w64 (j15.1+1),j15.2))
        else
         some (LO.out s10.2):Int×List UInt8->Option (LO (Int×List UInt8) (List UInt8) _)) (0,x.2++[(34:UInt8)]) fun o16=>
      need (zJ o16.length 1 1)<|
      some (o16++[(34:UInt8)])
     else
      bif x.1.kind==7 then
       need (zJ x.2.length ([117,114,108,40]:Str).length 1)<|
       need (decide (x.1.text.length<=maxLen))<|
       Qv (fun(s17:Int×List UInt8)=>
         bif decide (s17.1<(x.1.text.length:Int))then
          zR (X:=Int×List UInt8) (
            need (decide (0<=s17.1)&&decide (s17.1<(x.1.text.length:Int)))<|
            zf x.1.text[s17.1.toNat]? fun y18=>
            zf (zU (!(decide ((y18.toNat:Int)<=32))) (strings_IndexByte ([34,39,40,41,92,127],(y18.toNat:Int))) (default:Int)) fun y19=>
            bif bif decide ((y18.toNat:Int)<=32)then true else decide (y19>=0)then
             zf (Zm ((y18.toNat:Int),s17.2)) fun y20=>
             some (LX.out (s17.1,y20))
            else
             zf (ZP (y18.toNat:Int)) fun y21=>
             need (zJ s17.2.length 1 1)<|
             some (LX.out (s17.1,s17.2++[y21]))) fun j22=>
          some (LO.again (w64 (j22.1+1),j22.2))
         else
          some (LO.out s17.2):Int×List UInt8->Option (LO (Int×List UInt8) (List UInt8) _)) (0,x.2++([117,114,108,40]:Str)) fun o23=>
       need (zJ o23.length 1 1)<|
       some (o23++[(41:UInt8)])
      else
       bif x.1.kind==9 then
        need (zJ x.2.length x.1.text.length 1)<|
        some (x.2++x.1.text)
       else
        bif x.1.kind==10 then
         zf (qc ((x.1.num, !x.1.flag),x.2)) fun y24=>
         some y24
        else
         bif x.1.kind==11 then
          zf (qc ((x.1.num,false),x.2)) fun y25=>
          need (zJ y25.length 1 1)<|
          some (y25++[(37:UInt8)])
         else
          bif x.1.kind==12 then
           zf (qc ((x.1.num, !x.1.flag),x.2)) fun y26=>
           zf (geti x.1.unit 0) fun y27=>
           need (decide (1<=(x.1.unit.length:Int))|| !(ibOr IntKind.u8 (y27.toNat:Int) 32==101))<|
           zf (zU (ibOr IntKind.u8 (y27.toNat:Int) 32==101) (QR (List.drop 1 x.1.unit)) (default:Bool)) fun y28=>
           need (decide (1<=(x.1.unit.length:Int))|| !(bif ibOr IntKind.u8 (y27.toNat:Int) 32==101 then y28 else false))<|
           zf (zU (bif ibOr IntKind.u8 (y27.toNat:Int) 32==101 then y28 else false) (strings_HasPrefix (List.drop 1 x.1.unit,[45,45])) (default:Bool)) fun y29=>
           bif bif bif ibOr IntKind.u8 (y27.toNat:Int) 32==101 then y28 else false then !y29 else false then
            zf (geti x.1.unit 0) fun y30=>
            zf (Zm ((y30.toNat:Int),y26)) fun y31=>
            need (decide (1<=(x.1.unit.length:Int)))<|
            zf (qm ((List.drop 1 x.1.unit,0),y31)) fun y32=>
            some y32
           else
            zf (Z9 x.1.unit) fun y33=>
            zf (qm ((x.1.unit,y33),y26)) fun y34=>
            some y34
          else
           zf (ou ()) fun y35=>
           zf (geti [y35.e0,y35.e1,y35.e2,y35.e3,y35.e4,y35.e5,y35.e6,y35.e7,y35.e8,y35.e9,y35.e10,y35.e11] (wu8 (x.1.kind - 13))) fun y36=>
           need (zJ x.2.length y36.length 1)<|
           some (x.2++y36)
def qg(x:List ze×List ze):Option Bool:=
 bif (x.1.length:Int) != (x.2.length:Int)then
  some false
 else
  Qv (fun(s1:Int)=>
    bif decide (s1<(x.1.length:Int))then
     zf (geti x.1 s1) fun y2=>
     zf (geti x.2 s1) fun y3=>
     bif !(y2.kind==y3.kind&&(y2.text==y3.text&&(y2.num==y3.num&&(y2.unit==y3.unit&&(y2.flag==y3.flag&&true)))))then
      some (LO.ret false)
     else
      some (LO.again (w64 (s1+1)))
    else
     some (LO.out ()):Int->Option (LO (Int) (Unit) _)) 0 fun o4=>
  some true
def Sq(x:List ze):Option (Str×Int):=
 zf (Tq x) fun y1=>
 bif y1 != 0 then
  some ([],y1)
 else
  Qv (fun(s2:Int×List UInt8×List zu)=>
    bif decide (s2.1<(x.length:Int))then
     need (decide (0<=s2.1)&&decide (s2.1<=(x.length:Int)))<|
     zf (Yj (List.drop s2.1.toNat x)) fun y3=>
     need (decide (0<=s2.1)&&(decide (s2.1<=w64 (s2.1+y3))&&decide (w64 (s2.1+y3)<=(x.length:Int))))<|
     Qv (fun(s4:Int×List UInt8)=>
       bif decide (s4.1<((List.drop s2.1.toNat (List.take (w64 (s2.1+y3)).toNat x)).length:Int))then
        zf (geti (List.drop s2.1.toNat (List.take (w64 (s2.1+y3)).toNat x)) s4.1) fun y5=>
        zf (Kq (y5,s4.2)) fun y6=>
        some (LO.again (w64 (s4.1+1),y6))
       else
        some (LO.out s4.2):Int×List UInt8->Option (LO (Int×List UInt8) (List UInt8) _)) (0,[]) fun o7=>
     zR (X:=Int×List UInt8×List zu×List UInt8) (
       zf (geti x s2.1) fun y8=>
       bif bif y8.kind==9 then y3==2 else false then
        some (LX.out (s2.1,s2.2.1,s2.2.2,[(92:UInt8),(10:UInt8)]))
       else
        some (LX.out (s2.1,s2.2.1,s2.2.2,o7))) fun j9=>
     zR (X:=Int×List UInt8×List zu×zu) (
       bif decide (w64 ((j9.2.2.1.length:Int) - 4)>=0)then
        need (decide (0<=w64 ((j9.2.2.1.length:Int) - 4))&&decide (w64 ((j9.2.2.1.length:Int) - 4)<(j9.2.2.1.length:Int)))<|
        zf (j9.2.2.1[(w64 ((j9.2.2.1.length:Int) - 4)).toNat]?) fun y10=>
        some (LX.out (j9.1,j9.2.1,j9.2.2.1,y10))
       else
        some (LX.out (j9.1,j9.2.1,j9.2.2.1,(⟨0,0⟩:zu)))) fun j11=>
     need (decide (0<=j11.2.2.2.at_)&&decide (j11.2.2.2.at_<=(j11.2.1.length:Int)))<|
     need (decide (j11.2.2.2.at_.toNat+(j11.2.1.length - j11.2.2.2.at_.toNat)<=j11.2.1.length))<|
     need (Ei (List.take (j11.2.1.length - j11.2.2.2.at_.toNat) (List.drop j11.2.2.2.at_.toNat j11.2.1)).length j9.2.2.2.length)<|
     zf (qh (List.take (j11.2.1.length - j11.2.2.2.at_.toNat) (List.drop j11.2.2.2.at_.toNat j11.2.1)++j9.2.2.2)) fun y12=>
     zR (X:=Int×List zu×List UInt8) (
       need (decide (0<=j11.2.2.2.token)&&(decide (j11.2.2.2.token<=w64 (j11.1+y3))&&decide (w64 (j11.1+y3)<=(x.length:Int)))|| !(!(y12.2 != 0)))<|
       zf (zU (!(y12.2 != 0)) (qg (y12.1,List.drop j11.2.2.2.token.toNat (List.take (w64 (j11.1+y3)).toNat x))) (default:Bool)) fun y13=>
       bif bif y12.2 != 0 then true else !y13 then
        need (zJ j11.2.1.length ([47,42,42,47]:Str).length 1)<|
        some (LX.out (j11.1,j11.2.2.1,j11.2.1++([47,42,42,47]:Str)))
       else
        some (LX.out (j11.1,j11.2.2.1,j11.2.1))) fun j14=>
     need (zJ j14.2.1.length 1 16)<|
     need (zJ j14.2.2.length j9.2.2.2.length 1)<|
     bif decide (((j14.2.2++j9.2.2.2).length:Int)>4000)then
      some (LO.ret ([],28))
     else
      some (LO.again (w64 (j14.1+y3),j14.2.2++j9.2.2.2,j14.2.1++[(⟨j14.1,(j14.2.2.length:Int)⟩:zu)]))
    else
     some (LO.out s2.2.1):Int×List UInt8×List zu->Option (LO (Int×List UInt8×List zu) (List UInt8) _)) (0,[],[]) fun o15=>
  some (o15,0)
def Yp(x:List zg):Option (Str×Int):=
 zf (Qn x) fun y1=>
 bif y1 != 0 then
  some ([],y1)
 else
  zf (Km x) fun y2=>
  zf (Sq y2) fun y3=>
  some (y3.1,y3.2)
def qY(x:List zg):Option (Int×Int):=
 zf (Qn x) fun y1=>
 bif y1 != 0 then
  some (0,y1)
 else
  zf (Zt (x,0)) fun y2=>
  some (y2.depth,0)
def Jq(x:Str):Option (Str×Int×Bool):=
 zf (qh x) fun y1=>
 zf (parseF y1.1) fun y2=>
 zf (Yp y2.1) fun y3=>
 zf (qY y2.1) fun y4=>
 some (y3.1,y4.1,bif bif bif y1.2==0 then y2.2==0 else false then y3.2==0 else false then y4.2==0 else false)
def ZU(x:Unit):Option Bool:=
 zf (Jq [97,40,98,91,99,41,100]) fun y1=>
 zf (qh [97,40,98,91,99,41,100]) fun y2=>
 zf (parseF y2.1) fun y3=>
 zf (zU (bif bif bif bif bif y1.2.2 then y1.1==[97,40,98,91,99,41,100,93,41]else false then y1.2.1==2 else false then y2.2==0 else false then y3.2==0 else false then(y3.1.length:Int)==1 else false) (geti y3.1 0) (default:zg)) fun y4=>
 zf (zU (bif bif bif bif bif bif y1.2.2 then y1.1==[97,40,98,91,99,41,100,93,41]else false then y1.2.1==2 else false then y2.2==0 else false then y3.2==0 else false then(y3.1.length:Int)==1 else false then(y4.list.length:Int)==2 else false) (geti y3.1 0) (default:zg)) fun y5=>
 zf (zU (bif bif bif bif bif bif y1.2.2 then y1.1==[97,40,98,91,99,41,100,93,41]else false then y1.2.1==2 else false then y2.2==0 else false then y3.2==0 else false then(y3.1.length:Int)==1 else false then(y4.list.length:Int)==2 else false) (geti y5.list 1) (default:zg)) fun y6=>
 some (bif bif bif bif bif bif bif y1.2.2 then y1.1==[97,40,98,91,99,41,100,93,41]else false then y1.2.1==2 else false then y2.2==0 else false then y3.2==0 else false then(y3.1.length:Int)==1 else false then(y4.list.length:Int)==2 else false then(y6.list.length:Int)==3 else false)
def Q3(x:List ze):Option Bool:=
 bif decide ((x.length:Int)>200)then
  zf (ZU ()) fun y1=>
  some y1
 else
  Qv (fun(s2:(Int×Int)×List UInt8)=>
    bif decide (s2.1.2<(x.length:Int))then
     zR (X:=(Int×Int)×List UInt8) (
       zf (zU (decide ((s2.2.length:Int)>0)) (geti x s2.1.2) (default:ze)) fun y3=>
       need (decide (0<=w64 ((s2.2.length:Int) - 1))&&decide (w64 ((s2.2.length:Int) - 1)<(s2.2.length:Int))|| !(decide ((s2.2.length:Int)>0)))<|
       zf (zU (decide ((s2.2.length:Int)>0)) s2.2[(w64 ((s2.2.length:Int) - 1)).toNat]? (default:UInt8)) fun y4=>
       bif bif decide ((s2.2.length:Int)>0)then y3.kind==(y4.toNat:Int)else false then
        need (decide (0<=w64 ((s2.2.length:Int) - 1))&&decide (w64 ((s2.2.length:Int) - 1)<=(s2.2.length:Int)))<|
        need (Nat.ble (w64 ((s2.2.length:Int) - 1)).toNat s2.2.length)<|
        some (LX.out ((s2.1.1,s2.1.2),List.take (w64 ((s2.2.length:Int) - 1)).toNat s2.2))
       else
        zf (geti x s2.1.2) fun y5=>
        zf (gq y5.kind) fun y6=>
        bif y6 != 0 then
         zf (ZP y6) fun y7=>
         need (zJ s2.2.length 1 1)<|
         some (LX.out ((if w64 ((s2.2.length:Int)+1)>s2.1.1 then w64 ((s2.2.length:Int)+1)else s2.1.1,s2.1.2),s2.2++[y7]))
        else
         some (LX.out ((s2.1.1,s2.1.2),s2.2))) fun j8=>
     some (LO.again ((j8.1.1,w64 (j8.1.2+1)),j8.2))
    else
     some (LO.out s2.1.1):(Int×Int)×List UInt8->Option (LO ((Int×Int)×List UInt8) (Int) _)) ((0,0),[]) fun o9=>
  zf (parseF x) fun y10=>
  bif decide (o9>16)then
   zf (zU (y10.2==20) (ZU ()) (default:Bool)) fun y11=>
   some (bif y10.2==20 then y11 else false)
  else
   zf (qY y10.1) fun y12=>
   bif bif bif y10.2 != 0 then true else y12.2 != 0 then true else y12.1 != o9 then
    some false
   else
    Qv (fun(s13:Int)=>
      bif decide (s13<(y10.1.length:Int))then
       zf (geti y10.1 s13) fun y14=>
       bif y14.token.kind==24 then
        zf (ZU ()) fun y15=>
        some (LO.ret y15)
       else
        some (LO.again (w64 (s13+1)))
      else
       some (LO.out ()):Int->Option (LO (Int) (Unit) _)) 0 fun o16=>
    zf (qY [(⟨(⟨23,[],0,[],false⟩:ze),y10.1⟩:zg)]) fun y17=>
    bif o9==16 then
     zf (zU (y17.2==20) (ZU ()) (default:Bool)) fun y18=>
     some (bif y17.2==20 then y18 else false)
    else
     zf (zU (bif y17.2==0 then y17.1==w64 (y12.1+1)else false) (ZU ()) (default:Bool)) fun y19=>
     some (bif bif y17.2==0 then y17.1==w64 (y12.1+1)else false then y19 else false)
end Go.Lv.VT
end
