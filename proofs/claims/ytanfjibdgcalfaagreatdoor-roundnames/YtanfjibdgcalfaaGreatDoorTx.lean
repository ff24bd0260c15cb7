/- Texts. -/
import Derived.Test.YtanfjibdgcalfaaGreatDoorTy
import Derived.Test.YtanfjibdgcalfaaGreatDoorLf
noncomputable section
set_option linter.unusedSimpArgs false
set_option linter.unusedVariables false
namespace Go.Lv.VT
set_option maxRecDepth 100000
def Wt(_:List zt):Option (VAnb×Int):=none
def stringslite_HasPrefix(fu:Nat)(x:Str×Str):Option Bool:=
 need (decide (0<=(x.2.length:Int))&&decide ((x.2.length:Int)<=(x.1.length:Int))|| !(decide ((x.1.length:Int)>=(x.2.length:Int))))<|
 some (bif decide ((x.1.length:Int)>=(x.2.length:Int))then List.take x.2.length x.1==x.2 else false)
def strings_HasPrefix(fu:Nat)(x:Str×Str):Option Bool:=
 za (stringslite_HasPrefix fu (x.1,x.2)) fun y1=>
 some y1
def qZ(fu:Nat)(x:zb):Option zb:=
 Zd fu (fun(s1:zb)=>
   need (decide (0<=s1.at_)&&decide (s1.at_<=(s1.s.length:Int)))<|
   za (strings_HasPrefix fu (List.drop s1.at_.toNat s1.s,[47,42])) fun y2=>
   bif y2 then
    need (decide (0<=w64 (s1.at_+2))&&decide (w64 (s1.at_+2)<=(s1.s.length:Int)))<|
    za (Tg (List.drop (w64 (s1.at_+2)).toNat s1.s,[42,47])) fun y3=>
    bif decide (y3<0)then
     some (LO.ret (⟨s1.s,(s1.s.length:Int)⟩:zb))
    else
     some (LO.again (⟨s1.s,w64 (s1.at_+w64 (y3+4))⟩:zb))
   else
    some (LO.out s1):zb->Option (LO (zb) (zb) _)) x fun o4=>
 some o4
def zk(fu:Nat)(x:Int×zb):Option Int:=
 bif decide (w64 (x.2.at_+x.1)<(x.2.s.length:Int))then
  za (geti x.2.s (w64 (x.2.at_+x.1))) fun y1=>
  some (w64 (y1.toNat:Int))
 else
  some (-1)
def qX(fu:Nat)(x:Int):Option Bool:=
 some (bif bif x==32 then true else x==9 then true else x==10)
def Zz(fu:Nat)(x:zb):Option zb:=
 Zd fu (fun(s1:zb)=>
   za (zk fu (0,s1)) fun y2=>
   za (qX fu y2) fun y3=>
   bif y3 then
    some (LO.again (⟨s1.s,w64 (s1.at_+1)⟩:zb))
   else
    some (LO.out s1):zb->Option (LO (zb) (zb) _)) x fun o4=>
 some o4
def QA(fu:Nat)(x:Int):Option (List UInt8):=
 bif decide (wu32 x<=2047)then
  za (QG (ibOr IntKind.u8 192 (wu8 (Ve IntKind.i32 x 6)))) fun y1=>
  za (QG (ibOr IntKind.u8 128 (We IntKind.u8 (wu8 x) 63))) fun y2=>
  need (zL 0 2 1)<|
  some [y1,y2]
 else
  zZ (X:=Bool) (
    bif decide (wu32 x<55296)then
     some (LX.out (decide (wu32 x<55296)))
    else
     some (LX.out (bif decide (57343<wu32 x)then decide (wu32 x<=65535)else false))) fun j3=>
  bif j3 then
   za (QG (ibOr IntKind.u8 224 (wu8 (Ve IntKind.i32 x 12)))) fun y4=>
   za (QG (ibOr IntKind.u8 128 (We IntKind.u8 (wu8 (Ve IntKind.i32 x 6)) 63))) fun y5=>
   za (QG (ibOr IntKind.u8 128 (We IntKind.u8 (wu8 x) 63))) fun y6=>
   need (zL 0 3 1)<|
   some [y4,y5,y6]
  else
   bif bif decide (wu32 x>65535)then decide (wu32 x<=1114111)else false then
    za (QG (ibOr IntKind.u8 240 (wu8 (Ve IntKind.i32 x 18)))) fun y7=>
    za (QG (ibOr IntKind.u8 128 (We IntKind.u8 (wu8 (Ve IntKind.i32 x 12)) 63))) fun y8=>
    za (QG (ibOr IntKind.u8 128 (We IntKind.u8 (wu8 (Ve IntKind.i32 x 6)) 63))) fun y9=>
    za (QG (ibOr IntKind.u8 128 (We IntKind.u8 (wu8 x) 63))) fun y10=>
    need (zL 0 4 1)<|
    some [y7,y8,y9,y10]
   else
    need (zL 0 3 1)<|
    some [(239:UInt8),(191:UInt8),(189:UInt8)]
def lq(fu:Nat)(x:Int):Option (List UInt8):=
 bif decide (wu32 x<=127)then
  za (QG (wu8 x)) fun y1=>
  need (zL 0 1 1)<|
  some [y1]
 else
  za (QA fu x) fun y2=>
  some y2
def Qt(fu:Nat)(x:Int×Int×Int):Option Bool:=
 some (bif decide (x.2.1<=x.1)then decide (x.1<=x.2.2)else false)
def qE(fu:Nat)(x:Int):Option Bool:=
 za (Qt fu (x,48,57)) fun y1=>
 some y1
def Kh(fu:Nat)(x:Int):Option Int:=
 za (qE fu x) fun y1=>
 bif y1 then
  some (w64 (x - 48))
 else
  za (zU (x != (-1)) (Qt fu (ibOr IntKind.i64 x 32,97,102)) (default:Bool)) fun y2=>
  bif bif bif bif x != (-1)then y2 else false then decide (x>64)else false then decide (x<128)else false then
   some (w64 (w64 (ibOr IntKind.i64 x 32 - 97)+10))
  else
   some (-1)
def BB(fu:Nat)(x:zb):Option (zb×List UInt8):=
 za (zk fu (0,(⟨x.s,w64 (x.at_+1)⟩:zb))) fun y1=>
 bif y1==(-1)then
  za (lq fu 65533) fun y2=>
  some ((⟨x.s,w64 (x.at_+1)⟩:zb),y2)
 else
  za (Kh fu y1) fun y3=>
  bif decide (y3<0)then
   za (QG (wu8 y1)) fun y4=>
   need (zL 0 1 1)<|
   some ((⟨x.s,w64 (w64 (x.at_+1)+1)⟩:zb),[y4])
  else
   Zd fu (fun(s5:(Int×Int)×zb)=>
     bif decide (s5.1.2<6)then
      za (zk fu (0,s5.2)) fun y6=>
      za (Kh fu y6) fun y7=>
      bif decide (y7<0)then
       some (LO.out (s5.1.1,s5.2))
      else
       some (LO.again ((ibOr IntKind.i64 (iB IntKind.i64 s5.1.1 4) y7,w64 (s5.1.2+1)),(⟨s5.2.s,w64 (s5.2.at_+1)⟩:zb)))
     else
      some (LO.out (s5.1.1,s5.2)):(Int×Int)×zb->Option (LO ((Int×Int)×zb) (Int×zb) _)) ((0,0),(⟨x.s,w64 (x.at_+1)⟩:zb)) fun o8=>
   zZ (X:=Int×zb) (
     za (zk fu (0,o8.2)) fun y9=>
     za (qX fu y9) fun y10=>
     bif y10 then
      some (LX.out (o8.1,(⟨o8.2.s,w64 (o8.2.at_+1)⟩:zb)))
     else
      some (LX.out (o8.1,o8.2))) fun j11=>
   zZ (X:=Int) (
     bif j11.1==0 then
      some (LX.out 65533)
     else
      some (LX.out j11.1)) fun j12=>
   za (lq fu (w32 j12)) fun y13=>
   some (j11.2,y13)
def QB(fu:Nat)(x:Int×List UInt8):Option (List UInt8):=
 bif decide (wu32 x.1<=2047)then
  za (QG (ibOr IntKind.u8 192 (wu8 (Ve IntKind.i32 x.1 6)))) fun y1=>
  za (QG (ibOr IntKind.u8 128 (We IntKind.u8 (wu8 x.1) 63))) fun y2=>
  need (zL x.2.length 2 1)<|
  some (x.2++[y1,y2])
 else
  zZ (X:=Bool×List UInt8) (
    bif decide (wu32 x.1<55296)then
     some (LX.out (decide (wu32 x.1<55296),x.2))
    else
     some (LX.out (bif decide (57343<wu32 x.1)then decide (wu32 x.1<=65535)else false,x.2))) fun j3=>
  bif j3.1 then
   za (QG (ibOr IntKind.u8 224 (wu8 (Ve IntKind.i32 x.1 12)))) fun y4=>
   za (QG (ibOr IntKind.u8 128 (We IntKind.u8 (wu8 (Ve IntKind.i32 x.1 6)) 63))) fun y5=>
   za (QG (ibOr IntKind.u8 128 (We IntKind.u8 (wu8 x.1) 63))) fun y6=>
   need (zL j3.2.length 3 1)<|
   some (j3.2++[y4,y5,y6])
  else
   bif bif decide (wu32 x.1>65535)then decide (wu32 x.1<=1114111)else false then
    za (QG (ibOr IntKind.u8 240 (wu8 (Ve IntKind.i32 x.1 18)))) fun y7=>
    za (QG (ibOr IntKind.u8 128 (We IntKind.u8 (wu8 (Ve IntKind.i32 x.1 12)) 63))) fun y8=>
    za (QG (ibOr IntKind.u8 128 (We IntKind.u8 (wu8 (Ve IntKind.i32 x.1 6)) 63))) fun y9=>
    za (QG (ibOr IntKind.u8 128 (We IntKind.u8 (wu8 x.1) 63))) fun y10=>
    need (zL j3.2.length 4 1)<|
    some (j3.2++[y7,y8,y9,y10])
   else
    need (zL j3.2.length 3 1)<|
    some (j3.2++[(239:UInt8),(191:UInt8),(189:UInt8)])
def jq(fu:Nat)(x:Int×List UInt8):Option (List UInt8):=
 bif decide (wu32 x.1<=127)then
  za (QG (wu8 x.1)) fun y1=>
  need (zL x.2.length 1 1)<|
  some (x.2++[y1])
 else
  za (QB fu (x.1,x.2)) fun y2=>
  some y2
def Zt(fu:Nat)(x:zb×List UInt8):Option (zb×List UInt8):=
 za (zk fu (0,(⟨x.1.s,w64 (x.1.at_+1)⟩:zb))) fun y1=>
 bif y1==(-1)then
  za (jq fu (65533,x.2)) fun y2=>
  some ((⟨x.1.s,w64 (x.1.at_+1)⟩:zb),y2)
 else
  za (Kh fu y1) fun y3=>
  bif decide (y3<0)then
   za (QG (wu8 y1)) fun y4=>
   need (zL x.2.length 1 1)<|
   some ((⟨x.1.s,w64 (w64 (x.1.at_+1)+1)⟩:zb),x.2++[y4])
  else
   Zd fu (fun(s5:(Int×Int)×zb)=>
     bif decide (s5.1.2<6)then
      za (zk fu (0,s5.2)) fun y6=>
      za (Kh fu y6) fun y7=>
      bif decide (y7<0)then
       some (LO.out (s5.1.1,s5.2))
      else
       some (LO.again ((ibOr IntKind.i64 (iB IntKind.i64 s5.1.1 4) y7,w64 (s5.1.2+1)),(⟨s5.2.s,w64 (s5.2.at_+1)⟩:zb)))
     else
      some (LO.out (s5.1.1,s5.2)):(Int×Int)×zb->Option (LO ((Int×Int)×zb) (Int×zb) _)) ((0,0),(⟨x.1.s,w64 (x.1.at_+1)⟩:zb)) fun o8=>
   zZ (X:=Int×zb×List UInt8) (
     za (zk fu (0,o8.2)) fun y9=>
     za (qX fu y9) fun y10=>
     bif y10 then
      some (LX.out (o8.1,(⟨o8.2.s,w64 (o8.2.at_+1)⟩:zb),x.2))
     else
      some (LX.out (o8.1,o8.2,x.2))) fun j11=>
   zZ (X:=Int×List UInt8) (
     bif j11.1==0 then
      some (LX.out (65533,j11.2.2))
     else
      some (LX.out (j11.1,j11.2.2))) fun j12=>
   za (jq fu (w32 j12.1,j12.2)) fun y13=>
   some (j11.2.1,y13)
def LA(fu:Nat)(x:zb):Option (zt×zb):=
 za (zk fu (0,x)) fun y1=>
 Zd fu (fun(s2:zb×zt×List UInt8)=>
   za (zk fu (0,s2.1)) fun y3=>
   bif y3==(-1)then
    some (LO.out (s2.1,s2.2.1,s2.2.2))
   else
    bif y3==y1 then
     some (LO.out ((⟨s2.1.s,w64 (s2.1.at_+1)⟩:zb),s2.2.1,s2.2.2))
    else
     bif y3==10 then
      some (LO.ret ((⟨6,[],0,[],false⟩:zt),s2.1))
     else
      za (zU (y3==92) (zk fu (1,s2.1)) (default:Int)) fun y4=>
      za (zU (!(y4==(-1))&&y3==92) (zk fu (1,s2.1)) (default:Int)) fun y5=>
      bif bif y3==92 then bif y4==(-1)then true else y5==10 else false then
       some (LO.again ((⟨s2.1.s,if(s2.1.s.length:Int)<w64 (s2.1.at_+2)then(s2.1.s.length:Int)else w64 (s2.1.at_+2)⟩:zb),s2.2.1,s2.2.2))
      else
       bif y3==92 then
        za (Zt fu (s2.1,s2.2.2)) fun y6=>
        some (LO.again (y6.1,s2.2.1,y6.2))
       else
        za (QG (wu8 y3)) fun y7=>
        need (zL s2.2.2.length 1 1)<|
        some (LO.again ((⟨s2.1.s,w64 (s2.1.at_+1)⟩:zb),s2.2.1,s2.2.2++[y7])):zb×zt×List UInt8->Option (LO (zb×zt×List UInt8) (zb×zt×List UInt8) _)) ((⟨x.s,w64 (x.at_+1)⟩:zb),(⟨0,[],0,[],false⟩:zt),[]) fun o8=>
 some ((⟨5,o8.2.2,0,[],false⟩:zt),o8.1)
def di(fu:Nat)(x:Int):Option Bool:=
 za (Qt fu (ibOr IntKind.i64 x 32,97,122)) fun y1=>
 some (bif bif bif bif y1 then decide (x<128)else false then decide (x>64)else false then true else x==95 then true else decide (x>=128))
def Hm(fu:Nat)(x:Int):Option Bool:=
 za (di fu x) fun y1=>
 za (zU (!y1) (qE fu x) (default:Bool)) fun y2=>
 some (bif bif y1 then true else y2 then true else x==45)
def Zb(fu:Nat)(x:Int×zb):Option Bool:=
 za (zk fu (x.1,x.2)) fun y1=>
 za (zU (y1==92) (zk fu (w64 (x.1+1),x.2)) (default:Int)) fun y2=>
 some (bif y1==92 then y2 != 10 else false)
def Z6(fu:Nat)(x:Int×zb):Option Bool:=
 za (zk fu (x.1,x.2)) fun y1=>
 bif y1 != 45 then
  za (zk fu (x.1,x.2)) fun y2=>
  za (di fu y2) fun y3=>
  za (zU (!y3) (Zb fu (x.1,x.2)) (default:Bool)) fun y4=>
  some (bif y3 then true else y4)
 else
  za (zk fu (w64 (x.1+1),x.2)) fun y5=>
  za (di fu y5) fun y6=>
  za (zU (!y6) (zk fu (w64 (x.1+1),x.2)) (default:Int)) fun y7=>
  za (zU (!(bif y6 then true else y7==45)) (Zb fu (w64 (x.1+1),x.2)) (default:Bool)) fun y8=>
  some (bif bif y6 then true else y7==45 then true else y8)
def ZJ(fu:Nat)(x:zb):Option (Str×zb):=
 Zd fu (fun(s1:zb×List UInt8)=>
   za (zk fu (0,s1.1)) fun y2=>
   za (Hm fu y2) fun y3=>
   bif y3 then
    za (QG (wu8 y2)) fun y4=>
    need (zL s1.2.length 1 1)<|
    some (LO.again ((⟨s1.1.s,w64 (s1.1.at_+1)⟩:zb),s1.2++[y4]))
   else
    za (zU (y2 != (-1)) (Zb fu (0,s1.1)) (default:Bool)) fun y5=>
    bif bif y2 != (-1)then y5 else false then
     za (Zt fu (s1.1,s1.2)) fun y6=>
     some (LO.again (y6.1,y6.2))
    else
     some (LO.ret (s1.2,s1.1)):zb×List UInt8->Option (LO (zb×List UInt8) (Unit) _)) (x,[]) fun o7=>
 none
def NA(fu:Nat)(x:zb):Option Bool:=
 zZ (X:=Int) (
   za (zk fu (0,x)) fun y1=>
   bif bif y1==43 then true else y1==45 then
    some (LX.out 1)
   else
    some (LX.out 0)) fun j2=>
 zZ (X:=Int) (
   za (zk fu (j2,x)) fun y3=>
   bif y3==46 then
    some (LX.out (w64 (j2+1)))
   else
    some (LX.out j2)) fun j4=>
 za (zk fu (j4,x)) fun y5=>
 za (qE fu y5) fun y6=>
 some y6
def qm(fu:Nat)(x:zb):Option zb:=
 Zd fu (fun(s1:zb)=>
   za (zk fu (0,s1)) fun y2=>
   za (qE fu y2) fun y3=>
   bif y3 then
    some (LO.again (⟨s1.s,w64 (s1.at_+1)⟩:zb))
   else
    some (LO.out s1):zb->Option (LO (zb) (zb) _)) x fun o4=>
 some o4
def SB(fu:Nat)(x:zb):Option (Bool×zb):=
 zZ (X:=zb) (
   za (zk fu (0,x)) fun y1=>
   bif bif y1==43 then true else y1==45 then
    some (LX.out (⟨x.s,w64 (x.at_+1)⟩:zb))
   else
    some (LX.out x)) fun j2=>
 za (qm fu j2) fun y3=>
 zZ (X:=Bool×zb) (
   za (zk fu (0,y3)) fun y4=>
   za (zU (y4==46) (zk fu (1,y3)) (default:Int)) fun y5=>
   za (zU (y4==46) (qE fu y5) (default:Bool)) fun y6=>
   bif bif y4==46 then y6 else false then
    za (qm fu (⟨y3.s,w64 (y3.at_+1)⟩:zb)) fun y7=>
    some (LX.out (false,y7))
   else
    some (LX.out (true,y3))) fun j8=>
 zZ (X:=Bool×zb) (
   za (zk fu (0,j8.2)) fun y9=>
   za (zU (!(y9==101)) (zk fu (0,j8.2)) (default:Int)) fun y10=>
   bif bif y9==101 then true else y10==69 then
    zZ (X:=(Bool×Int)×zb) (
      za (zk fu (1,j8.2)) fun y11=>
      bif bif y11==43 then true else y11==45 then
       some (LX.out ((j8.1,2),j8.2))
      else
       some (LX.out ((j8.1,1),j8.2))) fun j12=>
    za (zk fu (j12.1.2,j12.2)) fun y13=>
    za (qE fu y13) fun y14=>
    bif y14 then
     za (qm fu (⟨j12.2.s,w64 (j12.2.at_+j12.1.2)⟩:zb)) fun y15=>
     some (LX.out (false,y15))
    else
     some (LX.out (j12.1.1,j12.2))
   else
    some (LX.out (j8.1,j8.2))) fun j16=>
 some (j16.1,j16.2)
def Xz(fu:Nat)(x:Str):Option Int:=
 za (geti x 0) fun y1=>
 za (Rj (x,[43,45])) fun y2=>
 zZ (X:=Str×Int) (
   za (Rp (y2,[101,69])) fun y3=>
   bif decide (y3>=0)then
    need (decide (0<=w64 (y3+1))&&decide (w64 (y3+1)<=(y2.length:Int)))<|
    za (Rj (List.drop (w64 (y3+1)).toNat y2,[43,45])) fun y4=>
    need (decide (y4.length<=maxLen))<|
    Zd fu (fun(s5:Int×Int)=>
      bif decide (s5.2<(y4.length:Int))then
       need (decide (0<=s5.2)&&decide (s5.2<(y4.length:Int)))<|
       za y4[s5.2.toNat]? fun y6=>
       some (LO.again (if 1048576<w64 (w64 (10*s5.1)+w64 (wu8 ((y6.toNat:Int) - 48)))then 1048576 else w64 (w64 (10*s5.1)+w64 (wu8 ((y6.toNat:Int) - 48))),w64 (s5.2+1)))
      else
       some (LO.out s5.1):Int×Int->Option (LO (Int×Int) (Int) _)) (0,0) fun o7=>
    zZ (X:=Str×Int×Int) (
      za (geti y2 (w64 (y3+1))) fun y8=>
      bif (y8.toNat:Int)==45 then
       some (LX.out (y2,3,w64 (0 - o7)))
      else
       some (LX.out (y2,3,o7))) fun j9=>
    need (decide (0<=y3)&&decide (y3<=(j9.1.length:Int)))<|
    some (LX.out (List.take y3.toNat j9.1,w64 (j9.2.1+j9.2.2)))
   else
    some (LX.out (y2,3))) fun j10=>
 za (cutF (j10.1,[46])) fun y11=>
 need (jc y11.1.length y11.2.1.length)<|
 zZ (X:=Str×Int) (
   bif decide (w64 (j10.2 - (y11.2.1.length:Int))<0)then
    need (decide (0<=(if w64 (((y11.1++y11.2.1).length:Int)+w64 (j10.2 - (y11.2.1.length:Int)))>0 then w64 (((y11.1++y11.2.1).length:Int)+w64 (j10.2 - (y11.2.1.length:Int)))else 0))&&decide ((if w64 (((y11.1++y11.2.1).length:Int)+w64 (j10.2 - (y11.2.1.length:Int)))>0 then w64 (((y11.1++y11.2.1).length:Int)+w64 (j10.2 - (y11.2.1.length:Int)))else 0)<=((y11.1++y11.2.1).length:Int)))<|
    some (LX.out (List.take (if w64 (((y11.1++y11.2.1).length:Int)+w64 (j10.2 - (y11.2.1.length:Int)))>0 then w64 (((y11.1++y11.2.1).length:Int)+w64 (j10.2 - (y11.2.1.length:Int)))else 0).toNat (y11.1++y11.2.1),w64 (j10.2 - (y11.2.1.length:Int))))
   else
    some (LX.out (y11.1++y11.2.1,w64 (j10.2 - (y11.2.1.length:Int))))) fun j12=>
 need (decide (j12.1.length<=maxLen))<|
 Zd fu (fun(s13:Int×Int)=>
   bif decide (s13.2<(j12.1.length:Int))then
    need (decide (0<=s13.2)&&decide (s13.2<(j12.1.length:Int)))<|
    za j12.1[s13.2.toNat]? fun y14=>
    some (LO.again (if 1000000000000<w64 (w64 (10*s13.1)+w64 (wu8 ((y14.toNat:Int) - 48)))then 1000000000000 else w64 (w64 (10*s13.1)+w64 (wu8 ((y14.toNat:Int) - 48))),w64 (s13.2+1)))
   else
    some (LO.out s13.1):Int×Int->Option (LO (Int×Int) (Int) _)) (0,0) fun o15=>
 Zd fu (fun(s16:Int×Int)=>
   bif bif bif decide (s16.1>0)then decide (s16.2>0)else false then decide (s16.2<1000000000000)else false then
    some (LO.again (w64 (s16.1 - 1),if 1000000000000<w64 (10*s16.2)then 1000000000000 else w64 (10*s16.2)))
   else
    some (LO.out s16.2):Int×Int->Option (LO (Int×Int) (Int) _)) (j12.2,o15) fun o17=>
 zZ (X:=Int) (
   bif (y1.toNat:Int)==45 then
    some (LX.out (w64 (0 - o17)))
   else
    some (LX.out o17)) fun j18=>
 some j18
def RB(fu:Nat)(x:zb):Option (zt×zb):=
 za (SB fu x) fun y1=>
 need (decide (0<=x.at_)&&(decide (x.at_<=y1.2.at_)&&decide (y1.2.at_<=(y1.2.s.length:Int))))<|
 za (Xz fu (List.drop x.at_.toNat (List.take y1.2.at_.toNat y1.2.s))) fun y2=>
 zZ (X:=zb×zt×zt) (
   za (Z6 fu (0,y1.2)) fun y3=>
   bif y3 then
    za (ZJ fu y1.2) fun y4=>
    some (LX.out (y4.2,(⟨0,[],0,[],false⟩:zt),(⟨12,[],y2,y4.1,y1.1⟩:zt)))
   else
    za (zk fu (0,y1.2)) fun y5=>
    bif y5==37 then
     some (LX.out ((⟨y1.2.s,w64 (y1.2.at_+1)⟩:zb),(⟨0,[],0,[],false⟩:zt),(⟨11,[],y2,[],false⟩:zt)))
    else
     some (LX.out (y1.2,(⟨0,[],0,[],false⟩:zt),(⟨10,[],y2,[],y1.1⟩:zt)))) fun j6=>
 some (j6.2.2,j6.1)
def Ze(fu:Nat)(x:Str):Option Str:=
 need (decide (x.length<=maxLen))<|
 Zd fu (fun(s1:Int×List UInt8)=>
   bif decide (s1.1<(x.length:Int))then
    zZ (X:=Int×List UInt8) (
      need (decide (0<=s1.1)&&decide (s1.1<(s1.2.length:Int)))<|
      za s1.2[s1.1.toNat]? fun y2=>
      bif bif decide (65<=(y2.toNat:Int))then decide ((y2.toNat:Int)<=90)else false then
       need (decide (0<=s1.1)&&decide (s1.1<(s1.2.length:Int)))<|
       za s1.2[s1.1.toNat]? fun y3=>
       need (decide (0<=s1.1)&&decide (s1.1<(s1.2.length:Int)))<|
       za s1.2[s1.1.toNat]? fun y4=>
       za (QG (ibOr IntKind.u8 (y3.toNat:Int) 32)) fun y5=>
       some (LX.out (s1.1,List.set s1.2 s1.1.toNat y5))
      else
       some (LX.out (s1.1,s1.2))) fun j6=>
    some (LO.again (w64 (j6.1+1),j6.2))
   else
    some (LO.out s1.2):Int×List UInt8->Option (LO (Int×List UInt8) (List UInt8) _)) (0,x) fun o7=>
 some o7
def ZH(fu:Nat)(x:Str×Str):Option Bool:=
 za (Ze fu x.1) fun y1=>
 za (Ze fu x.2) fun y2=>
 some (y1==y2)
def QW(fu:Nat)(x:zb):Option (zt×zb):=
 Zd fu (fun(s1:zb×zt)=>
   za (zk fu (0,s1.1)) fun y2=>
   bif y2==(-1)then
    some (LO.ret ((⟨8,[],0,[],false⟩:zt),s1.1))
   else
    za (Zb fu (0,s1.1)) fun y3=>
    bif y3 then
     za (BB fu s1.1) fun y4=>
     some (LO.again (y4.1,s1.2))
    else
     za (geti s1.1.s (w64 (w64 (s1.1.at_+1) - 1))) fun y5=>
     bif (y5.toNat:Int)==41 then
      some (LO.ret ((⟨8,[],0,[],false⟩:zt),(⟨s1.1.s,w64 (s1.1.at_+1)⟩:zb)))
     else
      some (LO.again ((⟨s1.1.s,w64 (s1.1.at_+1)⟩:zb),s1.2)):zb×zt->Option (LO (zb×zt) (Unit) _)) (x,(⟨0,[],0,[],false⟩:zt)) fun o6=>
 none
def Yz(fu:Nat)(x:zb):Option (zt×zb):=
 za (Zz fu x) fun y1=>
 Zd fu (fun(s2:zb×zt×List UInt8)=>
   za (zk fu (0,s2.1)) fun y3=>
   zZ (X:=Int×zb×zt×List UInt8) (
     za (qX fu y3) fun y4=>
     bif y4 then
      za (Zz fu s2.1) fun y5=>
      za (zk fu (0,y5)) fun y6=>
      bif bif y6 != 41 then y6 != (-1)else false then
       za (QW fu y5) fun y7=>
       some (LX.ret (LO.ret (y7.1,y7.2)))
      else
       some (LX.out (y6,y5,s2.2.1,s2.2.2))
     else
      some (LX.out (y3,s2.1,s2.2.1,s2.2.2))) fun j8=>
   bif j8.1==(-1)then
    some (LO.ret ((⟨7,j8.2.2.2,0,[],false⟩:zt),j8.2.1))
   else
    bif j8.1==41 then
     some (LO.ret ((⟨7,j8.2.2.2,0,[],false⟩:zt),(⟨j8.2.1.s,w64 (j8.2.1.at_+1)⟩:zb)))
    else
     za (zU (!(bif bif bif bif j8.1==34 then true else j8.1==39 then true else j8.1==40 then true else decide (j8.1<=8)then true else j8.1==11)) (Qt fu (j8.1,14,31)) (default:Bool)) fun y9=>
     bif bif bif bif bif bif bif j8.1==34 then true else j8.1==39 then true else j8.1==40 then true else decide (j8.1<=8)then true else j8.1==11 then true else y9 then true else j8.1==127 then
      za (QW fu j8.2.1) fun y10=>
      some (LO.ret (y10.1,y10.2))
     else
      bif j8.1 != 92 then
       za (QG (wu8 j8.1)) fun y11=>
       need (zL j8.2.2.2.length 1 1)<|
       some (LO.again ((⟨j8.2.1.s,w64 (j8.2.1.at_+1)⟩:zb),j8.2.2.1,j8.2.2.2++[y11]))
      else
       za (Zb fu (0,j8.2.1)) fun y12=>
       bif y12 then
        za (Zt fu (j8.2.1,j8.2.2.2)) fun y13=>
        some (LO.again (y13.1,j8.2.2.1,y13.2))
       else
        za (QW fu j8.2.1) fun y14=>
        some (LO.ret (y14.1,y14.2)):zb×zt×List UInt8->Option (LO (zb×zt×List UInt8) (Unit) _)) (y1,(⟨0,[],0,[],false⟩:zt),[]) fun o15=>
 none
def UA(fu:Nat)(x:zb):Option (zt×zb):=
 za (ZJ fu x) fun y1=>
 za (zk fu (0,y1.2)) fun y2=>
 bif y2 != 40 then
  some ((⟨1,y1.1,0,[],false⟩:zt),y1.2)
 else
  zZ (X:=zb×zt) (
    za (ZH fu (y1.1,[117,114,108])) fun y3=>
    bif y3 then
     za (Zz fu (⟨y1.2.s,w64 (y1.2.at_+1)⟩:zb)) fun y4=>
     za (zk fu (0,y4)) fun y5=>
     bif bif y5 != 34 then y5 != 39 else false then
      za (Yz fu (⟨y1.2.s,w64 (y1.2.at_+1)⟩:zb)) fun y6=>
      some (LX.ret (y6.1,y6.2))
     else
      some (LX.out ((⟨y1.2.s,w64 (y1.2.at_+1)⟩:zb),(⟨0,[],0,[],false⟩:zt)))
    else
     some (LX.out ((⟨y1.2.s,w64 (y1.2.at_+1)⟩:zb),(⟨0,[],0,[],false⟩:zt)))) fun j7=>
  some ((⟨2,y1.1,0,[],false⟩:zt),j7.1)
def strings_IndexByte(fu:Nat)(x:Str×Int):Option Int:=
 za (Kk (x.1,x.2)) fun y1=>
 some y1
def EA(fu:Nat)(x:zb):Option (zt×zb):=
 za (zk fu (0,x)) fun y1=>
 need (decide (0<=x.at_)&&decide (x.at_<=(x.s.length:Int)))<|
 za (qX fu y1) fun y2=>
 bif y2 then
  za (Zz fu x) fun y3=>
  some ((⟨13,[],0,[],false⟩:zt),y3)
 else
  bif bif y1==34 then true else y1==39 then
   za (LA fu x) fun y4=>
   some (y4.1,y4.2)
  else
   za (zU (y1==35) (zk fu (1,x)) (default:Int)) fun y5=>
   za (zU (y1==35) (Hm fu y5) (default:Bool)) fun y6=>
   za (zU (!y6&&y1==35) (Zb fu (1,x)) (default:Bool)) fun y7=>
   bif bif y1==35 then bif y6 then true else y7 else false then
    za (Z6 fu (1,x)) fun y8=>
    za (ZJ fu (⟨x.s,w64 (x.at_+1)⟩:zb)) fun y9=>
    some ((⟨4,y9.1,0,[],y8⟩:zt),y9.2)
   else
    za (NA fu x) fun y10=>
    bif y10 then
     za (RB fu x) fun y11=>
     some (y11.1,y11.2)
    else
     za (strings_HasPrefix fu (List.drop x.at_.toNat x.s,[45,45,62])) fun y12=>
     bif y12 then
      some ((⟨15,[],0,[],false⟩:zt),(⟨x.s,w64 (x.at_+3)⟩:zb))
     else
      za (strings_HasPrefix fu (List.drop x.at_.toNat x.s,[60,33,45,45])) fun y13=>
      bif y13 then
       some ((⟨14,[],0,[],false⟩:zt),(⟨x.s,w64 (x.at_+4)⟩:zb))
      else
       za (zU (y1==64) (Z6 fu (1,x)) (default:Bool)) fun y14=>
       bif bif y1==64 then y14 else false then
        za (ZJ fu (⟨x.s,w64 (x.at_+1)⟩:zb)) fun y15=>
        some ((⟨3,y15.1,0,[],false⟩:zt),y15.2)
       else
        za (Z6 fu (0,x)) fun y16=>
        bif y16 then
         za (UA fu x) fun y17=>
         some (y17.1,y17.2)
        else
         za (strings_IndexByte fu ([58,59,44,91,93,40,41,123,125],wu8 y1)) fun y18=>
         bif decide (y18>=0)then
          some ((⟨wu8 (16+wu8 y18),[],0,[],false⟩:zt),(⟨x.s,w64 (x.at_+1)⟩:zb))
         else
          need (decide (1<=((List.drop x.at_.toNat x.s).length:Int)))<|
          some ((⟨9,List.take 1 (List.drop x.at_.toNat x.s),0,[],false⟩:zt),(⟨x.s,w64 (x.at_+1)⟩:zb))
def dz(fu:Nat)(x:(zt×Int×Int)×List zt):Option (List zt):=
 need (zL x.2.length 1 56)<|
 some (x.2++[x.1.1])
def Lx(fu:Nat)(x:Str):Option (Int×List zt):=
 za (yj x) fun y1=>
 bif y1.2 != 0 then
  some (y1.2,[])
 else
  za (qZ fu (⟨y1.1,0⟩:zb)) fun y2=>
  Zd fu (fun(s3:Int×List zt×zb)=>
    bif decide (s3.2.2.at_<(y1.1.length:Int))then
     bif decide (w64 (s3.1+1)>1500)then
      some (LO.ret (4,s3.2.1))
     else
      za (EA fu s3.2.2) fun y4=>
      za (dz fu ((y4.1,s3.2.2.at_,y4.2.at_),s3.2.1)) fun y5=>
      za (qZ fu y4.2) fun y6=>
      some (LO.again (w64 (s3.1+1),y5,y6))
    else
     some (LO.out (s3.2.1,s3.2.2)):Int×List zt×zb->Option (LO (Int×List zt×zb) (List zt×zb) _)) (0,[],y2) fun o7=>
  some (0,o7.1)
def Qs(fu:Nat)(x:Str):Option (List zt×Int):=
 za (Lx fu x) fun y1=>
 bif y1.1 != 0 then
  some ([],y1.1)
 else
  some (y1.2,0)
def gp(fu:Nat)(x:List ze):Option Int:=
 bif (x.length:Int)==0 then
  some 0
 else
  za (geti x 0) fun y1=>
  some y1.token.kind
def GA(fu:Nat)(x:Int×List UInt8):Option Int:=
 Zd fu (fun(s1:Int)=>
   bif decide (s1<(x.2.length:Int))then
    need (decide (0<=s1)&&decide (s1<(x.2.length:Int)))<|
    za x.2[s1.toNat]? fun y2=>
    bif x.1==(y2.toNat:Int)then
     some (LO.ret s1)
    else
     some (LO.again (w64 (s1+1)))
   else
    some (LO.out ()):Int->Option (LO (Int) (Unit) _)) 0 fun o3=>
 some (-1)
def VB(fu:Nat)(x:Int×List UInt8):Option Bool:=
 za (GA fu (x.1,x.2)) fun y1=>
 some (decide (y1>=0))
def Tx(fu:Nat)(x:ze×List UInt8):Option Bool:=
 za (VB fu (x.1.token.kind,x.2)) fun y1=>
 some y1
def nA(fu:Nat)(x:List ze×List UInt8):Option Int:=
 Zd fu (fun(s1:Int)=>
   bif decide (s1<(x.1.length:Int))then
    za (geti x.1 s1) fun y2=>
    za (Tx fu ((⟨y2.token,y2.list⟩:ze),x.2)) fun y3=>
    bif y3 then
     some (LO.ret s1)
    else
     some (LO.again (w64 (s1+1)))
   else
    some (LO.out ()):Int->Option (LO (Int) (Unit) _)) 0 fun o4=>
 some (-1)
def Hw(fu:Nat)(x:List ze×List UInt8):Option (List ze×List ze):=
 za (nA fu (x.1,x.2)) fun y1=>
 bif decide (y1<0)then
  some (x.1,[])
 else
  need (decide (0<=y1)&&decide (y1<=(x.1.length:Int)))<|
  need (decide (0<=y1)&&decide (y1<=(x.1.length:Int)))<|
  some (List.take y1.toNat x.1,List.drop y1.toNat x.1)
def Xh(fu:Nat)(x:Int):Option Int:=
 bif x==2 then
  some 22
 else
  zZ (X:=Bool) (
    bif x==19 then
     some (LX.out (x==19))
    else
     bif x==21 then
      some (LX.out (x==21))
     else
      some (LX.out (x==23))) fun j1=>
  bif j1 then
   some (wu8 (x+1))
  else
   some 0
def Nw(fu:Nat)(Ff:List ze×Int->Option Zj)(x:List ze×Int):Option Zj:=
 Zd fu (fun(s1:Int×Zj)=>
   bif decide (s1.1<(x.1.length:Int))then
    zZ (X:=Int×Zj) (
      za (geti x.1 s1.1) fun y2=>
      za (Xh fu y2.token.kind) fun y3=>
      zZ (X:=Zj) (
        bif bif bif x.2 != 0 then y2.token.kind==x.2 else false then true else bif y3==0 then decide ((y2.list.length:Int)>0)else false then
         some (LX.out (⟨s1.2.depth,w64 (s1.2.tokens+1),true⟩:Zj))
        else
         some (LX.out (⟨s1.2.depth,w64 (s1.2.tokens+1),s1.2.bad⟩:Zj))) fun j4=>
      bif y3==0 then
       some (LX.out (s1.1,j4))
      else
       za (Ff (y2.list,y3)) fun y5=>
       some (LX.out (s1.1,(⟨if w64 (y5.depth+1)>j4.depth then w64 (y5.depth+1)else j4.depth,w64 (w64 (j4.tokens+y5.tokens)+1),bif j4.bad then true else y5.bad⟩:Zj)))) fun j6=>
    some (LO.again (w64 (j6.1+1),j6.2))
   else
    some (LO.out s1.2):Int×Zj->Option (LO (Int×Zj) (Zj) _)) (0,(⟨0,0,false⟩:Zj)) fun o7=>
 some o7
def Ff(fu:Nat):List ze×Int->Option Zj:=Bd (Nw fu) fu
def ZU(fu:Nat)(x:List ze):Option Int:=
 za (Ff fu (x,0)) fun y1=>
 bif decide (y1.depth>16)then
  some 20
 else
  bif decide (y1.tokens>1500)then
   some 4
  else
   bif y1.bad then
    some 8
   else
    some 0
def zT(fu:Nat)(x:Int×zm):Option zt:=
 bif decide (w64 (x.2.at_+x.1)<(x.2.v.length:Int))then
  za (geti x.2.v (w64 (x.2.at_+x.1))) fun y1=>
  some y1.token
 else
  some (⟨0,[],0,[],false⟩:zt)
def Za(fu:Nat)(x:zm):Option (Bool×zm):=
 Zd fu (fun(s1:zm)=>
   za (zT fu (0,s1)) fun y2=>
   bif y2.kind==13 then
    some (LO.again (⟨s1.v,w64 (s1.at_+1)⟩:zm))
   else
    some (LO.out s1):zm->Option (LO (zm) (zm) _)) x fun o3=>
 some (decide (o3.at_>x.at_),o3)
def Zy(fu:Nat)(x:Str×zm):Option (Bool×zm):=
 za (zT fu (0,x.2)) fun y1=>
 bif bif y1.kind != 9 then true else !(y1.text==x.1)then
  some (false,x.2)
 else
  some (true,(⟨x.2.v,w64 (x.2.at_+1)⟩:zm))
def Ar(fu:Nat)(x:zm):Option (Int×zm):=
 Zd fu (fun(s1:Int×zm)=>
   bif decide (s1.1<3)then
    need (decide (0<=s1.1)&&(decide (s1.1<=w64 (s1.1+1))&&decide (w64 (s1.1+1)<=3)))<|
    za (Zy fu (List.drop s1.1.toNat (List.take (w64 (s1.1+1)).toNat ([62,43,126]:Str)),s1.2)) fun y2=>
    bif y2.1 then
     za (Za fu y2.2) fun y3=>
     some (LO.ret (wu8 (2+wu8 s1.1),y3.2))
    else
     some (LO.again (w64 (s1.1+1),y2.2))
   else
    some (LO.out s1.2):Int×zm->Option (LO (Int×zm) (zm) _)) (0,x) fun o4=>
 some (0,o4)
def xq(fu:Nat)(x:Int×zm):Option (List ze):=
 za (geti x.2.v (w64 (x.2.at_+x.1))) fun y1=>
 some y1.list
def ZR(fu:Nat)(x:zm):Option Bool:=
 some (x.at_==(x.v.length:Int))
def Dx(fu:Nat)(x:List ze):Option (zC×Bool):=
 za (Za fu (⟨x,0⟩:zm)) fun y1=>
 za (zT fu (0,y1.2)) fun y2=>
 za (Ze fu y2.text) fun y3=>
 za (zT fu (0,y1.2)) fun y4=>
 bif y4.kind != 1 then
  some ((⟨3,y3,0,[],false,(⟨0,0⟩:VAnb),false,[]⟩:zC),false)
 else
  za (Za fu (⟨y1.2.v,w64 (y1.2.at_+1)⟩:zm)) fun y5=>
  za (ZR fu y5.2) fun y6=>
  bif y6 then
   some ((⟨3,y3,0,[],false,(⟨0,0⟩:VAnb),false,[]⟩:zC),true)
  else
   zZ (X:=(Int×Str×Int×Str×Bool×Int×Int×Bool)×zm×(Int×Str×Int×Str×Bool×Int×Int×Bool)) (
     za (Zy fu ([61],y5.2)) fun y7=>
     bif y7.1 then
      some (LX.out ((0,[],0,[],false,0,0,false),y7.2,(3,y3,1,[],false,0,0,false)))
     else
      za (zT fu (0,y7.2)) fun y8=>
      za (Tg ([126,124,94,36,42],y8.text)) fun y9=>
      bif bif y8.kind != 9 then true else decide (y9<0)then
       some (LX.ret ((⟨3,y3,0,[],false,(⟨0,0⟩:VAnb),false,[]⟩:zC),false))
      else
       za (Zy fu ([61],(⟨y7.2.v,w64 (y7.2.at_+1)⟩:zm))) fun y10=>
       bif !y10.1 then
        some (LX.ret ((⟨3,y3,0,[],false,(⟨0,0⟩:VAnb),false,[]⟩:zC),false))
       else
        some (LX.out ((0,[],0,[],false,0,0,false),y10.2,(3,y3,wu8 (2+wu8 y9),[],false,0,0,false)))) fun j11=>
   za (Za fu j11.2.1) fun y12=>
   za (zT fu (0,y12.2)) fun y13=>
   bif bif y13.kind != 1 then y13.kind != 5 else false then
    some ((⟨j11.2.2.1,j11.2.2.2.1,j11.2.2.2.2.1,j11.2.2.2.2.2.1,j11.2.2.2.2.2.2.1,(⟨j11.2.2.2.2.2.2.2.1,j11.2.2.2.2.2.2.2.2.1⟩:VAnb),j11.2.2.2.2.2.2.2.2.2,[]⟩:zC),false)
   else
    za (Za fu (⟨y12.2.v,w64 (y12.2.at_+1)⟩:zm)) fun y14=>
    za (zT fu (0,y14.2)) fun y15=>
    bif y15.kind==1 then
     za (Za fu (⟨y14.2.v,w64 (y14.2.at_+1)⟩:zm)) fun y16=>
     za (ZH fu (y15.text,[105])) fun y17=>
     za (ZR fu y16.2) fun y18=>
     za (zU (!y17&&y18) (ZH fu (y15.text,[115])) (default:Bool)) fun y19=>
     some ((⟨j11.2.2.1,j11.2.2.2.1,j11.2.2.2.2.1,y13.text,y17,(⟨j11.2.2.2.2.2.2.2.1,j11.2.2.2.2.2.2.2.2.1⟩:VAnb),j11.2.2.2.2.2.2.2.2.2,[]⟩:zC),bif y18 then bif y17 then true else y19 else false)
    else
     za (ZR fu y14.2) fun y20=>
     some ((⟨j11.2.2.1,j11.2.2.2.1,j11.2.2.2.2.1,y13.text,j11.2.2.2.2.2.2.1,(⟨j11.2.2.2.2.2.2.2.1,j11.2.2.2.2.2.2.2.2.1⟩:VAnb),j11.2.2.2.2.2.2.2.2.2,[]⟩:zC),y20)
def Yh(fu:Nat)(x:Unit):Option (List Str):=
 some [[108,105,110,107],[118,105,115,105,116,101,100],[97,110,121,45,108,105,110,107],[114,111,111,116],[101,109,112,116,121],[110,116,104,45,99,104,105,108,100],[110,116,104,45,108,97,115,116,45,99,104,105,108,100],[105,115],[119,104,101,114,101],[110,111,116],[104,97,115]]
def slices_Index_string(fu:Nat)(x:List Str×Str):Option Int:=
 Zd fu (fun(s1:Int)=>
   bif decide (s1<(x.1.length:Int))then
    za (geti x.1 s1) fun y2=>
    bif x.2==y2 then
     some (LO.ret s1)
    else
     some (LO.again (w64 (s1+1)))
   else
    some (LO.out ()):Int->Option (LO (Int) (Unit) _)) 0 fun o3=>
 some (-1)
def Rx(fu:Nat)(x:Str):Option (zC×Bool):=
 za (Ze fu x) fun y1=>
 bif y1==[102,105,114,115,116,45,99,104,105,108,100]then
  some ((⟨9,[],0,[],false,(⟨0,1⟩:VAnb),false,[]⟩:zC),true)
 else
  bif y1==[108,97,115,116,45,99,104,105,108,100]then
   some ((⟨10,[],0,[],false,(⟨0,1⟩:VAnb),false,[]⟩:zC),true)
  else
   za (Yh fu ()) fun y2=>
   za (Ze fu x) fun y3=>
   za (slices_Index_string fu (y2,y3)) fun y4=>
   some ((⟨wu8 (4+wu8 (if 0>y4 then 0 else y4)),[],0,[],false,(⟨0,0⟩:VAnb),false,[]⟩:zC),bif decide (y4>=0)then decide (y4<5)else false)
def gy(fu:Nat)(x:ze):Option Bool:=
 za (zU (x.token.kind==1) (ZH fu (x.token.text,[111,102])) (default:Bool)) fun y1=>
 some (bif x.token.kind==1 then y1 else false)
def QT(fu:Nat)(x:List ze):Option Int:=
 Zd fu (fun(s1:Int)=>
   bif decide (s1<(x.length:Int))then
    za (geti x s1) fun y2=>
    za (gy fu (⟨y2.token,y2.list⟩:ze)) fun y3=>
    bif y3 then
     some (LO.ret s1)
    else
     some (LO.again (w64 (s1+1)))
   else
    some (LO.out ()):Int->Option (LO (Int) (Unit) _)) 0 fun o4=>
 some (-1)
def qA(fu:Nat)(x:zh×Int):Option (zh×Bool):=
 bif bif x.1.deep==3 then true else bif x.1.has then x.2==14 else false then
  some ((⟨0,false⟩:zh),false)
 else
  some ((⟨w64 (x.1.deep+1),bif x.1.has then true else x.2==14⟩:zh),true)
def Jy(fu:Nat)(Q9:List ze×List zt->Option (List zt))(x:List ze×List zt):Option (List zt):=
 Zd fu (fun(s1:Int×List zt)=>
   bif decide (s1.1<(x.1.length:Int))then
    zZ (X:=Int×List zt) (
      za (geti x.1 s1.1) fun y2=>
      need (zL s1.2.length 1 56)<|
      za (Xh fu y2.token.kind) fun y3=>
      bif y3 != 0 then
       za (Q9 (y2.list,s1.2++[y2.token])) fun y4=>
       need (zL y4.length 1 56)<|
       some (LX.out (s1.1,y4++[(⟨y3,[],0,[],false⟩:zt)]))
      else
       some (LX.out (s1.1,s1.2++[y2.token]))) fun j5=>
    some (LO.again (w64 (j5.1+1),j5.2))
   else
    some (LO.out s1.2):Int×List zt->Option (LO (Int×List zt) (List zt) _)) (0,x.2) fun o6=>
 some o6
def Q9(fu:Nat):List ze×List zt->Option (List zt):=Bd (Jy fu) fu
def ui(fu:Nat)(x:List ze):Option (List zt):=
 Zd fu (fun(s1:Int×List zt)=>
   bif decide (s1.1<(x.length:Int))then
    zZ (X:=Int×List zt) (
      za (geti x s1.1) fun y2=>
      need (zL s1.2.length 1 56)<|
      za (Xh fu y2.token.kind) fun y3=>
      bif y3 != 0 then
       za (Q9 fu (y2.list,s1.2++[y2.token])) fun y4=>
       need (zL y4.length 1 56)<|
       some (LX.out (s1.1,y4++[(⟨y3,[],0,[],false⟩:zt)]))
      else
       some (LX.out (s1.1,s1.2++[y2.token]))) fun j5=>
    some (LO.again (w64 (j5.1+1),j5.2))
   else
    some (LO.out s1.2):Int×List zt->Option (LO (Int×List zt) (List zt) _)) (0,[]) fun o6=>
 some o6
def uk(fu:Nat)(x:List ze):Option (List zt×Int):=
 za (ZU fu x) fun y1=>
 bif y1 != 0 then
  some ([],y1)
 else
  za (ui fu x) fun y2=>
  some (y2,0)
def Jm(fu:Nat)(x:Str×Int):Option Bool:=
 za (zU (!(decide ((x.1.length:Int)>x.2))) (strings_IndexByte fu (x.1,0)) (default:Int)) fun y1=>
 some (bif decide ((x.1.length:Int)>x.2)then true else decide (y1>=0))
def Mm(fu:Nat)(x:Str):Option Bool:=
 za (zU (!(x==[])) (Jm fu (x,64)) (default:Bool)) fun y1=>
 some (bif !(x==[])then !y1 else false)
def Lm(fu:Nat)(x:Str):Option Bool:=
 za (Mm fu x) fun y1=>
 za (zU y1 (Ze fu x) (default:Str)) fun y2=>
 some (bif y1 then y2==x else false)
def iy(fu:Nat)(x:zC):Option (Bool×Bool):=
 zZ (X:=Bool) (
   bif x.kind==9 then
    some (LX.out (x.kind==9))
   else
    some (LX.out (x.kind==10))) fun j1=>
 bif j1 then
  some (x.of_,false)
 else
  zZ (X:=Bool) (
    bif x.kind==11 then
     some (LX.out (x.kind==11))
    else
     some (LX.out (x.kind==12))) fun j2=>
  bif j2 then
   some (true,true)
  else
   zZ (X:=Bool) (
     bif x.kind==13 then
      some (LX.out (x.kind==13))
     else
      some (LX.out (x.kind==14))) fun j3=>
   bif j3 then
    some (true,false)
   else
    some (false,true)
def Fq(fu:Nat)(x:Int):Option Bool:=
 some (bif decide ((-1000000000)<=x)then decide (x<=1000000000)else false)
def nk(fu:Nat)(x:VAnb):Option Int:=
 za (Fq fu x.a) fun y1=>
 za (zU (!(!y1)) (Fq fu x.b) (default:Bool)) fun y2=>
 bif bif !y1 then true else !y2 then
  some 8
 else
  some 0
def Tz(fu:Nat)(zf:zA×zh->Option Bool)(x:zA×zh):Option Bool:=
 za (zf ((⟨x.1.tag,x.1.simples⟩:zA),x.2)) fun y1=>
 some (!y1)
def Qx(fu:Nat)(zf:zA×zh->Option Bool)(x:List zA×zh):Option Int:=
 Zd fu (fun(s1:Int)=>
   bif decide (s1<(x.1.length:Int))then
    za (geti x.1 s1) fun y2=>
    za (Tz fu zf ((⟨y2.tag,y2.simples⟩:zA),x.2)) fun y3=>
    bif y3 then
     some (LO.ret s1)
    else
     some (LO.again (w64 (s1+1)))
   else
    some (LO.out ()):Int->Option (LO (Int) (Unit) _)) 0 fun o4=>
 some (-1)
def qJ(fu:Nat)(zf:zA×zh->Option Bool)(x:List zA×zh):Option Bool:=
 za (Qx fu zf (x.1,x.2)) fun y1=>
 some (decide (y1>=0))
def Ym(fu:Nat)(zf:zA×zh->Option Bool)(x:zu×zh×Bool):Option Bool:=
 bif bif bif bif !(x.2.2==(x.1.lead != 0))then true else decide (x.1.lead>4)then true else w64 ((x.1.combs.length:Int)+1) != (x.1.parts.length:Int)then true else decide ((x.1.parts.length:Int)>64)then
  some false
 else
  Zd fu (fun(s1:Int)=>
    bif decide (s1<(x.1.combs.length:Int))then
     za (geti x.1.combs s1) fun y2=>
     bif bif decide ((y2.toNat:Int)<1)then true else decide ((y2.toNat:Int)>4)then
      some (LO.ret false)
     else
      some (LO.again (w64 (s1+1)))
    else
     some (LO.out ()):Int->Option (LO (Int) (Unit) _)) 0 fun o3=>
  za (qJ fu zf (x.1.parts,x.2.1)) fun y4=>
  some (!y4)
def kz(fu:Nat)(zf:zA×zh->Option Bool)(x:zu×zh×zC):Option Bool:=
 za (Ym fu zf ((⟨x.1.lead,x.1.parts,x.1.combs⟩:zu),x.2.1,x.2.2.kind==14)) fun y1=>
 some (!y1)
def QS(fu:Nat)(zf:zA×zh->Option Bool)(x:List zu×zh×zC):Option Int:=
 Zd fu (fun(s1:Int)=>
   bif decide (s1<(x.1.length:Int))then
    za (geti x.1 s1) fun y2=>
    za (kz fu zf ((⟨y2.lead,y2.parts,y2.combs⟩:zu),x.2.1,(⟨x.2.2.kind,x.2.2.name,x.2.2.op,x.2.2.value,x.2.2.fold,x.2.2.anb,x.2.2.of_,x.2.2.list⟩:zC))) fun y3=>
    bif y3 then
     some (LO.ret s1)
    else
     some (LO.again (w64 (s1+1)))
   else
    some (LO.out ()):Int->Option (LO (Int) (Unit) _)) 0 fun o4=>
 some (-1)
def qV(fu:Nat)(zf:zA×zh->Option Bool)(x:List zu×zh×zC):Option Bool:=
 za (QS fu zf (x.1,x.2.1,(⟨x.2.2.kind,x.2.2.name,x.2.2.op,x.2.2.value,x.2.2.fold,x.2.2.anb,x.2.2.of_,x.2.2.list⟩:zC))) fun y1=>
 some (decide (y1>=0))
def ry(fu:Nat)(zf:zA×zh->Option Bool)(x:zC×zh):Option Bool:=
 za (iy fu (⟨x.1.kind,x.1.name,x.1.op,x.1.value,x.1.fold,x.1.anb,x.1.of_,x.1.list⟩:zC)) fun y1=>
 zZ (X:=Unit) (
   bif y1.1 then
    za (qA fu (x.2,x.1.kind)) fun y2=>
    za (zU (!(bif !y2.2 then true else bif !y1.2 then(x.1.list.length:Int)==0 else false)) (qV fu zf (x.1.list,y2.1,(⟨x.1.kind,x.1.name,x.1.op,x.1.value,x.1.fold,x.1.anb,x.1.of_,x.1.list⟩:zC))) (default:Bool)) fun y3=>
    bif bif bif !y2.2 then true else bif !y1.2 then(x.1.list.length:Int)==0 else false then true else y3 then
     some (LX.ret false)
    else
     some (LX.out ())
   else
    bif decide ((x.1.list.length:Int)>0)then
     some (LX.ret false)
    else
     some (LX.out ())) fun j4=>
 bif bif bif !(x.1.kind==3)then bif bif x.1.op != 0 then true else !(x.1.value==[])then true else x.1.fold else false then true else bif !(bif x.1.kind==9 then true else x.1.kind==10)then bif x.1.of_ then true else !(x.1.anb.a==0&&(x.1.anb.b==0&&true))else false then
  some false
 else
  zZ (X:=Bool) (
    bif x.1.kind==1 then
     some (LX.out (x.1.kind==1))
    else
     some (LX.out (x.1.kind==2))) fun j5=>
  bif j5 then
   za (Mm fu x.1.name) fun y6=>
   some y6
  else
   bif x.1.kind==3 then
    za (Lm fu x.1.name) fun y7=>
    za (zU (bif y7 then decide (x.1.op<=6)else false) (Jm fu (x.1.value,400)) (default:Bool)) fun y8=>
    some (bif bif bif y7 then decide (x.1.op<=6)else false then !y8 else false then bif x.1.op != 0 then true else bif x.1.value==[]then !x.1.fold else false else false)
   else
    za (zU (!(!(bif x.1.kind==9 then true else x.1.kind==10))&&(bif bif x.1.name==[]then decide (x.1.kind>=4)else false then decide (x.1.kind<=14)else false)) (nk fu x.1.anb) (default:Int)) fun y9=>
    some (bif bif bif x.1.name==[]then decide (x.1.kind>=4)else false then decide (x.1.kind<=14)else false then bif !(bif x.1.kind==9 then true else x.1.kind==10)then true else y9==0 else false)
def uz(fu:Nat)(zf:zA×zh->Option Bool)(x:zA×zh):Option Bool:=
 za (zU (bif !(x.1.tag==[])then !(x.1.tag==[42])else false) (Lm fu x.1.tag) (default:Bool)) fun y1=>
 bif bif bif bif !(x.1.tag==[])then !(x.1.tag==[42])else false then !y1 else false then true else decide ((x.1.simples.length:Int)>64)then
  some false
 else
  Zd fu (fun(s2:Int)=>
    bif decide (s2<(x.1.simples.length:Int))then
     za (geti x.1.simples s2) fun y3=>
     za (ry fu zf ((⟨y3.kind,y3.name,y3.op,y3.value,y3.fold,y3.anb,y3.of_,y3.list⟩:zC),x.2)) fun y4=>
     bif !y4 then
      some (LO.ret false)
     else
      some (LO.again (w64 (s2+1)))
    else
     some (LO.out ()):Int->Option (LO (Int) (Unit) _)) 0 fun o5=>
  some (bif !(x.1.tag==[])then true else decide ((x.1.simples.length:Int)>0))
def zf(fu:Nat):zA×zh->Option Bool:=Bd (uz fu) fu
def Kw(fu:Nat)(zF:List ze×zh×Bool×Bool->Option (List zu×Bool))(x:zC×List ze×zh):Option (zC×Bool):=
 za (QT fu x.2.1) fun y1=>
 zZ (X:=List ze×zC×(Int×Str×Int×Str×Bool×Int×Int×Bool)) (
   bif decide (y1>=0)then
    za (qA fu (x.2.2,x.1.kind)) fun y2=>
    need (decide (0<=w64 (y1+1))&&decide (w64 (y1+1)<=(x.2.1.length:Int)))<|
    za (zF (List.drop (w64 (y1+1)).toNat x.2.1,y2.1,false,false)) fun y3=>
    bif bif !y2.2 then true else !y3.2 then
     some (LX.ret ((⟨x.1.kind,x.1.name,x.1.op,x.1.value,x.1.fold,x.1.anb,x.1.of_,x.1.list⟩:zC),false))
    else
     need (decide (0<=y1)&&decide (y1<=(x.2.1.length:Int)))<|
     some (LX.out (List.take y1.toNat x.2.1,(⟨x.1.kind,x.1.name,x.1.op,x.1.value,x.1.fold,x.1.anb,true,y3.1⟩:zC),(0,[],0,[],false,0,0,false)))
   else
    some (LX.out (x.2.1,(⟨x.1.kind,x.1.name,x.1.op,x.1.value,x.1.fold,x.1.anb,x.1.of_,x.1.list⟩:zC),(0,[],0,[],false,0,0,false)))) fun j4=>
 za (uk fu j4.1) fun y5=>
 bif y5.2 != 0 then
  some ((⟨j4.2.1.kind,j4.2.1.name,j4.2.1.op,j4.2.1.value,j4.2.1.fold,j4.2.1.anb,j4.2.1.of_,j4.2.1.list⟩:zC),false)
 else
  za (Wt y5.1) fun y6=>
  some ((⟨j4.2.1.kind,j4.2.1.name,j4.2.1.op,j4.2.1.value,j4.2.1.fold,y6.1,j4.2.1.of_,j4.2.1.list⟩:zC),y6.2==0)
def nz(fu:Nat)(zF:List ze×zh×Bool×Bool->Option (List zu×Bool))(x:Str×List ze×zh):Option (zC×Bool):=
 za (Yh fu ()) fun y1=>
 za (Ze fu x.1) fun y2=>
 za (slices_Index_string fu (y1,y2)) fun y3=>
 bif decide (y3<5)then
  some ((⟨0,[],0,[],false,(⟨0,0⟩:VAnb),false,[]⟩:zC),false)
 else
  bif decide (wu8 (4+wu8 y3)<=10)then
   za (Kw fu zF ((⟨wu8 (4+wu8 y3),[],0,[],false,(⟨0,0⟩:VAnb),false,[]⟩:zC),x.2.1,x.2.2)) fun y4=>
   some ((⟨y4.1.kind,y4.1.name,y4.1.op,y4.1.value,y4.1.fold,y4.1.anb,y4.1.of_,y4.1.list⟩:zC),y4.2)
  else
   za (qA fu (x.2.2,wu8 (4+wu8 y3))) fun y5=>
   bif !y5.2 then
    some ((⟨wu8 (4+wu8 y3),[],0,[],false,(⟨0,0⟩:VAnb),false,[]⟩:zC),false)
   else
    za (zF (x.2.1,y5.1,wu8 (4+wu8 y3)==14,decide (wu8 (4+wu8 y3)<=12))) fun y6=>
    some ((⟨wu8 (4+wu8 y3),[],0,[],false,(⟨0,0⟩:VAnb),false,y6.1⟩:zC),y6.2)
def rA(fu:Nat)(zF:List ze×zh×Bool×Bool->Option (List zu×Bool))(x:zh×zm):Option ((List zC×Bool)×zm):=
 Zd fu (fun(s1:zm×List zC)=>
   za (zT fu (1,s1.1)) fun y2=>
   zZ (X:=Bool×zm×List zC×zC) (
     za (zT fu (0,s1.1)) fun y3=>
     bif y3.kind==4 then
      some (LX.out (y3.flag,(⟨s1.1.v,w64 (s1.1.at_+1)⟩:zm),s1.2,(⟨1,y3.text,0,[],false,(⟨0,0⟩:VAnb),false,[]⟩:zC)))
     else
      bif bif y3.kind==9 then y3.text==[46]else false then
       some (LX.out (y2.kind==1,(⟨s1.1.v,w64 (s1.1.at_+2)⟩:zm),s1.2,(⟨2,y2.text,0,[],false,(⟨0,0⟩:VAnb),false,[]⟩:zC)))
      else
       bif y3.kind==19 then
        za (xq fu (0,s1.1)) fun y4=>
        za (Dx fu y4) fun y5=>
        some (LX.out (y5.2,(⟨s1.1.v,w64 (s1.1.at_+1)⟩:zm),s1.2,(⟨y5.1.kind,y5.1.name,y5.1.op,y5.1.value,y5.1.fold,y5.1.anb,y5.1.of_,y5.1.list⟩:zC)))
       else
        bif y3.kind==16 then
         zZ (X:=Bool×zm×zC) (
           bif y2.kind==1 then
            za (Rx fu y2.text) fun y6=>
            some (LX.out (y6.2,s1.1,(⟨y6.1.kind,y6.1.name,y6.1.op,y6.1.value,y6.1.fold,y6.1.anb,y6.1.of_,y6.1.list⟩:zC)))
           else
            bif y2.kind==2 then
             za (xq fu (1,s1.1)) fun y7=>
             za (nz fu zF (y2.text,y7,x.1)) fun y8=>
             some (LX.out (y8.2,s1.1,(⟨y8.1.kind,y8.1.name,y8.1.op,y8.1.value,y8.1.fold,y8.1.anb,y8.1.of_,y8.1.list⟩:zC)))
            else
             some (LX.out (false,s1.1,(⟨0,[],0,[],false,(⟨0,0⟩:VAnb),false,[]⟩:zC)))) fun j9=>
         some (LX.out (j9.1,(⟨j9.2.1.v,w64 (j9.2.1.at_+2)⟩:zm),s1.2,(⟨j9.2.2.kind,j9.2.2.name,j9.2.2.op,j9.2.2.value,j9.2.2.fold,j9.2.2.anb,j9.2.2.of_,j9.2.2.list⟩:zC)))
        else
         some (LX.ret (LO.ret ((s1.2,true),s1.1)))) fun j10=>
   bif !j10.1 then
    some (LO.ret (([],false),j10.2.1))
   else
    need (zL j10.2.2.1.length 1 104)<|
    some (LO.again (j10.2.1,j10.2.2.1++[(⟨j10.2.2.2.kind,j10.2.2.2.name,j10.2.2.2.op,j10.2.2.2.value,j10.2.2.2.fold,j10.2.2.2.anb,j10.2.2.2.of_,j10.2.2.2.list⟩:zC)])):zm×List zC->Option (LO (zm×List zC) (Unit) _)) (x.2,[]) fun o11=>
 none
def bz(fu:Nat)(zF:List ze×zh×Bool×Bool->Option (List zu×Bool))(x:List ze×zh×Bool):Option (zu×Bool):=
 za (Za fu (⟨x.1,0⟩:zm)) fun y1=>
 zZ (X:=Int×zm×Int) (
   bif x.2.2 then
    za (Ar fu y1.2) fun y2=>
    bif y2.1==0 then
     some (LX.out (0,y2.2,1))
    else
     some (LX.out (0,y2.2,y2.1))
   else
    some (LX.out (0,y1.2,0))) fun j3=>
 zZ (X:=Int×zm×Int) (
   some (LX.out (j3.1,j3.2.1,j3.2.2))) fun j4=>
 Zd fu (fun(s5:Int×zm×Int×List zA×List UInt8)=>
   zZ (X:=Int×zm×Int×List zA×List UInt8×Str) (
     za (zT fu (0,s5.2.1)) fun y6=>
     bif y6.kind==1 then
      za (Ze fu y6.text) fun y7=>
      some (LX.out (s5.1,(⟨s5.2.1.v,w64 (s5.2.1.at_+1)⟩:zm),s5.2.2.1,s5.2.2.2.1,s5.2.2.2.2,y7))
     else
      za (Zy fu ([42],s5.2.1)) fun y8=>
      bif y8.1 then
       some (LX.out (s5.1,y8.2,s5.2.2.1,s5.2.2.2.1,s5.2.2.2.2,[42]))
      else
       some (LX.out (s5.1,y8.2,s5.2.2.1,s5.2.2.2.1,s5.2.2.2.2,[]))) fun j9=>
   za (rA fu zF (x.2.1,j9.2.1)) fun y10=>
   za (zU (!(!y10.1.2)) (zf fu ((⟨j9.2.2.2.2.2,y10.1.1⟩:zA),x.2.1)) (default:Bool)) fun y11=>
   bif bif !y10.1.2 then true else !y11 then
    some (LO.ret ((⟨j9.2.2.1,j9.2.2.2.1,j9.2.2.2.2.1⟩:zu),false))
   else
    need (zL j9.2.2.2.1.length 1 40)<|
    za (Za fu y10.2) fun y12=>
    za (ZR fu y12.2) fun y13=>
    bif y13 then
     some (LO.out (j9.1,y12.2,j9.2.2.1,j9.2.2.2.1++[(⟨j9.2.2.2.2.2,y10.1.1⟩:zA)],j9.2.2.2.2.1))
    else
     za (Ar fu y12.2) fun y14=>
     zZ (X:=Int×Int×Int×List zA×List UInt8) (
       bif bif y14.1==0 then !y12.1 else false then
        some (LX.ret (LO.ret ((⟨j9.2.2.1,j9.2.2.2.1++[(⟨j9.2.2.2.2.2,y10.1.1⟩:zA)],j9.2.2.2.2.1⟩:zu),false)))
       else
        bif y14.1==0 then
         some (LX.out (1,j9.1,j9.2.2.1,j9.2.2.2.1++[(⟨j9.2.2.2.2.2,y10.1.1⟩:zA)],j9.2.2.2.2.1))
        else
         some (LX.out (y14.1,j9.1,j9.2.2.1,j9.2.2.2.1++[(⟨j9.2.2.2.2.2,y10.1.1⟩:zA)],j9.2.2.2.2.1))) fun j15=>
     za (QG j15.1) fun y16=>
     need (zL j15.2.2.2.2.length 1 1)<|
     some (LO.again (j15.2.1,y14.2,j15.2.2.1,j15.2.2.2.1,j15.2.2.2.2++[y16])):Int×zm×Int×List zA×List UInt8->Option (LO (Int×zm×Int×List zA×List UInt8) (Int×zm×Int×List zA×List UInt8) _)) (j4.1,j4.2.1,j4.2.2,[],[]) fun o17=>
 some ((⟨o17.2.2.1,o17.2.2.2.1,o17.2.2.2.2⟩:zu),decide ((o17.2.2.2.1.length:Int)<=64))
def Uz(fu:Nat)(zF:List ze×zh×Bool×Bool->Option (List zu×Bool))(x:List ze×zh×Bool×Bool):Option (List zu×Bool):=
 Zd fu (fun(s1:(Int×Int)×List zu)=>
   bif decide (s1.1.2<w64 ((x.1.length:Int)+1))then
    zZ (X:=(Int×Int)×List zu) (
      za (zU (decide (s1.1.2<(x.1.length:Int))) (geti x.1 s1.1.2) (default:ze)) fun y2=>
      bif bif decide (s1.1.2<(x.1.length:Int))then y2.token.kind != 18 else false then
       some (LX.out ((s1.1.1,s1.1.2),s1.2))
      else
       zZ (X:=List zu) (
         need (decide (0<=s1.1.1)&&(decide (s1.1.1<=s1.1.2)&&decide (s1.1.2<=(x.1.length:Int))))<|
         za (bz fu zF (List.drop s1.1.1.toNat (List.take s1.1.2.toNat x.1),x.2.1,x.2.2.1)) fun y3=>
         bif y3.2 then
          need (zL s1.2.length 1 56)<|
          some (LX.out (s1.2++[(⟨y3.1.lead,y3.1.parts,y3.1.combs⟩:zu)]))
         else
          bif !x.2.2.2 then
           some (LX.ret (LX.ret (LO.ret ([],false))))
          else
           some (LX.out s1.2)) fun j4=>
       some (LX.out ((w64 (s1.1.2+1),s1.1.2),j4))) fun j5=>
    some (LO.again ((j5.1.1,w64 (j5.1.2+1)),j5.2))
   else
    some (LO.out s1.2):(Int×Int)×List zu->Option (LO ((Int×Int)×List zu) (List zu) _)) ((0,0),[]) fun o6=>
 some (o6,true)
def zF(fu:Nat):List ze×zh×Bool×Bool->Option (List zu×Bool):=Bd (Uz fu) fu
def Vz(fu:Nat)(Z5:List zu->Option Int)(x:List zu):Option Int:=
 Zd fu (fun(s1:Int×Int)=>
   bif decide (s1.2<(x.length:Int))then
    za (geti x s1.2) fun y2=>
    Zd fu (fun(s3:Int×Int)=>
      bif decide (s3.2<(y2.parts.length:Int))then
       za (geti y2.parts s3.2) fun y4=>
       Zd fu (fun(s5:Int×Int)=>
         bif decide (s5.2<(y4.simples.length:Int))then
          za (geti y4.simples s5.2) fun y6=>
          za (Z5 y6.list) fun y7=>
          some (LO.again (w64 (s5.1+y7),w64 (s5.2+1)))
         else
          some (LO.out s5.1):Int×Int->Option (LO (Int×Int) (Int) _)) (s3.1,0) fun o8=>
       some (LO.again (o8,w64 (s3.2+1)))
      else
       some (LO.out s3.1):Int×Int->Option (LO (Int×Int) (Int) _)) (s1.1,0) fun o9=>
    some (LO.again (o9,w64 (s1.2+1)))
   else
    some (LO.out s1.1):Int×Int->Option (LO (Int×Int) (Int) _)) ((x.length:Int),0) fun o10=>
 some o10
def Z5(fu:Nat):List zu->Option Int:=Bd (Vz fu) fu
def Gw(fu:Nat)(x:List ze):Option (List zu×Int):=
 za (ZU fu x) fun y1=>
 bif y1 != 0 then
  some ([],y1)
 else
  za (zF fu (x,(⟨0,false⟩:zh),false,false)) fun y2=>
  bif !y2.2 then
   some ([],12)
  else
   za (Z5 fu y2.1) fun y3=>
   bif decide (y3>64)then
    some ([],4)
   else
    some (y2.1,0)
def GJ(fu:Nat)(x:List ze):Option (List ze):=
 bif x.isEmpty then
  both (
    some []) (
    need (zL 0 x.length 80)<|
    some x)
 else
  need (zL 0 x.length 80)<|
  some x
def qy(fu:Nat)(x:List ze):Option (List ze):=need (zL 0 x.length 80) (some x)
theorem PU(fu:Nat)(x):Le (qy fu x) (GJ fu x):=by
 cases x with
 |nil=> intro y hy;show both (some []) (some [])=some y;unfold both;rw[Ma rfl];exact hy
 |cons a r=>exact .rfl
def Mw(fu:Nat)(Af:List ze->Option (List ze))(x:List ze):Option (List ze):=
 za (qy fu x) fun y1=>
 Zd fu (fun(s2:Int×List ze)=>
   bif decide (s2.1<(y1.length:Int))then
    need (decide (0<=s2.1)&&decide (s2.1<(s2.2.length:Int)))<|
    za s2.2[s2.1.toNat]? fun y3=>
    za (Af y3.list) fun y4=>
    need (decide (0<=s2.1)&&decide (s2.1<(s2.2.length:Int)))<|
    za s2.2[s2.1.toNat]? fun y5=>
    some (LO.again (w64 (s2.1+1),List.set s2.2 s2.1.toNat (⟨y5.token,y4⟩:ze)))
   else
    some (LO.out s2.2):Int×List ze->Option (LO (Int×List ze) (List ze) _)) (0,y1) fun o6=>
 some o6
def Af(fu:Nat):List ze->Option (List ze):=Bd (Mw fu) fu
def Vh(fu:Nat)(x:List ze×Int):Option (List (List ze)×Int):=
 za (ZU fu x.1) fun y1=>
 bif y1 != 0 then
  some ([],y1)
 else
  bif bif decide (x.2<1)then true else decide (x.2>24)then
   some ([],2)
  else
   Zd fu (fun(s2:(Int×Int)×List (List ze))=>
     bif decide (s2.1.2<(x.1.length:Int))then
      zZ (X:=(Int×Int)×List (List ze)) (
        za (geti x.1 s2.1.2) fun y3=>
        bif y3.token.kind==x.2 then
         need (decide (0<=s2.1.1)&&(decide (s2.1.1<=s2.1.2)&&(decide (s2.1.2<=s2.1.2)&&decide (s2.1.2<=(x.1.length:Int))))&&decide (s2.1.2=s2.1.2))<|
         za (Af fu (List.drop s2.1.1.toNat (List.take s2.1.2.toNat x.1))) fun y4=>
         need (zL s2.2.length 1 24)<|
         some (LX.out ((w64 (s2.1.2+1),s2.1.2),s2.2++[y4]))
        else
         some (LX.out ((s2.1.1,s2.1.2),s2.2))) fun j5=>
      some (LO.again ((j5.1.1,w64 (j5.1.2+1)),j5.2))
     else
      some (LO.out (s2.1.1,s2.2)):(Int×Int)×List (List ze)->Option (LO ((Int×Int)×List (List ze)) (Int×List (List ze)) _)) ((0,0),[]) fun o6=>
   need (decide (0<=o6.1)&&decide (o6.1<=(x.1.length:Int)))<|
   za (Af fu (List.drop o6.1.toNat x.1)) fun y7=>
   need (zL o6.2.length 1 24)<|
   some (o6.2++[y7],0)
def QN(fu:Nat)(x:ze×Int):Option Bool:=
 some (x.1.token.kind==x.2)
def Uk(fu:Nat)(x:List ze):Option (List ze):=
 Zd fu (fun(s1:List ze)=>
   za (zU (decide ((s1.length:Int)>0)) (geti s1 0) (default:ze)) fun y2=>
   za (zU (decide ((s1.length:Int)>0)) (QN fu ((⟨y2.token,y2.list⟩:ze),13)) (default:Bool)) fun y3=>
   bif bif decide ((s1.length:Int)>0)then y3 else false then
    need (decide (1<=(s1.length:Int)))<|
    some (LO.again (List.drop 1 s1))
   else
    some (LO.out s1):List ze->Option (LO (List ze) (List ze) _)) x fun o4=>
 some o4
def Jl(fu:Nat)(x:List ze):Option (List ze):=
 Zd fu (fun(s1:List ze)=>
   za (zU (decide ((s1.length:Int)>0)) (geti s1 (w64 ((s1.length:Int) - 1))) (default:ze)) fun y2=>
   za (zU (decide ((s1.length:Int)>0)) (QN fu ((⟨y2.token,y2.list⟩:ze),13)) (default:Bool)) fun y3=>
   bif bif decide ((s1.length:Int)>0)then y3 else false then
    need (decide (0<=w64 ((s1.length:Int) - 1))&&decide (w64 ((s1.length:Int) - 1)<=(s1.length:Int)))<|
    some (LO.again (List.take (w64 ((s1.length:Int) - 1)).toNat s1))
   else
    some (LO.out s1):List ze->Option (LO (List ze) (List ze) _)) x fun o4=>
 some o4
def Vk(fu:Nat)(x:ze):Option Bool:=
 za (QN fu ((⟨x.token,x.list⟩:ze),9)) fun y1=>
 some (bif y1 then x.token.text==[33]else false)
def Hq(fu:Nat)(x:Int×List ze):Option Bool:=
 za (geti x.2 x.1) fun y1=>
 some (y1.token.kind==13)
def Mh(fu:Nat)(x:List ze):Option (List ze×Int):=
 za (ZU fu x) fun y1=>
 bif y1 != 0 then
  some ([],y1)
 else
  Zd fu (fun(s2:Int)=>
    za (zU (decide (s2<(x.length:Int))) (Hq fu (s2,x)) (default:Bool)) fun y3=>
    bif bif decide (s2<(x.length:Int))then y3 else false then
     some (LO.again (w64 (s2+1)))
    else
     some (LO.out s2):Int->Option (LO (Int) (Int) _)) 0 fun o4=>
  Zd fu (fun(s5:Int)=>
    za (zU (decide (o4<s5)) (Hq fu (w64 (s5 - 1),x)) (default:Bool)) fun y6=>
    bif bif decide (o4<s5)then y6 else false then
     some (LO.again (w64 (s5 - 1)))
    else
     some (LO.out s5):Int->Option (LO (Int) (Int) _)) (x.length:Int) fun o7=>
  need (decide (0<=o4)&&(decide (o4<=o7)&&(decide (o7<=o7)&&decide (o7<=(x.length:Int))))&&decide (o7=o7))<|
  za (Af fu (List.drop o4.toNat (List.take o7.toNat x))) fun y8=>
  some (y8,0)
def kv(fu:Nat)(x:Str):Option Bool:=
 za (zU (!(bif x==[]then true else decide ((x.length:Int)>64))) (strings_IndexByte fu (x,0)) (default:Int)) fun y1=>
 bif bif bif x==[]then true else decide ((x.length:Int)>64)then true else decide (y1>=0)then
  some false
 else
  za (strings_HasPrefix fu (x,[45,45])) fun y2=>
  bif y2 then
   some (!(x==[45,45]))
  else
   za (Ze fu x) fun y3=>
   some (x==y3)
def stringslite_TrimPrefix(fu:Nat)(x:Str×Str):Option Str:=
 za (stringslite_HasPrefix fu (x.1,x.2)) fun y1=>
 bif y1 then
  need (decide (0<=(x.2.length:Int))&&decide ((x.2.length:Int)<=(x.1.length:Int)))<|
  some (List.drop x.2.length x.1)
 else
  some x.1
def strings_TrimPrefix(fu:Nat)(x:Str×Str):Option Str:=
 za (stringslite_TrimPrefix fu (x.1,x.2)) fun y1=>
 some y1
def QO(fu:Nat)(x:Int):Option Bool:=
 some (bif decide (48<=x)then decide (x<=57)else false)
def ah(fu:Nat)(x:Str):Option Bool:=
 za (strings_TrimPrefix fu (x,[45])) fun y1=>
 za (zU (!(y1==[])) (geti y1 0) 0) fun y2=>
 za (zU (!(y1==[])) (QO fu (y2.toNat:Int)) (default:Bool)) fun y3=>
 some (bif !(y1==[])then y3 else false)
def Wl(fu:Nat)(x:Int):Option Bool:=
 some (bif bif decide (97<=ibOr IntKind.u8 x 32)then decide (ibOr IntKind.u8 x 32<=122)else false then decide (x<128)else false)
def Ph(fu:Nat)(x:Int):Option Bool:=
 za (Wl fu x) fun y1=>
 za (zU (!y1) (QO fu x) (default:Bool)) fun y2=>
 some (bif bif bif bif y1 then true else y2 then true else x==95 then true else x==45 then true else decide (x>=128))
def strings_Contains(fu:Nat)(x:Str×Str):Option Bool:=
 za (Tg (x.1,x.2)) fun y1=>
 some (decide (y1>=0))
def Bl(fu:Nat)(x:zt):Option Bool:=
 need (jc x.text.length x.unit.length)<|
 za (strings_IndexByte fu (x.text++x.unit,0)) fun y1=>
 zZ (X:=Bool×Bool×Bool×Bool×Bool) (
   zZ (X:=Bool×Bool×Bool×Bool×Bool×Bool) (
     bif x.kind==1 then
      some (LX.out (false,false,false,false,decide (y1<0),x.kind==1))
     else
      bif x.kind==2 then
       some (LX.out (false,false,false,false,decide (y1<0),x.kind==2))
      else
       some (LX.out (false,false,false,false,decide (y1<0),x.kind==3))) fun j2=>
   bif j2.2.2.2.2.2 then
    some (LX.out (true,j2.2.1,j2.2.2.1,j2.2.2.2.1,bif j2.2.2.2.2.1 then !(x.text==[])else false))
   else
    bif x.kind==4 then
     za (zU (!x.flag&&(bif j2.2.2.2.2.1 then !(x.text==[])else false)) (ah fu x.text) (default:Bool)) fun y3=>
     za (zU (y3&&(!x.flag&&(bif j2.2.2.2.2.1 then !(x.text==[])else false))) (strings_HasPrefix fu (x.text,[45,45])) (default:Bool)) fun y4=>
     some (LX.out (true,j2.2.1,j2.2.2.1,true,bif bif j2.2.2.2.2.1 then !(x.text==[])else false then bif bif x.flag then true else bif y3 then !y4 else false then true else x.text==[45]else false))
    else
     zZ (X:=Bool×Bool×Bool×Bool×Bool×Bool) (
       bif x.kind==5 then
        some (LX.out (j2.1,j2.2.1,j2.2.2.1,j2.2.2.2.1,j2.2.2.2.2.1,x.kind==5))
       else
        some (LX.out (j2.1,j2.2.1,j2.2.2.1,j2.2.2.2.1,j2.2.2.2.2.1,x.kind==7))) fun j5=>
     bif j5.2.2.2.2.2 then
      some (LX.out (true,j5.2.1,j5.2.2.1,j5.2.2.2.1,j5.2.2.2.2.1))
     else
      bif x.kind==9 then
       za (zU (bif j5.2.2.2.2.1 then(x.text.length:Int)==1 else false) (geti x.text 0) 0) fun y6=>
       za (zU (bif j5.2.2.2.2.1 then(x.text.length:Int)==1 else false) (Ph fu (y6.toNat:Int)) (default:Bool)) fun y7=>
       za (zU (bif bif bif j5.2.2.2.2.1 then(x.text.length:Int)==1 else false then !y7 else false then true else x.text==[45]) (strings_Contains fu ([32,9,10,12,13,34,39,58,59,44,91,93,40,41,123,125],x.text)) (default:Bool)) fun y8=>
       some (LX.out (true,j5.2.1,j5.2.2.1,j5.2.2.2.1,bif bif bif bif j5.2.2.2.2.1 then(x.text.length:Int)==1 else false then !y7 else false then true else x.text==[45]then !y8 else false))
      else
       zZ (X:=Bool×Bool×Bool×Bool×Bool) (
         bif x.kind==10 then
          some (LX.out (j5.2.1,j5.2.2.1,j5.2.2.2.1,j5.2.2.2.2.1,x.kind==10))
         else
          bif x.kind==11 then
           some (LX.out (j5.2.1,j5.2.2.1,j5.2.2.2.1,j5.2.2.2.2.1,x.kind==11))
          else
           some (LX.out (j5.2.1,j5.2.2.1,j5.2.2.2.1,j5.2.2.2.2.1,x.kind==12))) fun j9=>
       bif j9.2.2.2.2 then
        some (LX.out (j5.1,x.kind==12,true,x.kind != 11,bif bif bif bif j9.2.2.2.1 then decide (x.num>=(-1000000000000))else false then decide (x.num<=1000000000000)else false then bif !x.flag then true else Int.tmod x.num 1000==0 else false then bif !(x.kind==12)then true else !(x.unit==[])else false))
       else
        some (LX.out (j5.1,j9.1,j9.2.1,j9.2.2.1,bif decide (x.kind>=13)then decide (x.kind<=24)else false))) fun j10=>
 some (bif bif bif bif j10.2.2.2.2 then bif j10.1 then true else x.text==[]else false then bif j10.2.1 then true else x.unit==[]else false then bif j10.2.2.1 then true else x.num==0 else false then bif j10.2.2.2.1 then true else !x.flag else false)
def Am(fu:Nat)(x:(Int×Int)×List zt):Option Bool:=
 za (zU (decide (x.1.1<(x.2.length:Int))) (geti x.2 x.1.1) (default:zt)) fun y1=>
 some (bif decide (x.1.1<(x.2.length:Int))then y1.kind==x.1.2 else false)
def Nl(fu:Nat)(x:List zt):Option Int:=
 za (geti x 0) fun y1=>
 bif bif y1.kind==9 then y1.text==[92]else false then
  za (Am fu ((1,13),x)) fun y2=>
  bif !y2 then
   some 0
  else
   some 2
 else
  za (zU (y1.kind==2) (ZH fu (y1.text,[117,114,108])) (default:Bool)) fun y3=>
  bif bif y1.kind==2 then y3 else false then
   zZ (X:=Int) (
     za (Am fu ((1,13),x)) fun y4=>
     bif y4 then
      some (LX.out 2)
     else
      some (LX.out 1)) fun j5=>
   za (Am fu ((j5,5),x)) fun y6=>
   bif !y6 then
    some 0
   else
    some (w64 (j5+1))
  else
   some 1
def Rl(fu:Nat)(x:List zt):Option Int:=
 bif decide ((x.length:Int)>1500)then
  some 4
 else
  Zd fu (fun(s1:Int)=>
    bif decide (s1<(x.length:Int))then
     za (geti x s1) fun y2=>
     za (Bl fu y2) fun y3=>
     need (decide (0<=s1)&&decide (s1<=(x.length:Int))|| !(!(!y3)))<|
     za (zU (!(!y3)) (Nl fu (List.drop s1.toNat x)) (default:Int)) fun y4=>
     bif bif !y3 then true else y4==0 then
      some (LO.ret 8)
     else
      some (LO.again (w64 (s1+1)))
    else
     some (LO.out ()):Int->Option (LO (Int) (Unit) _)) 0 fun o5=>
  some 0
def Cz(fu:Nat)(zS:List ze->Option Bool)(x:ze):Option Bool:=
 za (QN fu ((⟨x.token,x.list⟩:ze),20)) fun y1=>
 za (zU (!y1) (QN fu ((⟨x.token,x.list⟩:ze),22)) (default:Bool)) fun y2=>
 za (zU (!(bif y1 then true else y2)) (QN fu ((⟨x.token,x.list⟩:ze),24)) (default:Bool)) fun y3=>
 za (zU (!(bif bif y1 then true else y2 then true else y3)) (zS x.list) (default:Bool)) fun y4=>
 some (bif bif bif y1 then true else y2 then true else y3 then true else y4)
def QU(fu:Nat)(zS:List ze->Option Bool)(x:List ze):Option Int:=
 Zd fu (fun(s1:Int)=>
   bif decide (s1<(x.length:Int))then
    za (geti x s1) fun y2=>
    za (Cz fu zS (⟨y2.token,y2.list⟩:ze)) fun y3=>
    bif y3 then
     some (LO.ret s1)
    else
     some (LO.again (w64 (s1+1)))
   else
    some (LO.out ()):Int->Option (LO (Int) (Unit) _)) 0 fun o4=>
 some (-1)
def Qw(fu:Nat)(zS:List ze->Option Bool)(x:List ze):Option Bool:=
 za (QU fu zS x) fun y1=>
 some (decide (y1>=0))
def Bz(fu:Nat)(zS:List ze->Option Bool)(x:List ze):Option Bool:=
 za (Qw fu zS x) fun y1=>
 some y1
def zS(fu:Nat):List ze->Option Bool:=Bd (Bz fu) fu
def Ux(fu:Nat)(x:ze):Option Bool:=
 za (QN fu ((⟨x.token,x.list⟩:ze),17)) fun y1=>
 za (zU (!y1) (Vk fu (⟨x.token,x.list⟩:ze)) (default:Bool)) fun y2=>
 some (bif y1 then true else y2)
def QV(fu:Nat)(x:List ze):Option Int:=
 Zd fu (fun(s1:Int)=>
   bif decide (s1<(x.length:Int))then
    za (geti x s1) fun y2=>
    za (Ux fu (⟨y2.token,y2.list⟩:ze)) fun y3=>
    bif y3 then
     some (LO.ret s1)
    else
     some (LO.again (w64 (s1+1)))
   else
    some (LO.out ()):Int->Option (LO (Int) (Unit) _)) 0 fun o4=>
 some (-1)
def qW(fu:Nat)(x:List ze):Option Bool:=
 za (QV fu x) fun y1=>
 some (decide (y1>=0))
def Jg(fu:Nat)(x:z8):Option Int:=
 za (uk fu x.value) fun y1=>
 za (kv fu x.name) fun y2=>
 za (zU (!(bif !y2 then true else y1.2 != 0)) (Rl fu y1.1) (default:Int)) fun y3=>
 za (zU (!(bif bif !y2 then true else y1.2 != 0 then true else y3 != 0)) (zS fu x.value) (default:Bool)) fun y4=>
 bif bif bif bif !y2 then true else y1.2 != 0 then true else y3 != 0 then true else y4 then
  some 8
 else
  za (qW fu x.value) fun y5=>
  bif y5 then
   some 8
  else
   za (zU ((x.value.length:Int)==0) (strings_HasPrefix fu (x.name,[45,45])) (default:Bool)) fun y6=>
   za (zU (decide ((x.value.length:Int)>0)&& !(bif (x.value.length:Int)==0 then !y6 else false)) (geti x.value 0) (default:ze)) fun y7=>
   za (zU (decide ((x.value.length:Int)>0)&& !(bif (x.value.length:Int)==0 then !y6 else false)) (QN fu ((⟨y7.token,y7.list⟩:ze),13)) (default:Bool)) fun y8=>
   za (zU (!y8&&(decide ((x.value.length:Int)>0)&& !(bif (x.value.length:Int)==0 then !y6 else false))) (geti x.value (w64 ((x.value.length:Int) - 1))) (default:ze)) fun y9=>
   za (zU (!y8&&(decide ((x.value.length:Int)>0)&& !(bif (x.value.length:Int)==0 then !y6 else false))) (QN fu ((⟨y9.token,y9.list⟩:ze),13)) (default:Bool)) fun y10=>
   bif bif bif (x.value.length:Int)==0 then !y6 else false then true else bif decide ((x.value.length:Int)>0)then bif y8 then true else y10 else false then
    some 8
   else
    some 0
def Rk(fu:Nat)(x:List ze):Option (z8×Bool):=
 za (Uk fu x) fun y1=>
 za (Jl fu y1) fun y2=>
 za (zU (!((y2.length:Int)==0)) (geti y2 0) (default:ze)) fun y3=>
 za (zU (!((y2.length:Int)==0)) (QN fu ((⟨y3.token,y3.list⟩:ze),1)) (default:Bool)) fun y4=>
 bif bif (y2.length:Int)==0 then true else !y4 then
  some ((⟨[],[],false⟩:z8),false)
 else
  za (geti y2 0) fun y5=>
  zZ (X:=List ze×(Str×Bool)×(Str×Bool)) (
    za (strings_HasPrefix fu (y5.token.text,[45,45])) fun y6=>
    bif !y6 then
     za (Ze fu y5.token.text) fun y7=>
     some (LX.out (y2,([],false),(y7,false)))
    else
     some (LX.out (y2,([],false),(y5.token.text,false)))) fun j8=>
  need (decide (1<=(j8.1.length:Int)))<|
  za (Uk fu (List.drop 1 j8.1)) fun y9=>
  za (zU (!((y9.length:Int)==0)) (geti y9 0) (default:ze)) fun y10=>
  za (zU (!((y9.length:Int)==0)) (QN fu ((⟨y10.token,y10.list⟩:ze),16)) (default:Bool)) fun y11=>
  bif bif (y9.length:Int)==0 then true else !y11 then
   some ((⟨[],[],false⟩:z8),false)
  else
   need (decide (1<=(y9.length:Int)))<|
   za (Uk fu (List.drop 1 y9)) fun y12=>
   zZ (X:=List ze×(Str×Bool)×(Str×Bool)) (
     za (zU (decide (w64 ((y12.length:Int) - 1)>0)) (geti y12 (w64 ((y12.length:Int) - 1))) (default:ze)) fun y13=>
     za (zU (decide (w64 ((y12.length:Int) - 1)>0)) (QN fu ((⟨y13.token,y13.list⟩:ze),1)) (default:Bool)) fun y14=>
     za (zU (bif decide (w64 ((y12.length:Int) - 1)>0)then y14 else false) (geti y12 (w64 ((y12.length:Int) - 1))) (default:ze)) fun y15=>
     za (zU (bif decide (w64 ((y12.length:Int) - 1)>0)then y14 else false) (ZH fu (y15.token.text,[105,109,112,111,114,116,97,110,116])) (default:Bool)) fun y16=>
     bif bif bif decide (w64 ((y12.length:Int) - 1)>0)then y14 else false then y16 else false then
      need (decide (0<=w64 ((y12.length:Int) - 1))&&decide (w64 ((y12.length:Int) - 1)<=(y12.length:Int)))<|
      za (Jl fu (List.take (w64 ((y12.length:Int) - 1)).toNat y12)) fun y17=>
      za (zU (decide ((y17.length:Int)>0)) (geti y17 (w64 ((y17.length:Int) - 1))) (default:ze)) fun y18=>
      za (zU (decide ((y17.length:Int)>0)) (Vk fu (⟨y18.token,y18.list⟩:ze)) (default:Bool)) fun y19=>
      bif bif decide ((y17.length:Int)>0)then y19 else false then
       need (decide (0<=w64 ((y17.length:Int) - 1))&&decide (w64 ((y17.length:Int) - 1)<=(y17.length:Int)))<|
       za (Jl fu (List.take (w64 ((y17.length:Int) - 1)).toNat y17)) fun y20=>
       some (LX.out (y20,(j8.2.1.1,j8.2.1.2),(j8.2.2.1,true)))
      else
       some (LX.out (y12,(j8.2.1.1,j8.2.1.2),(j8.2.2.1,j8.2.2.2)))
     else
      some (LX.out (y12,(j8.2.1.1,j8.2.1.2),(j8.2.2.1,j8.2.2.2)))) fun j21=>
   za (Mh fu j21.1) fun y22=>
   za (zU (!(y22.2 != 0)) (Jg fu (⟨j21.2.2.1,y22.1,j21.2.2.2⟩:z8)) (default:Int)) fun y23=>
   bif bif y22.2 != 0 then true else y23 != 0 then
    some ((⟨[],[],false⟩:z8),false)
   else
    some ((⟨j21.2.2.1,y22.1,j21.2.2.2⟩:z8),true)
def Fu(fu:Nat)(x:List ze):Option (List z8×Int):=
 za (Vh fu (x,17)) fun y1=>
 bif y1.2 != 0 then
  some ([],y1.2)
 else
  Zd fu (fun(s2:Int×List z8)=>
    bif decide (s2.1<(y1.1.length:Int))then
     zZ (X:=Int×List z8) (
       za (geti y1.1 s2.1) fun y3=>
       za (Rk fu y3) fun y4=>
       bif bif y4.2 then decide ((s2.2.length:Int)<32)else false then
        need (zL s2.2.length 1 48)<|
        some (LX.out (s2.1,s2.2++[y4.1]))
       else
        some (LX.out (s2.1,s2.2))) fun j5=>
     some (LO.again (w64 (j5.1+1),j5.2))
    else
     some (LO.out s2.2):Int×List z8->Option (LO (Int×List z8) (List z8) _)) (0,[]) fun o6=>
  some (o6,0)
def Iw(fu:Nat)(x:List ze×List ze):Option (zD×Bool):=
 za (Gw fu x.1) fun y1=>
 bif y1.2 != 0 then
  some ((⟨0,[],[],(⟨0,[],0,(⟨[],[],false⟩:z8),[]⟩:zq),[],[]⟩:zD),false)
 else
  za (Fu fu x.2) fun y2=>
  some ((⟨1,y1.1,y2.1,(⟨0,[],0,(⟨[],[],false⟩:z8),[]⟩:zq),[],[]⟩:zD),y2.2==0)
def Xm(fu:Nat)(x:Str):Option Bool:=
 za (zU (!(bif x==[]then true else decide ((x.length:Int)>64))) (strings_IndexByte fu (x,0)) (default:Int)) fun y1=>
 some (bif bif x==[]then true else decide ((x.length:Int)>64)then true else decide (y1>=0))
def CB(fu:Nat)(x:List Str):Option Int:=
 Zd fu (fun(s1:Int)=>
   bif decide (s1<(x.length:Int))then
    need (decide (0<=s1)&&decide (s1<(x.length:Int)))<|
    za x[s1.toNat]? fun y2=>
    za (Xm fu y2) fun y3=>
    bif y3 then
     some (LO.ret s1)
    else
     some (LO.again (w64 (s1+1)))
   else
    some (LO.out ()):Int->Option (LO (Int) (Unit) _)) 0 fun o4=>
 some (-1)
def Qc(fu:Nat)(x:List Str):Option Bool:=
 za (CB fu x) fun y1=>
 some (decide (y1>=0))
def Jw(fu:Nat)(x:List Str):Option Bool:=
 za (zU (bif decide ((x.length:Int)>0)then decide ((x.length:Int)<=16)else false) (Qc fu x) (default:Bool)) fun y1=>
 some (bif bif decide ((x.length:Int)>0)then decide ((x.length:Int)<=16)else false then !y1 else false)
def Fw(fu:Nat)(x:List ze):Option (List Str×Bool):=
 za (Mh fu x) fun y1=>
 bif bif y1.2 != 0 then true else Int.tmod (y1.1.length:Int) 2==0 then
  some ([],false)
 else
  Zd fu (fun(s2:Int×List Str)=>
    bif decide (s2.1<(y1.1.length:Int))then
     zZ (X:=Int×List Str) (
       za (geti y1.1 s2.1) fun y3=>
       bif Int.tmod s2.1 2==1 then
        bif bif y3.token.kind != 9 then true else !(y3.token.text==[46])then
         some (LX.ret (LO.ret ([],false)))
        else
         some (LX.out (s2.1,s2.2))
       else
        bif y3.token.kind != 1 then
         some (LX.ret (LO.ret ([],false)))
        else
         need (zL s2.2.length 1 16)<|
         some (LX.out (s2.1,s2.2++[y3.token.text]))) fun j4=>
     some (LO.again (w64 (j4.1+1),j4.2))
    else
     some (LO.out s2.2):Int×List Str->Option (LO (Int×List Str) (List Str) _)) (0,[]) fun o5=>
  za (Jw fu o5) fun y6=>
  some (o5,y6)
def ll(fu:Nat)(x:List ze×Bool):Option (zD×Bool):=
 za (Vh fu (x.1,18)) fun y1=>
 bif bif y1.2 != 0 then true else decide ((y1.1.length:Int)>64)then
  some ((⟨0,[],[],(⟨0,[],0,(⟨[],[],false⟩:z8),[]⟩:zq),[],[]⟩:zD),false)
 else
  zZ (X:=(Int×Int×Str×Int×Str×Bool)×(Int×Int×Str×Int×Str×Bool)) (
    bif x.2 then
     za (Mh fu x.1) fun y2=>
     bif (y2.1.length:Int)==0 then
      some (LX.ret ((⟨4,[],[],(⟨0,[],0,(⟨[],[],false⟩:z8),[]⟩:zq),[],[]⟩:zD),true))
     else
      some (LX.out ((0,0,[],0,[],false),(4,0,[],0,[],false)))
    else
     some (LX.out ((0,0,[],0,[],false),(5,0,[],0,[],false)))) fun j3=>
  Zd fu (fun(s4:Int×(Int×Int×Str×Int×Str×Bool)×(Int×Int×Str×Int×Str×Bool)×List (List Str))=>
    bif decide (s4.1<(y1.1.length:Int))then
     za (geti y1.1 s4.1) fun y5=>
     za (Fw fu y5) fun y6=>
     bif !y6.2 then
      some (LO.ret ((⟨0,[],[],(⟨0,[],0,(⟨[],[],false⟩:z8),[]⟩:zq),[],[]⟩:zD),false))
     else
      need (zL s4.2.2.2.length 1 24)<|
      some (LO.again (w64 (s4.1+1),(s4.2.1.1,s4.2.1.2.1,s4.2.1.2.2.1,s4.2.1.2.2.2.1,s4.2.1.2.2.2.2.1,s4.2.1.2.2.2.2.2),(s4.2.2.1.1,s4.2.2.1.2.1,s4.2.2.1.2.2.1,s4.2.2.1.2.2.2.1,s4.2.2.1.2.2.2.2.1,s4.2.2.1.2.2.2.2.2),s4.2.2.2++[y6.1]))
    else
     some (LO.out ((s4.2.1.1,s4.2.1.2.1,s4.2.1.2.2.1,s4.2.1.2.2.2.1,s4.2.1.2.2.2.2.1,s4.2.1.2.2.2.2.2),(s4.2.2.1.1,s4.2.2.1.2.1,s4.2.2.1.2.2.1,s4.2.2.1.2.2.2.1,s4.2.2.1.2.2.2.2.1,s4.2.2.1.2.2.2.2.2),s4.2.2.2)):Int×(Int×Int×Str×Int×Str×Bool)×(Int×Int×Str×Int×Str×Bool)×List (List Str)->Option (LO (Int×(Int×Int×Str×Int×Str×Bool)×(Int×Int×Str×Int×Str×Bool)×List (List Str)) ((Int×Int×Str×Int×Str×Bool)×(Int×Int×Str×Int×Str×Bool)×List (List Str)) _)) (0,(j3.1.1,j3.1.2.1,j3.1.2.2.1,j3.1.2.2.2.1,j3.1.2.2.2.2.1,j3.1.2.2.2.2.2),(j3.2.1,j3.2.2.1,j3.2.2.2.1,j3.2.2.2.2.1,j3.2.2.2.2.2.1,j3.2.2.2.2.2.2),[]) fun o7=>
  some ((⟨o7.2.1.1,[],[],(⟨o7.2.1.2.1,o7.2.1.2.2.1,o7.2.1.2.2.2.1,(⟨o7.2.1.2.2.2.2.1,[],o7.2.1.2.2.2.2.2⟩:z8),[]⟩:zq),o7.2.2,[]⟩:zD),bif !x.2 then true else(o7.2.2.length:Int)==1)
def Zf(fu:Nat)(x:zo):Option Int:=
 bif (x.v.length:Int)==0 then
  some 0
 else
  za (geti x.v 0) fun y1=>
  some y1.token.kind
def Zg(fu:Nat)(x:zo):Option (ze×zo):=
 za (geti x.v 0) fun y1=>
 need (decide (1<=(x.v.length:Int)))<|
 some ((⟨y1.token,y1.list⟩:ze),(⟨List.drop 1 x.v⟩:zo))
def zH(fu:Nat)(x:zo):Option (Bool×zo):=
 Zd fu (fun(s1:zo)=>
   za (Zf fu s1) fun y2=>
   bif y2==13 then
    za (Zg fu s1) fun y3=>
    some (LO.again y3.2)
   else
    some (LO.out s1):zo->Option (LO (zo) (zo) _)) x fun o4=>
 some (decide ((o4.v.length:Int)<(x.v.length:Int)),o4)
def ZP(fu:Nat)(x:List Str×zo):Option (Str×zo):=
 Zd fu (fun(s1:Int×zo)=>
   bif decide (s1.1<(x.1.length:Int))then
    za (geti x.1 s1.1) fun y2=>
    za (Zf fu s1.2) fun y3=>
    za (zU (y3==1) (geti s1.2.v 0) (default:ze)) fun y4=>
    za (zU (y3==1) (ZH fu (y4.token.text,y2)) (default:Bool)) fun y5=>
    bif bif y3==1 then y5 else false then
     za (Zg fu s1.2) fun y6=>
     some (LO.ret (y2,y6.2))
    else
     some (LO.again (w64 (s1.1+1),s1.2))
   else
    some (LO.out s1.2):Int×zo->Option (LO (Int×zo) (zo) _)) (0,x.2) fun o7=>
 some ([],o7)
def slices_Contains_string(fu:Nat)(x:List Str×Str):Option Bool:=
 za (slices_Index_string fu (x.1,x.2)) fun y1=>
 some (decide (y1>=0))
def jl(fu:Nat)(x:Str):Option Bool:=
 za (slices_Contains_string fu ([[],[97,110,100],[111,114],[110,111,116],[111,110,108,121]],x)) fun y1=>
 za (zU (bif !y1 then decide ((x.length:Int)<=64)else false) (Ze fu x) (default:Str)) fun y2=>
 za (zU (bif bif !y1 then decide ((x.length:Int)<=64)else false then y2==x else false) (strings_IndexByte fu (x,0)) (default:Int)) fun y3=>
 some (bif bif bif !y1 then decide ((x.length:Int)<=64)else false then y2==x else false then decide (y3<0)else false)
def Xl(fu:Nat)(x:List Int):Option Int:=
 Zd fu (fun(s1:Int)=>
   bif decide (s1<(x.length:Int))then
    za (geti x s1) fun y2=>
    bif bif decide (y2<(-1000000000000))then true else decide (y2>1000000000000)then
     some (LO.ret 8)
    else
     some (LO.again (w64 (s1+1)))
   else
    some (LO.out ()):Int->Option (LO (Int) (Unit) _)) 0 fun o3=>
 some 0
def Yl(fu:Nat)(x:Int):Option Int:=
 za (Xl fu [x]) fun y1=>
 some y1
def Q8(fu:Nat)(x:zo):Option ((zq×Bool)×zo):=
 za (Zf fu x) fun y1=>
 bif y1 != 21 then
  some (((⟨0,[],0,(⟨[],[],false⟩:z8),[]⟩:zq),false),x)
 else
  za (Zg fu x) fun y2=>
  za (zH fu (⟨y2.1.list⟩:zo)) fun y3=>
  zZ (X:=(Int×Str×Int×Str×Bool)×zo×(Int×Str×Int×Str×Bool)) (
    za (ZP fu ([[109,105,110,45,119,105,100,116,104],[109,97,120,45,119,105,100,116,104]],y3.2)) fun y4=>
    bif y4.1==[]then
     some (LX.ret (((⟨5,[],0,(⟨[],[],false⟩:z8),[]⟩:zq),false),y2.2))
    else
     bif y4.1==[109,97,120,45,119,105,100,116,104]then
      some (LX.out ((0,[],0,[],false),y4.2,(6,[],0,[],false)))
     else
      some (LX.out ((0,[],0,[],false),y4.2,(5,[],0,[],false)))) fun j5=>
  za (zH fu j5.2.1) fun y6=>
  za (Zf fu y6.2) fun y7=>
  bif y7 != 16 then
   some (((⟨j5.2.2.1,j5.2.2.2.1,j5.2.2.2.2.1,(⟨j5.2.2.2.2.2.1,[],j5.2.2.2.2.2.2⟩:z8),[]⟩:zq),false),y2.2)
  else
   za (Zg fu y6.2) fun y8=>
   za (zH fu y8.2) fun y9=>
   za (Zf fu y9.2) fun y10=>
   za (zU (y10 != 12) (Zf fu y9.2) (default:Int)) fun y11=>
   bif bif y10 != 12 then y11 != 10 else false then
    some (((⟨j5.2.2.1,j5.2.2.2.1,j5.2.2.2.2.1,(⟨j5.2.2.2.2.2.1,[],j5.2.2.2.2.2.2⟩:z8),[]⟩:zq),false),y2.2)
   else
    za (Zg fu y9.2) fun y12=>
    za (zH fu y12.2) fun y13=>
    za (zU (y12.1.token.kind==12) (ZH fu (y12.1.token.unit,[112,120])) (default:Bool)) fun y14=>
    za (zU (bif bif bif y12.1.token.kind==12 then y14 else false then true else bif y12.1.token.kind==10 then y12.1.token.num==0 else false then decide (y12.1.token.num>=0)else false) (Yl fu y12.1.token.num) (default:Int)) fun y15=>
    some (((⟨j5.2.2.1,j5.2.2.2.1,y12.1.token.num,(⟨j5.2.2.2.2.2.1,[],j5.2.2.2.2.2.2⟩:z8),[]⟩:zq),bif bif bif bif bif y12.1.token.kind==12 then y14 else false then true else bif y12.1.token.kind==10 then y12.1.token.num==0 else false then decide (y12.1.token.num>=0)else false then y15==0 else false then(y13.2.v.length:Int)==0 else false),y2.2)
def xz(fu:Nat)(x:zo):Option ((zq×Bool)×zo):=
 za (zH fu x) fun y1=>
 za (ZP fu ([[110,111,116],[111,110,108,121]],y1.2)) fun y2=>
 za (zH fu y2.2) fun y3=>
 zZ (X:=zo×(Int×Str×Int×Str×Bool)×(Int×Str×Int×Str×Bool)×List zq) (
   za (Zf fu y3.2) fun y4=>
   bif y4==1 then
    za (Zg fu y3.2) fun y5=>
    za (Ze fu y5.1.token.text) fun y6=>
    za (jl fu y6) fun y7=>
    bif !y7 then
     some (LX.ret (((⟨1,[],0,(⟨[],[],false⟩:z8),[]⟩:zq),false),y5.2))
    else
     need (zL 0 1 104)<|
     some (LX.out (y5.2,(0,[],0,[],false),(1,[],0,[],false),[(⟨4,y6,0,(⟨[],[],false⟩:z8),[]⟩:zq)]))
   else
    za (Q8 fu y3.2) fun y8=>
    bif bif !y8.1.2 then true else !(y2.1==[])then
     some (LX.ret (((⟨1,[],0,(⟨[],[],false⟩:z8),[]⟩:zq),false),y8.2))
    else
     need (zL 0 1 104)<|
     some (LX.out (y8.2,(0,[],0,[],false),(1,[],0,[],false),[(⟨y8.1.1.kind,y8.1.1.name,y8.1.1.num,y8.1.1.decl,y8.1.1.list⟩:zq)]))) fun j9=>
 za (zH fu j9.1) fun y10=>
 Zd fu (fun(s11:zo×(Int×Str×Int×Str×Bool)×(Int×Str×Int×Str×Bool)×List zq)=>
   bif decide ((s11.1.v.length:Int)>0)then
    za (ZP fu ([[97,110,100]],s11.1)) fun y12=>
    bif y12.1==[]then
     some (LO.ret (((⟨s11.2.2.1.1,s11.2.2.1.2.1,s11.2.2.1.2.2.1,(⟨s11.2.2.1.2.2.2.1,[],s11.2.2.1.2.2.2.2⟩:z8),s11.2.2.2⟩:zq),false),y12.2))
    else
     za (zH fu y12.2) fun y13=>
     za (Q8 fu y13.2) fun y14=>
     bif !y14.1.2 then
      some (LO.ret (((⟨s11.2.2.1.1,s11.2.2.1.2.1,s11.2.2.1.2.2.1,(⟨s11.2.2.1.2.2.2.1,[],s11.2.2.1.2.2.2.2⟩:z8),s11.2.2.2⟩:zq),false),y14.2))
     else
      need (zL s11.2.2.2.length 1 104)<|
      za (zH fu y14.2) fun y15=>
      some (LO.again (y15.2,(s11.2.1.1,s11.2.1.2.1,s11.2.1.2.2.1,s11.2.1.2.2.2.1,s11.2.1.2.2.2.2),(s11.2.2.1.1,s11.2.2.1.2.1,s11.2.2.1.2.2.1,s11.2.2.1.2.2.2.1,s11.2.2.1.2.2.2.2),s11.2.2.2++[(⟨y14.1.1.kind,y14.1.1.name,y14.1.1.num,y14.1.1.decl,y14.1.1.list⟩:zq)]))
   else
    some (LO.out (s11.1,(s11.2.1.1,s11.2.1.2.1,s11.2.1.2.2.1,s11.2.1.2.2.2.1,s11.2.1.2.2.2.2),(s11.2.2.1.1,s11.2.2.1.2.1,s11.2.2.1.2.2.1,s11.2.2.1.2.2.2.1,s11.2.2.1.2.2.2.2),s11.2.2.2)):zo×(Int×Str×Int×Str×Bool)×(Int×Str×Int×Str×Bool)×List zq->Option (LO (zo×(Int×Str×Int×Str×Bool)×(Int×Str×Int×Str×Bool)×List zq) (zo×(Int×Str×Int×Str×Bool)×(Int×Str×Int×Str×Bool)×List zq) _)) (y10.2,(j9.2.1.1,j9.2.1.2.1,j9.2.1.2.2.1,j9.2.1.2.2.2.1,j9.2.1.2.2.2.2),(j9.2.2.1.1,j9.2.2.1.2.1,j9.2.2.1.2.2.1,j9.2.2.1.2.2.2.1,j9.2.2.1.2.2.2.2),j9.2.2.2) fun o16=>
 zZ (X:=(Int×Str×Int×Str×Bool)×(Int×Str×Int×Str×Bool×List zq)) (
   bif y2.1==[110,111,116]then
    some (LX.out ((o16.2.1.1,o16.2.1.2.1,o16.2.1.2.2.1,o16.2.1.2.2.2.1,o16.2.1.2.2.2.2),(3,[],0,[],false,[(⟨o16.2.2.1.1,o16.2.2.1.2.1,o16.2.2.1.2.2.1,(⟨o16.2.2.1.2.2.2.1,[],o16.2.2.1.2.2.2.2⟩:z8),o16.2.2.2⟩:zq)])))
   else
    some (LX.out ((o16.2.1.1,o16.2.1.2.1,o16.2.1.2.2.1,o16.2.1.2.2.2.1,o16.2.1.2.2.2.2),(o16.2.2.1.1,o16.2.2.1.2.1,o16.2.2.1.2.2.1,o16.2.2.1.2.2.2.1,o16.2.2.1.2.2.2.2,o16.2.2.2)))) fun j17=>
 some (((⟨j17.2.1,j17.2.2.1,j17.2.2.2.1,(⟨j17.2.2.2.2.1,[],j17.2.2.2.2.2.1⟩:z8),j17.2.2.2.2.2.2⟩:zq),true),o16.1)
def Kl(fu:Nat)(x:List ze):Option (zq×Int):=
 za (Vh fu (x,18)) fun y1=>
 bif y1.2 != 0 then
  some ((⟨0,[],0,(⟨[],[],false⟩:z8),[]⟩:zq),y1.2)
 else
  zZ (X:=Int×Str×Int×Str×Bool) (
    bif (y1.1.length:Int)==1 then
     za (zH fu (⟨x⟩:zo)) fun y2=>
     bif (y2.2.v.length:Int)==0 then
      some (LX.ret ((⟨1,[],0,(⟨[],[],false⟩:z8),[]⟩:zq),0))
     else
      some (LX.out (0,[],0,[],false))
    else
     some (LX.out (0,[],0,[],false))) fun j3=>
  bif decide ((y1.1.length:Int)>64)then
   some ((⟨0,[],0,(⟨[],[],false⟩:z8),[]⟩:zq),4)
  else
   Zd fu (fun(s4:Int×(Int×Str×Int×Str×Bool)×List zq)=>
     bif decide (s4.1<(y1.1.length:Int))then
      za (geti y1.1 s4.1) fun y5=>
      za (xz fu (⟨y5⟩:zo)) fun y6=>
      zZ (X:=(Int×Str×Int×Str×Bool)×List zq×zq) (
        bif !y6.1.2 then
         some (LX.out ((s4.2.1.1,s4.2.1.2.1,s4.2.1.2.2.1,s4.2.1.2.2.2.1,s4.2.1.2.2.2.2),s4.2.2,(⟨3,[],0,(⟨[],[],false⟩:z8),[(⟨1,[],0,(⟨[],[],false⟩:z8),[(⟨4,[97,108,108],0,(⟨[],[],false⟩:z8),[]⟩:zq)]⟩:zq)]⟩:zq)))
        else
         some (LX.out ((s4.2.1.1,s4.2.1.2.1,s4.2.1.2.2.1,s4.2.1.2.2.2.1,s4.2.1.2.2.2.2),s4.2.2,(⟨y6.1.1.kind,y6.1.1.name,y6.1.1.num,y6.1.1.decl,y6.1.1.list⟩:zq)))) fun j7=>
      need (zL j7.2.1.length 1 104)<|
      some (LO.again (w64 (s4.1+1),(j7.1.1,j7.1.2.1,j7.1.2.2.1,j7.1.2.2.2.1,j7.1.2.2.2.2),j7.2.1++[(⟨j7.2.2.kind,j7.2.2.name,j7.2.2.num,j7.2.2.decl,j7.2.2.list⟩:zq)]))
     else
      some (LO.out ((s4.2.1.1,s4.2.1.2.1,s4.2.1.2.2.1,s4.2.1.2.2.2.1,s4.2.1.2.2.2.2),s4.2.2)):Int×(Int×Str×Int×Str×Bool)×List zq->Option (LO (Int×(Int×Str×Int×Str×Bool)×List zq) ((Int×Str×Int×Str×Bool)×List zq) _)) (0,(2,[],0,[],false),[]) fun o8=>
   some ((⟨o8.1.1,o8.1.2.1,o8.1.2.2.1,(⟨o8.1.2.2.2.1,[],o8.1.2.2.2.2⟩:z8),o8.2⟩:zq),0)
def Ru(fu:Nat)(x:List ze):Option (z8×Bool×Int):=
 za (ZU fu x) fun y1=>
 bif y1 != 0 then
  some ((⟨[],[],false⟩:z8),false,y1)
 else
  za (Rk fu x) fun y2=>
  some (y2.1,y2.2,0)
def um(fu:Nat)(zX:zo->Option ((zq×Bool)×zo))(x:zo):Option ((zq×Bool)×zo):=
 za (Zf fu x) fun y1=>
 bif y1==2 then
  za (Zg fu x) fun y2=>
  some (((⟨8,[],0,(⟨[],[],false⟩:z8),[]⟩:zq),true),y2.2)
 else
  bif y1==21 then
   za (Zg fu x) fun y3=>
   za (Ru fu y3.1.list) fun y4=>
   bif bif y4.2.2==0 then y4.2.1 else false then
    some (((⟨7,[],0,y4.1,[]⟩:zq),true),y3.2)
   else
    za (zX (⟨y3.1.list⟩:zo)) fun y5=>
    bif y5.1.2 then
     some (((⟨y5.1.1.kind,y5.1.1.name,y5.1.1.num,y5.1.1.decl,y5.1.1.list⟩:zq),true),y3.2)
    else
     some (((⟨8,[],0,(⟨[],[],false⟩:z8),[]⟩:zq),true),y3.2)
  else
   some (((⟨8,[],0,(⟨[],[],false⟩:z8),[]⟩:zq),false),x)
def wz(fu:Nat)(zX:zo->Option ((zq×Bool)×zo))(x:zo):Option ((zq×Bool)×zo):=
 za (zH fu x) fun y1=>
 za (ZP fu ([[110,111,116]],y1.2)) fun y2=>
 bif !(y2.1==[])then
  za (zH fu y2.2) fun y3=>
  za (um fu zX y3.2) fun y4=>
  za (zH fu y4.2) fun y5=>
  some (((⟨3,[],0,(⟨[],[],false⟩:z8),[(⟨y4.1.1.kind,y4.1.1.name,y4.1.1.num,y4.1.1.decl,y4.1.1.list⟩:zq)]⟩:zq),bif bif y4.1.2 then y3.1 else false then(y5.2.v.length:Int)==0 else false),y5.2)
 else
  za (um fu zX y2.2) fun y6=>
  bif !y6.1.2 then
   some (((⟨y6.1.1.kind,y6.1.1.name,y6.1.1.num,y6.1.1.decl,y6.1.1.list⟩:zq),false),y6.2)
  else
   za (zH fu y6.2) fun y7=>
   bif (y7.2.v.length:Int)==0 then
    some (((⟨y6.1.1.kind,y6.1.1.name,y6.1.1.num,y6.1.1.decl,y6.1.1.list⟩:zq),true),y7.2)
   else
    Zd fu (fun(s8:Bool×zo×(Int×Str×Int×Str×Bool)×(Int×Str×Int×Str×Bool)×List zq)=>
      bif decide ((s8.2.1.v.length:Int)>0)then
       za (ZP fu ([[97,110,100],[111,114]],s8.2.1)) fun y9=>
       bif bif bif (bif y9.1==[97,110,100]then 1 else bif y9.1==[111,114]then 2 else(0:Int))==0 then true else !s8.1 then true else bif s8.2.2.2.1.1 != 0 then s8.2.2.2.1.1 != (bif y9.1==[97,110,100]then 1 else bif y9.1==[111,114]then 2 else(0:Int))else false then
        some (LO.ret (((⟨s8.2.2.2.1.1,s8.2.2.2.1.2.1,s8.2.2.2.1.2.2.1,(⟨s8.2.2.2.1.2.2.2.1,[],s8.2.2.2.1.2.2.2.2⟩:z8),s8.2.2.2.2⟩:zq),false),y9.2))
       else
        za (zH fu y9.2) fun y10=>
        za (um fu zX y10.2) fun y11=>
        bif bif !y10.1 then true else !y11.1.2 then
         some (LO.ret (((⟨bif y9.1==[97,110,100]then 1 else bif y9.1==[111,114]then 2 else(0:Int),s8.2.2.2.1.2.1,s8.2.2.2.1.2.2.1,(⟨s8.2.2.2.1.2.2.2.1,[],s8.2.2.2.1.2.2.2.2⟩:z8),s8.2.2.2.2⟩:zq),false),y11.2))
        else
         need (zL s8.2.2.2.2.length 1 104)<|
         za (zH fu y11.2) fun y12=>
         some (LO.again (y12.1,y12.2,(s8.2.2.1.1,s8.2.2.1.2.1,s8.2.2.1.2.2.1,s8.2.2.1.2.2.2.1,s8.2.2.1.2.2.2.2),(bif y9.1==[97,110,100]then 1 else bif y9.1==[111,114]then 2 else(0:Int),s8.2.2.2.1.2.1,s8.2.2.2.1.2.2.1,s8.2.2.2.1.2.2.2.1,s8.2.2.2.1.2.2.2.2),s8.2.2.2.2++[(⟨y11.1.1.kind,y11.1.1.name,y11.1.1.num,y11.1.1.decl,y11.1.1.list⟩:zq)]))
      else
       some (LO.out (s8.2.1,(s8.2.2.1.1,s8.2.2.1.2.1,s8.2.2.1.2.2.1,s8.2.2.1.2.2.2.1,s8.2.2.1.2.2.2.2),(s8.2.2.2.1.1,s8.2.2.2.1.2.1,s8.2.2.2.1.2.2.1,s8.2.2.2.1.2.2.2.1,s8.2.2.2.1.2.2.2.2),s8.2.2.2.2)):Bool×zo×(Int×Str×Int×Str×Bool)×(Int×Str×Int×Str×Bool)×List zq->Option (LO (Bool×zo×(Int×Str×Int×Str×Bool)×(Int×Str×Int×Str×Bool)×List zq) (zo×(Int×Str×Int×Str×Bool)×(Int×Str×Int×Str×Bool)×List zq) _)) (y7.1,y7.2,(0,[],0,[],false),(0,[],0,[],false),[(⟨y6.1.1.kind,y6.1.1.name,y6.1.1.num,y6.1.1.decl,y6.1.1.list⟩:zq)]) fun o13=>
    some (((⟨o13.2.2.1.1,o13.2.2.1.2.1,o13.2.2.1.2.2.1,(⟨o13.2.2.1.2.2.2.1,[],o13.2.2.1.2.2.2.2⟩:z8),o13.2.2.2⟩:zq),true),o13.1)
def zX(fu:Nat):zo->Option ((zq×Bool)×zo):=Bd (wz fu) fu
def Wh(fu:Nat)(x:List ze):Option (Int×Int):=
 za (ZU fu x) fun y1=>
 bif y1 != 0 then
  some (0,y1)
 else
  za (Ff fu (x,0)) fun y2=>
  some (y2.depth,0)
def Gf(fu:Nat)(x:zq):Option Bool:=
 some (bif bif bif bif x.name==[]then x.num==0 else false then x.decl.name==[]else false then(x.decl.value.length:Int)==0 else false then !x.decl.important else false)
def ek(fu:Nat)(x:zq):Option Bool:=
 some (bif x.kind==7 then true else x.kind==8)
def Xw(fu:Nat)(Gg:zq×Int->Option ((Int×Bool)×Int))(x:zq×Int):Option ((Int×Bool)×Int):=
 bif decide (w64 (x.2+1)>1500)then
  some ((0,false),w64 (x.2+1))
 else
  bif x.1.kind==7 then
   za (Wh fu x.1.decl.value) fun y1=>
   za (zU (bif bif bif (x.1.list.length:Int)==0 then x.1.name==[]else false then x.1.num==0 else false then y1.2==0 else false) (Jg fu x.1.decl) (default:Int)) fun y2=>
   some ((w64 (y1.1+1),bif bif bif bif (x.1.list.length:Int)==0 then x.1.name==[]else false then x.1.num==0 else false then y1.2==0 else false then y2==0 else false),w64 (x.2+1))
  else
   bif x.1.kind==8 then
    za (zU ((x.1.list.length:Int)==0) (Gf fu (⟨x.1.kind,x.1.name,x.1.num,x.1.decl,x.1.list⟩:zq)) (default:Bool)) fun y3=>
    some ((1,bif (x.1.list.length:Int)==0 then y3 else false),w64 (x.2+1))
   else
    zZ (X:=Bool) (
      bif x.1.kind==3 then
       some (LX.out (x.1.kind==3))
      else
       bif x.1.kind==1 then
        some (LX.out (x.1.kind==1))
       else
        some (LX.out (x.1.kind==2))) fun j4=>
    bif j4 then
     za (Gf fu (⟨x.1.kind,x.1.name,x.1.num,x.1.decl,x.1.list⟩:zq)) fun y5=>
     bif bif bif !y5 then true else bif x.1.kind==3 then(x.1.list.length:Int) != 1 else false then true else bif x.1.kind != 3 then decide ((x.1.list.length:Int)<2)else false then
      some ((0,false),w64 (x.2+1))
     else
      Zd fu (fun(s6:(Int×Int)×Int)=>
        bif decide (s6.1.2<(x.1.list.length:Int))then
         za (geti x.1.list s6.1.2) fun y7=>
         za (Gg ((⟨y7.kind,y7.name,y7.num,y7.decl,y7.list⟩:zq),s6.2)) fun y8=>
         bif !y8.1.2 then
          some (LO.ret ((0,false),y8.2))
         else
          zZ (X:=Int×Int) (
            za (ek fu (⟨y7.kind,y7.name,y7.num,y7.decl,y7.list⟩:zq)) fun y9=>
            bif !y9 then
             some (LX.out (s6.1.1,w64 (y8.1.1+1)))
            else
             some (LX.out (s6.1.1,y8.1.1))) fun j10=>
          some (LO.again ((if j10.2>j10.1 then j10.2 else j10.1,w64 (s6.1.2+1)),y8.2))
        else
         some (LO.out (s6.1.1,s6.2)):(Int×Int)×Int->Option (LO ((Int×Int)×Int) (Int×Int) _)) ((0,0),w64 (x.2+1)) fun o11=>
      some ((o11.1,true),o11.2)
    else
     some ((0,false),w64 (x.2+1))
def Gg(fu:Nat):zq×Int->Option ((Int×Bool)×Int):=Bd (Xw fu) fu
def ZY(fu:Nat)(x:zq):Option Int:=
 za (Gg fu ((⟨x.kind,x.name,x.num,x.decl,x.list⟩:zq),0)) fun y1=>
 bif bif !y1.1.2 then true else decide (y1.1.1>16)then
  some 8
 else
  some 0
def Um(fu:Nat)(x:List ze):Option (zq×Int):=
 za (ZU fu x) fun y1=>
 bif y1 != 0 then
  some ((⟨0,[],0,(⟨[],[],false⟩:z8),[]⟩:zq),y1)
 else
  za (zX fu (⟨x⟩:zo)) fun y2=>
  za (zU (!(!y2.1.2)) (ZY fu (⟨y2.1.1.kind,y2.1.1.name,y2.1.1.num,y2.1.1.decl,y2.1.1.list⟩:zq)) (default:Int)) fun y3=>
  bif bif !y2.1.2 then true else y3 != 0 then
   some ((⟨0,[],0,(⟨[],[],false⟩:z8),[]⟩:zq),12)
  else
   some ((⟨y2.1.1.kind,y2.1.1.name,y2.1.1.num,y2.1.1.decl,y2.1.1.list⟩:zq),0)
def WA(fu:Nat)(x:(Bool×Str×List ze)×zy):Option ((zD×Bool)×zy):=
 zZ (X:=Bool×zy×(Int×Int×Str×Int×Str×Bool)×zD) (
   bif bif !x.1.1 then false else false then
    none
   else
    bif bif x.1.1 then x.1.2.1==[108,97,121,101,114]else false then
     za (ll fu (x.1.2.2,false)) fun y1=>
     some (LX.out (y1.2,x.2,(0,0,[],0,[],false),(⟨y1.1.kind,y1.1.selectors,y1.1.decls,(⟨y1.1.cond.kind,y1.1.cond.name,y1.1.cond.num,y1.1.cond.decl,y1.1.cond.list⟩:zq),y1.1.names,y1.1.rules⟩:zD)))
    else
     bif bif bif x.1.1 then x.1.2.1==[109,101,100,105,97]else false then false else false then
      za (Kl fu x.1.2.2) fun y2=>
      some (LX.out (y2.2==0,x.2,(0,0,[],0,[],false),(⟨2,[],[],(⟨y2.1.kind,y2.1.name,y2.1.num,y2.1.decl,y2.1.list⟩:zq),[],[]⟩:zD)))
     else
      bif bif bif x.1.1 then x.1.2.1==[115,117,112,112,111,114,116,115]else false then false else false then
       za (Um fu x.1.2.2) fun y3=>
       some (LX.out (y3.2==0,x.2,(0,0,[],0,[],false),(⟨3,[],[],(⟨y3.1.kind,y3.1.name,y3.1.num,y3.1.decl,y3.1.list⟩:zq),[],[]⟩:zD)))
      else
       some (LX.out (false,x.2,(0,0,[],0,[],false),(⟨0,[],[],(⟨0,[],0,(⟨[],[],false⟩:z8),[]⟩:zq),[],[]⟩:zD)))) fun j4=>
 bif !j4.1 then
  some (((⟨0,[],[],(⟨0,[],0,(⟨[],[],false⟩:z8),[]⟩:zq),[],[]⟩:zD),false),j4.2.1)
 else
  bif bif bif j4.2.2.2.kind==2 then true else j4.2.2.2.kind==3 then true else j4.2.2.2.kind==4 then
   none
  else
   some (((⟨j4.2.2.2.kind,j4.2.2.2.selectors,j4.2.2.2.decls,(⟨j4.2.2.2.cond.kind,j4.2.2.2.cond.name,j4.2.2.2.cond.num,j4.2.2.2.cond.decl,j4.2.2.2.cond.list⟩:zq),j4.2.2.2.names,j4.2.2.2.rules⟩:zD),true),(⟨w64 (j4.2.1.room - 1),j4.2.1.constructs⟩:zy))
def az(fu:Nat)(zP:(List ze×Bool)×zy->Option (List zD×zy))(x:(Bool×Str×List ze×ze)×zy):Option ((zD×Bool)×zy):=
 zZ (X:=Bool×zy×(Int×Int×Str×Int×Str×Bool)×zD) (
   bif bif !x.1.1 then true else false then
    za (Iw fu (x.1.2.2.1,x.1.2.2.2.list)) fun y1=>
    some (LX.out (y1.2,x.2,(0,0,[],0,[],false),(⟨y1.1.kind,y1.1.selectors,y1.1.decls,(⟨y1.1.cond.kind,y1.1.cond.name,y1.1.cond.num,y1.1.cond.decl,y1.1.cond.list⟩:zq),y1.1.names,y1.1.rules⟩:zD)))
   else
    bif bif x.1.1 then x.1.2.1==[108,97,121,101,114]else false then
     za (ll fu (x.1.2.2.1,true)) fun y2=>
     some (LX.out (y2.2,x.2,(0,0,[],0,[],false),(⟨y2.1.kind,y2.1.selectors,y2.1.decls,(⟨y2.1.cond.kind,y2.1.cond.name,y2.1.cond.num,y2.1.cond.decl,y2.1.cond.list⟩:zq),y2.1.names,y2.1.rules⟩:zD)))
    else
     bif bif bif x.1.1 then x.1.2.1==[109,101,100,105,97]else false then true else false then
      za (Kl fu x.1.2.2.1) fun y3=>
      some (LX.out (y3.2==0,x.2,(0,0,[],0,[],false),(⟨2,[],[],(⟨y3.1.kind,y3.1.name,y3.1.num,y3.1.decl,y3.1.list⟩:zq),[],[]⟩:zD)))
     else
      bif bif bif x.1.1 then x.1.2.1==[115,117,112,112,111,114,116,115]else false then true else false then
       za (Um fu x.1.2.2.1) fun y4=>
       some (LX.out (y4.2==0,x.2,(0,0,[],0,[],false),(⟨3,[],[],(⟨y4.1.kind,y4.1.name,y4.1.num,y4.1.decl,y4.1.list⟩:zq),[],[]⟩:zD)))
      else
       some (LX.out (false,x.2,(0,0,[],0,[],false),(⟨0,[],[],(⟨0,[],0,(⟨[],[],false⟩:z8),[]⟩:zq),[],[]⟩:zD)))) fun j5=>
 bif !j5.1 then
  some (((⟨0,[],[],(⟨0,[],0,(⟨[],[],false⟩:z8),[]⟩:zq),[],[]⟩:zD),false),j5.2.1)
 else
  zZ (X:=zy×(Int×Int×Str×Int×Str×Bool)×zD) (
    bif bif bif j5.2.2.2.kind==2 then true else j5.2.2.2.kind==3 then true else j5.2.2.2.kind==4 then
     za (zP ((x.1.2.2.2.list,false),(⟨w64 (j5.2.1.room - 1),j5.2.1.constructs⟩:zy))) fun y6=>
     some (LX.out (y6.2,(j5.2.2.1.1,j5.2.2.1.2.1,j5.2.2.1.2.2.1,j5.2.2.1.2.2.2.1,j5.2.2.1.2.2.2.2.1,j5.2.2.1.2.2.2.2.2),(⟨j5.2.2.2.kind,j5.2.2.2.selectors,j5.2.2.2.decls,(⟨j5.2.2.2.cond.kind,j5.2.2.2.cond.name,j5.2.2.2.cond.num,j5.2.2.2.cond.decl,j5.2.2.2.cond.list⟩:zq),j5.2.2.2.names,y6.1⟩:zD)))
    else
     some (LX.out ((⟨w64 (j5.2.1.room - 1),j5.2.1.constructs⟩:zy),(j5.2.2.1.1,j5.2.2.1.2.1,j5.2.2.1.2.2.1,j5.2.2.1.2.2.2.1,j5.2.2.1.2.2.2.2.1,j5.2.2.1.2.2.2.2.2),(⟨j5.2.2.2.kind,j5.2.2.2.selectors,j5.2.2.2.decls,(⟨j5.2.2.2.cond.kind,j5.2.2.2.cond.name,j5.2.2.2.cond.num,j5.2.2.2.cond.decl,j5.2.2.2.cond.list⟩:zq),j5.2.2.2.names,j5.2.2.2.rules⟩:zD)))) fun j7=>
  some (((⟨j7.2.2.kind,j7.2.2.selectors,j7.2.2.decls,(⟨j7.2.2.cond.kind,j7.2.2.cond.name,j7.2.2.cond.num,j7.2.2.cond.decl,j7.2.2.cond.list⟩:zq),j7.2.2.names,j7.2.2.rules⟩:zD),true),j7.1)
def OA(fu:Nat)(zP:(List ze×Bool)×zy->Option (List zD×zy))(x:(List ze×Bool)×zy):Option (List zD×zy):=
 Zd fu (fun(s1:List ze×zy×List zD)=>
   bif decide ((s1.1.length:Int)>0)then
    za (gp fu s1.1) fun y2=>
    bif bif y2==13 then true else bif x.1.2 then bif y2==14 then true else y2==15 else false then
     need (decide (1<=(s1.1.length:Int)))<|
     some (LO.again (List.drop 1 s1.1,s1.2.1,s1.2.2))
    else
     zZ (X:=List ze×zy×List zD) (
       bif x.1.2 then
        some (LX.out (s1.1,(⟨s1.2.1.room,w64 (s1.2.1.constructs+1)⟩:zy),s1.2.2))
       else
        some (LX.out (s1.1,s1.2.1,s1.2.2))) fun j3=>
     zZ (X:=(List ze×Str)×zy×List zD×List UInt8) (
       bif y2==3 then
        za (geti j3.1 0) fun y4=>
        za (Ze fu y4.token.text) fun y5=>
        need (zL 1 1 1)<|
        need (decide (1<=(j3.1.length:Int)))<|
        some (LX.out ((List.drop 1 j3.1,y5),j3.2.1,j3.2.2,[(23:UInt8),(17:UInt8)]))
       else
        some (LX.out ((j3.1,[]),j3.2.1,j3.2.2,[(23:UInt8)]))) fun j6=>
     za (Hw fu (j6.1.1,j6.2.2.2)) fun y7=>
     za (gp fu y7.2) fun y8=>
     bif y8==23 then
      za (geti y7.2 0) fun y9=>
      zZ (X:=List ze×zy×List zD) (
        bif decide ((y7.2.length:Int)>0)then
         need (decide (1<=(y7.2.length:Int)))<|
         some (LX.out (List.drop 1 y7.2,j6.2.1,j6.2.2.1))
        else
         some (LX.out (y7.2,j6.2.1,j6.2.2.1))) fun j10=>
      bif j10.2.1.room==0 then
       some (LO.again (j10.1,j10.2.1,j10.2.2))
      else
       za (az fu zP ((y2==3,j6.1.2,y7.1,y9),j10.2.1)) fun y11=>
       bif y11.1.2 then
        need (zL j10.2.2.length 1 208)<|
        some (LO.again (j10.1,y11.2,j10.2.2++[(⟨y11.1.1.kind,y11.1.1.selectors,y11.1.1.decls,(⟨y11.1.1.cond.kind,y11.1.1.cond.name,y11.1.1.cond.num,y11.1.1.cond.decl,y11.1.1.cond.list⟩:zq),y11.1.1.names,y11.1.1.rules⟩:zD)]))
       else
        some (LO.again (j10.1,y11.2,j10.2.2))
     else
      zZ (X:=List ze×zy×List zD) (
        bif decide ((y7.2.length:Int)>0)then
         need (decide (1<=(y7.2.length:Int)))<|
         some (LX.out (List.drop 1 y7.2,j6.2.1,j6.2.2.1))
        else
         some (LX.out (y7.2,j6.2.1,j6.2.2.1))) fun j12=>
      bif j12.2.1.room==0 then
       some (LO.again (j12.1,j12.2.1,j12.2.2))
      else
       za (WA fu ((y2==3,j6.1.2,y7.1),j12.2.1)) fun y13=>
       bif y13.1.2 then
        need (zL j12.2.2.length 1 208)<|
        some (LO.again (j12.1,y13.2,j12.2.2++[(⟨y13.1.1.kind,y13.1.1.selectors,y13.1.1.decls,(⟨y13.1.1.cond.kind,y13.1.1.cond.name,y13.1.1.cond.num,y13.1.1.cond.decl,y13.1.1.cond.list⟩:zq),y13.1.1.names,y13.1.1.rules⟩:zD)]))
       else
        some (LO.again (j12.1,y13.2,j12.2.2))
   else
    some (LO.out (s1.2.1,s1.2.2)):List ze×zy×List zD->Option (LO (List ze×zy×List zD) (zy×List zD) _)) (x.1.1,x.2,[]) fun o14=>
 some (o14.2,o14.1)
def zP(fu:Nat):(List ze×Bool)×zy->Option (List zD×zy):=Bd (OA fu) fu
def Dl(fu:Nat)(x:Str):Option (List zD×Int):=
 za (Qs fu x) fun y1=>
 bif y1.2 != 0 then
  some ([],y1.2)
 else
  za (parseF y1.1) fun y2=>
  bif y2.2 != 0 then
   some ([],y2.2)
  else
   za (zP fu ((y2.1,true),(⟨64,0⟩:zy))) fun y3=>
   none
def Gl(fu:Nat)(x:Str):Option (ZL×Int):=
 za (Dl fu x) fun y1=>
 bif y1.2 != 0 then
  some ((⟨[]⟩:ZL),y1.2)
 else
  some ((⟨y1.1⟩:ZL),0)
def Im(fu:Nat)(x:Str):Option ((List zD×Int)×zy):=
 za (Qs fu x) fun y1=>
 bif y1.2 != 0 then
  none
 else
  za (parseF y1.1) fun y2=>
  bif y2.2 != 0 then
   none
  else
   za (zP fu ((y2.1,true),(⟨64,0⟩:zy))) fun y3=>
   some ((y3.1,0),y3.2)
def Nq(fu:Nat)(x:Str):Option (ZL×Int):=
 za (Im fu x) fun y1=>
 bif y1.1.2 != 0 then
  some ((⟨[]⟩:ZL),y1.1.2)
 else
  some ((⟨y1.1.1⟩:ZL),0)
def jh(fu:Nat)(x:Str):Option (ZL×Int):=
 za (Qs fu x) fun y1=>
 bif !(y1.2==0)then
  za (Gl fu x) fun z1=>
  some z1
 else
  za (parseF y1.1) fun y2=>
  bif !(y2.2==0)then
   za (Gl fu x) fun z1=>
   some z1
  else
   za (Nq fu x) fun z1=>
   some z1
def Qz(fu:Nat)(x:List Str):Option Int:=
 Zd fu (fun(s1:Int)=>
   bif decide (s1<(x.length:Int))then
    za (geti x s1) fun y2=>
    za (Xm fu y2) fun y3=>
    bif y3 then
     some (LO.ret s1)
    else
     some (LO.again (w64 (s1+1)))
   else
    some (LO.out ()):Int->Option (LO (Int) (Unit) _)) 0 fun o4=>
 some (-1)
def qL(fu:Nat)(x:List Str):Option Bool:=
 za (Qz fu x) fun y1=>
 some (decide (y1>=0))
def Xy(fu:Nat)(x:List Str):Option Bool:=
 za (zU (bif decide ((x.length:Int)>0)then decide ((x.length:Int)<=16)else false) (qL fu x) (default:Bool)) fun y1=>
 some (bif bif decide ((x.length:Int)>0)then decide ((x.length:Int)<=16)else false then !y1 else false)
def Px(fu:Nat)(x:List Str):Option Bool:=
 za (Xy fu x) fun y1=>
 some (!y1)
def Qy(fu:Nat)(x:List (List Str)):Option Int:=
 Zd fu (fun(s1:Int)=>
   bif decide (s1<(x.length:Int))then
    za (geti x s1) fun y2=>
    za (Px fu y2) fun y3=>
    bif y3 then
     some (LO.ret s1)
    else
     some (LO.again (w64 (s1+1)))
   else
    some (LO.out ()):Int->Option (LO (Int) (Unit) _)) 0 fun o4=>
 some (-1)
def qK(fu:Nat)(x:List (List Str)):Option Bool:=
 za (Qy fu x) fun y1=>
 some (decide (y1>=0))
def gz(fu:Nat)(qh:List zu->Option Int)(x:List zu):Option Int:=
 Zd fu (fun(s1:Int×Int)=>
   bif decide (s1.2<(x.length:Int))then
    za (geti x s1.2) fun y2=>
    Zd fu (fun(s3:Int×Int)=>
      bif decide (s3.2<(y2.parts.length:Int))then
       za (geti y2.parts s3.2) fun y4=>
       Zd fu (fun(s5:Int×Int)=>
         bif decide (s5.2<(y4.simples.length:Int))then
          zZ (X:=Int×Int) (
            za (geti y4.simples s5.2) fun y6=>
            bif bif y6.kind==3 then true else bif decide (y6.kind>=9)then !(bif bif bif y6.kind==9 then true else y6.kind==10 then !y6.of_ else false then y6.anb.a==0&&(y6.anb.b==1&&true)else false)else false then
             za (qh y6.list) fun y7=>
             some (LX.out (if w64 (y7+1)>s5.1 then w64 (y7+1)else s5.1,s5.2))
            else
             some (LX.out (s5.1,s5.2))) fun j8=>
          some (LO.again (j8.1,w64 (j8.2+1)))
         else
          some (LO.out s5.1):Int×Int->Option (LO (Int×Int) (Int) _)) (s3.1,0) fun o9=>
       some (LO.again (o9,w64 (s3.2+1)))
      else
       some (LO.out s3.1):Int×Int->Option (LO (Int×Int) (Int) _)) (s1.1,0) fun o10=>
    some (LO.again (o10,w64 (s1.2+1)))
   else
    some (LO.out s1.1):Int×Int->Option (LO (Int×Int) (Int) _)) (0,0) fun o11=>
 some o11
def qh(fu:Nat):List zu->Option Int:=Bd (gz fu) fu
def Wz(fu:Nat)(x:zu):Option Bool:=
 za (Ym fu (zf fu) ((⟨x.lead,x.parts,x.combs⟩:zu),(⟨0,false⟩:zh),false)) fun y1=>
 some (!y1)
def Qd(fu:Nat)(x:List zu):Option Int:=
 Zd fu (fun(s1:Int)=>
   bif decide (s1<(x.length:Int))then
    za (geti x s1) fun y2=>
    za (Wz fu (⟨y2.lead,y2.parts,y2.combs⟩:zu)) fun y3=>
    bif y3 then
     some (LO.ret s1)
    else
     some (LO.again (w64 (s1+1)))
   else
    some (LO.out ()):Int->Option (LO (Int) (Unit) _)) 0 fun o4=>
 some (-1)
def qB(fu:Nat)(x:List zu):Option Bool:=
 za (Qd fu x) fun y1=>
 some (decide (y1>=0))
def Om(fu:Nat)(x:List zu):Option Int:=
 za (zU (!((x.length:Int)==0)) (qB fu x) (default:Bool)) fun y1=>
 bif bif (x.length:Int)==0 then true else y1 then
  some 8
 else
  za (Z5 fu x) fun y2=>
  bif decide (y2>64)then
   some 4
  else
   some 0
def ol(fu:Nat)(x:zq):Option Bool:=
 some (bif bif bif bif bif bif x.kind==0 then x.name==[]else false then x.num==0 else false then(x.list.length:Int)==0 else false then x.decl.name==[]else false then(x.decl.value.length:Int)==0 else false then !x.decl.important else false)
def Yy(fu:Nat)(Kg:zq->Option Int)(x:zq):Option Int:=
 zZ (X:=Int) (
   bif bif x.kind==5 then true else x.kind==6 then
    some (LX.out 1)
   else
    some (LX.out 0)) fun j1=>
 Zd fu (fun(s2:Int×Int)=>
   bif decide (s2.2<(x.list.length:Int))then
    za (geti x.list s2.2) fun y3=>
    za (Kg (⟨y3.kind,y3.name,y3.num,y3.decl,y3.list⟩:zq)) fun y4=>
    some (LO.again (if y4>s2.1 then y4 else s2.1,w64 (s2.2+1)))
   else
    some (LO.out s2.1):Int×Int->Option (LO (Int×Int) (Int) _)) (j1,0) fun o5=>
 some o5
def Kg(fu:Nat):zq->Option Int:=Bd (Yy fu) fu
def Bq(fu:Nat)(x:zq):Option Bool:=
 za (zU (!(x.kind != 1)) (Gf fu (⟨x.kind,x.name,x.num,x.decl,x.list⟩:zq)) (default:Bool)) fun y1=>
 bif bif bif x.kind != 1 then true else !y1 then true else(x.list.length:Int)==0 then
  some false
 else
  Zd fu (fun(s2:Int)=>
    bif decide (s2<(x.list.length:Int))then
     zZ (X:=Int) (
       za (geti x.list s2) fun y3=>
       za (zU (!(decide ((y3.list.length:Int)>0))) (Gf fu (⟨y3.kind,[],0,y3.decl,y3.list⟩:zq)) (default:Bool)) fun y4=>
       bif bif decide ((y3.list.length:Int)>0)then true else !y4 then
        some (LX.ret (LO.ret false))
       else
        bif y3.kind==4 then
         za (zU (!(bif decide (s2>0)then true else y3.num != 0)) (jl fu y3.name) (default:Bool)) fun y5=>
         bif bif bif decide (s2>0)then true else y3.num != 0 then true else !y5 then
          some (LX.ret (LO.ret false))
         else
          some (LX.out s2)
        else
         zZ (X:=Bool) (
           bif y3.kind==5 then
            some (LX.out (y3.kind==5))
           else
            some (LX.out (y3.kind==6))) fun j6=>
         bif j6 then
          za (zU (!(bif !(y3.name==[])then true else decide (y3.num<0))) (Yl fu y3.num) (default:Int)) fun y7=>
          bif bif bif !(y3.name==[])then true else decide (y3.num<0)then true else y7 != 0 then
           some (LX.ret (LO.ret false))
          else
           some (LX.out s2)
         else
          some (LX.ret (LO.ret false))) fun j8=>
     some (LO.again (w64 (j8+1)))
    else
     some (LO.out ()):Int->Option (LO (Int) (Unit) _)) 0 fun o9=>
  some true
def vv(fu:Nat)(x:zq):Option Bool:=
 za (zU (decide ((x.list.length:Int)>0)) (geti x.list 0) (default:zq)) fun y1=>
 some (bif decide ((x.list.length:Int)>0)then y1.kind==4 else false)
def Jv(fu:Nat)(x:zq):Option Bool:=
 bif x.kind==3 then
  za (Gf fu (⟨x.kind,x.name,x.num,x.decl,x.list⟩:zq)) fun y1=>
  za (zU (bif y1 then(x.list.length:Int)==1 else false) (geti x.list 0) (default:zq)) fun y2=>
  za (zU (bif y1 then(x.list.length:Int)==1 else false) (Bq fu (⟨y2.kind,y2.name,y2.num,y2.decl,y2.list⟩:zq)) (default:Bool)) fun y3=>
  za (zU (bif bif y1 then(x.list.length:Int)==1 else false then y3 else false) (geti x.list 0) (default:zq)) fun y4=>
  za (zU (bif bif y1 then(x.list.length:Int)==1 else false then y3 else false) (vv fu (⟨y4.kind,y4.name,y4.num,y4.decl,y4.list⟩:zq)) (default:Bool)) fun y5=>
  some (bif bif bif y1 then(x.list.length:Int)==1 else false then y3 else false then y5 else false)
 else
  za (Bq fu (⟨x.kind,x.name,x.num,x.decl,x.list⟩:zq)) fun y6=>
  some y6
def yz(fu:Nat)(x:zq):Option Bool:=
 za (Jv fu (⟨x.kind,x.name,x.num,x.decl,x.list⟩:zq)) fun y1=>
 some (!y1)
def UB(fu:Nat)(x:List zq):Option Int:=
 Zd fu (fun(s1:Int)=>
   bif decide (s1<(x.length:Int))then
    za (geti x s1) fun y2=>
    za (yz fu (⟨y2.kind,y2.name,y2.num,y2.decl,y2.list⟩:zq)) fun y3=>
    bif y3 then
     some (LO.ret s1)
    else
     some (LO.again (w64 (s1+1)))
   else
    some (LO.out ()):Int->Option (LO (Int) (Unit) _)) 0 fun o4=>
 some (-1)
def QR(fu:Nat)(x:List zq):Option Bool:=
 za (UB fu x) fun y1=>
 some (decide (y1>=0))
def qO(fu:Nat)(x:zq):Option Int:=
 za (zU (bif bif x.kind==2 then decide ((x.list.length:Int)>0)else false then decide ((x.list.length:Int)<=64)else false) (QR fu x.list) (default:Bool)) fun y1=>
 za (Gf fu (⟨x.kind,x.name,x.num,x.decl,x.list⟩:zq)) fun y2=>
 bif bif !y2 then true else bif !(bif x.kind==1 then(x.list.length:Int)==0 else false)then !(bif bif bif x.kind==2 then decide ((x.list.length:Int)>0)else false then decide ((x.list.length:Int)<=64)else false then !y1 else false)else false then
  some 8
 else
  some 0
def Mx(fu:Nat)(Hg:zq->Option Int)(x:zq):Option Int:=
 bif x.kind==7 then
  za (Wh fu x.decl.value) fun y1=>
  some (w64 (y1.1+1))
 else
  bif x.kind==8 then
   some 1
  else
   Zd fu (fun(s2:Int×Int)=>
     bif decide (s2.2<(x.list.length:Int))then
      za (geti x.list s2.2) fun y3=>
      za (Hg (⟨y3.kind,y3.name,y3.num,y3.decl,y3.list⟩:zq)) fun y4=>
      zZ (X:=Int×Int) (
        bif bif y3.kind != 7 then y3.kind != 8 else false then
         some (LX.out (s2.1,w64 (y4+1)))
        else
         some (LX.out (s2.1,y4))) fun j5=>
      some (LO.again (if j5.2>j5.1 then j5.2 else j5.1,w64 (s2.2+1)))
     else
      some (LO.out s2.1):Int×Int->Option (LO (Int×Int) (Int) _)) (0,0) fun o6=>
   some o6
def Hg(fu:Nat):zq->Option Int:=Bd (Mx fu) fu
def Ox(fu:Nat)(Ig:List zD->Option zK)(x:List zD):Option zK:=
 Zd fu (fun(s1:Int×zK)=>
   bif decide (s1.1<(x.length:Int))then
    za (geti x s1.1) fun y2=>
    za (Ig y2.rules) fun y3=>
    za (qK fu y2.names) fun y4=>
    zZ (X:=(Int×Bool)×zK×zK) (
      bif y2.kind==1 then
       za (qh fu y2.selectors) fun y5=>
       za (zU (!(bif y3.bad then true else y4)) (Om fu y2.selectors) (default:Int)) fun y6=>
       za (zU (!(bif bif bif y3.bad then true else y4 then true else y6 != 0 then true else decide ((y2.decls.length:Int)>32))) (ol fu (⟨y2.cond.kind,y2.cond.name,y2.cond.num,y2.cond.decl,y2.cond.list⟩:zq)) (default:Bool)) fun y7=>
       Zd fu (fun(s8:(Bool×Int)×zK)=>
         bif decide (s8.1.2<(y2.decls.length:Int))then
          za (geti y2.decls s8.1.2) fun y9=>
          za (Wh fu y9.value) fun y10=>
          za (zU (!(bif s8.1.1 then true else y10.2 != 0)) (Jg fu y9) (default:Int)) fun y11=>
          some (LO.again ((bif bif s8.1.1 then true else y10.2 != 0 then true else y11 != 0,w64 (s8.1.2+1)),(⟨s8.2.rules,if y10.1>s8.2.depth then y10.1 else s8.2.depth,s8.2.bad⟩:zK)))
         else
          some (LO.out (s8.1.1,s8.2)):(Bool×Int)×zK->Option (LO ((Bool×Int)×zK) (Bool×zK) _)) ((bif bif bif bif bif y3.bad then true else y4 then true else y6 != 0 then true else decide ((y2.decls.length:Int)>32)then true else !y7 then true else decide (w64 ((y2.names.length:Int)+(y2.rules.length:Int))>0),0),y3) fun o12=>
       some (LX.out ((y5,o12.1),(⟨w64 (s1.2.rules+w64 (y3.rules+1)),s1.2.depth,s1.2.bad⟩:zK),o12.2))
      else
       bif y2.kind==2 then
        za (Kg fu (⟨y2.cond.kind,y2.cond.name,y2.cond.num,y2.cond.decl,y2.cond.list⟩:zq)) fun y13=>
        za (zU (!(bif bif bif y3.bad then true else y4 then true else decide (w64 ((y2.selectors.length:Int)+(y2.decls.length:Int))>0)then true else decide ((y2.names.length:Int)>0))) (qO fu (⟨y2.cond.kind,y2.cond.name,y2.cond.num,y2.cond.decl,y2.cond.list⟩:zq)) (default:Int)) fun y14=>
        some (LX.out ((y13,bif bif bif bif y3.bad then true else y4 then true else decide (w64 ((y2.selectors.length:Int)+(y2.decls.length:Int))>0)then true else decide ((y2.names.length:Int)>0)then true else y14 != 0),(⟨w64 (s1.2.rules+w64 (y3.rules+1)),s1.2.depth,s1.2.bad⟩:zK),y3))
       else
        bif y2.kind==3 then
         za (Hg fu (⟨y2.cond.kind,y2.cond.name,y2.cond.num,y2.cond.decl,y2.cond.list⟩:zq)) fun y15=>
         za (zU (!(bif bif bif y3.bad then true else y4 then true else decide (w64 ((y2.selectors.length:Int)+(y2.decls.length:Int))>0)then true else decide ((y2.names.length:Int)>0))) (ZY fu (⟨y2.cond.kind,y2.cond.name,y2.cond.num,y2.cond.decl,y2.cond.list⟩:zq)) (default:Int)) fun y16=>
         some (LX.out ((y15,bif bif bif bif y3.bad then true else y4 then true else decide (w64 ((y2.selectors.length:Int)+(y2.decls.length:Int))>0)then true else decide ((y2.names.length:Int)>0)then true else y16 != 0),(⟨w64 (s1.2.rules+w64 (y3.rules+1)),s1.2.depth,s1.2.bad⟩:zK),y3))
        else
         bif y2.kind==4 then
          za (zU (!(bif bif bif y3.bad then true else y4 then true else decide (w64 ((y2.selectors.length:Int)+(y2.decls.length:Int))>0)then true else decide ((y2.names.length:Int)>1))) (ol fu (⟨y2.cond.kind,y2.cond.name,y2.cond.num,y2.cond.decl,y2.cond.list⟩:zq)) (default:Bool)) fun y17=>
          some (LX.out ((0,bif bif bif bif y3.bad then true else y4 then true else decide (w64 ((y2.selectors.length:Int)+(y2.decls.length:Int))>0)then true else decide ((y2.names.length:Int)>1)then true else !y17),(⟨w64 (s1.2.rules+w64 (y3.rules+1)),s1.2.depth,s1.2.bad⟩:zK),y3))
         else
          bif y2.kind==5 then
           za (zU (!(bif bif bif bif bif y3.bad then true else y4 then true else decide (w64 ((y2.selectors.length:Int)+(y2.decls.length:Int))>0)then true else decide ((y2.names.length:Int)<1)then true else decide ((y2.names.length:Int)>64)then true else decide ((y2.rules.length:Int)>0))) (ol fu (⟨y2.cond.kind,y2.cond.name,y2.cond.num,y2.cond.decl,y2.cond.list⟩:zq)) (default:Bool)) fun y18=>
           some (LX.out ((0,bif bif bif bif bif bif y3.bad then true else y4 then true else decide (w64 ((y2.selectors.length:Int)+(y2.decls.length:Int))>0)then true else decide ((y2.names.length:Int)<1)then true else decide ((y2.names.length:Int)>64)then true else decide ((y2.rules.length:Int)>0)then true else !y18),(⟨w64 (s1.2.rules+w64 (y3.rules+1)),s1.2.depth,s1.2.bad⟩:zK),(⟨y3.rules,(-1),y3.bad⟩:zK)))
          else
           some (LX.out ((0,true),(⟨w64 (s1.2.rules+w64 (y3.rules+1)),s1.2.depth,s1.2.bad⟩:zK),y3))) fun j19=>
    some (LO.again (w64 (s1.1+1),(⟨j19.2.1.rules,if j19.1.1>(if w64 (j19.2.2.depth+1)>j19.2.1.depth then w64 (j19.2.2.depth+1)else j19.2.1.depth)then j19.1.1 else if w64 (j19.2.2.depth+1)>j19.2.1.depth then w64 (j19.2.2.depth+1)else j19.2.1.depth,bif j19.2.1.bad then true else j19.1.2⟩:zK)))
   else
    some (LO.out s1.2):Int×zK->Option (LO (Int×zK) (zK) _)) (0,(⟨0,0,false⟩:zK)) fun o20=>
 some o20
def Ig(fu:Nat):List zD->Option zK:=Bd (Ox fu) fu
def ul(fu:Nat)(x:List zD):Option Int:=
 za (Ig fu x) fun y1=>
 bif bif bif y1.bad then true else decide (y1.rules>64)then true else decide (y1.depth>16)then
  some 8
 else
  some 0
def ng(fu:Nat)(x:ZL):Option Int:=
 za (ul fu x.rules) fun y1=>
 some y1
def zx(fu:Nat)(x:Str×List UInt8):Option (Int×List UInt8):=
 za (copyV x.2) fun y1=>
 need (zL x.2.length x.1.length 1)<|
 some ((x.1.length:Int),x.2++x.1)
def zW(fu:Nat)(x:Int×List UInt8):Option (List UInt8):=
 za (copyV x.2) fun y1=>
 za (QG x.1) fun y2=>
 need (zL x.2.length 1 1)<|
 some (x.2++[y2])
def qc(fu:Nat)(x:Str):Option Int:=
 za (strings_HasPrefix fu (x,[45])) fun y1=>
 bif y1 then
  some 2
 else
  some 1
def ZC(fu:Nat)(x:Int×List UInt8):Option (List UInt8):=
 za (zU (bif decide (x.1>32)then decide (x.1<127)else false) (QO fu x.1) (default:Bool)) fun y1=>
 za (zU (bif bif decide (x.1>32)then decide (x.1<127)else false then !y1 else false) (Wl fu x.1) (default:Bool)) fun y2=>
 bif bif bif bif decide (x.1>32)then decide (x.1<127)else false then !y1 else false then !y2 else false then
  za (QG x.1) fun y3=>
  need (zL x.2.length 2 1)<|
  some (x.2++[(92:UInt8),y3])
 else
  need (zL x.2.length 1 1)<|
  za (vo ((wu64 x.1,16),x.2++[(92:UInt8)])) fun y4=>
  need (zL y4.length 1 1)<|
  some (y4++[(32:UInt8)])
def mi(fu:Nat)(x:Str×Int):Option (List UInt8):=
 Zd fu (fun(s1:Int×List UInt8)=>
   bif decide (s1.1<(x.1.length:Int))then
    zZ (X:=Int×List UInt8) (
      za (geti x.1 s1.1) fun y2=>
      za (Ph fu (y2.toNat:Int)) fun y3=>
      za (zU (!(decide (s1.1>=x.2))&&y3) (QO fu (y2.toNat:Int)) (default:Bool)) fun y4=>
      bif bif bif y3 then bif decide (s1.1>=x.2)then true else !y4 else false then bif x.2==0 then true else !(x.1==[45])else false then
       za (QG (y2.toNat:Int)) fun y5=>
       need (zL s1.2.length 1 1)<|
       some (LX.out (s1.1,s1.2++[y5]))
      else
       za (ZC fu ((y2.toNat:Int),s1.2)) fun y6=>
       some (LX.out (s1.1,y6))) fun j7=>
    some (LO.again (w64 (j7.1+1),j7.2))
   else
    some (LO.out s1.2):Int×List UInt8->Option (LO (Int×List UInt8) (List UInt8) _)) (0,[]) fun o8=>
 some o8
def qd(fu:Nat)(x:(Str×Int)×List UInt8):Option (List UInt8):=
 Zd fu (fun(s1:Int×List UInt8)=>
   bif decide (s1.1<(x.1.1.length:Int))then
    zZ (X:=Int×List UInt8) (
      za (geti x.1.1 s1.1) fun y2=>
      za (Ph fu (y2.toNat:Int)) fun y3=>
      za (zU (!(decide (s1.1>=x.1.2))&&y3) (QO fu (y2.toNat:Int)) (default:Bool)) fun y4=>
      bif bif bif y3 then bif decide (s1.1>=x.1.2)then true else !y4 else false then bif x.1.2==0 then true else !(x.1.1==[45])else false then
       za (QG (y2.toNat:Int)) fun y5=>
       need (zL s1.2.length 1 1)<|
       some (LX.out (s1.1,s1.2++[y5]))
      else
       za (ZC fu ((y2.toNat:Int),s1.2)) fun y6=>
       some (LX.out (s1.1,y6))) fun j7=>
    some (LO.again (w64 (j7.1+1),j7.2))
   else
    some (LO.out s1.2):Int×List UInt8->Option (LO (Int×List UInt8) (List UInt8) _)) (0,x.2) fun o8=>
 some o8
def Sm(fu:Nat)(x:Int×Bool):Option (List UInt8):=
 zZ (X:=Int×List UInt8) (
   bif decide (x.1<0)then
    need (zL 0 1 1)<|
    some (LX.out (w64 (0 - x.1),[(45:UInt8)]))
   else
    some (LX.out (x.1,[]))) fun j1=>
 za (Ui ((w64 (Int.tdiv j1.1 1000),10),j1.2)) fun y2=>
 za (yf (w64 (1000+Int.tmod j1.1 1000),10)) fun y3=>
 need (decide (1<=(y3.length:Int)))<|
 za (Vg (List.drop 1 y3,[48])) fun y4=>
 zZ (X:=List UInt8) (
   bif !(y4==[])then
    need (zL y2.length 1 1)<|
    need (zL (y2++[(46:UInt8)]).length y4.length 1)<|
    some (LX.out (y2++[(46:UInt8)]++y4))
   else
    bif x.2 then
     need (zL y2.length ([46,48]:Str).length 1)<|
     some (LX.out (y2++([46,48]:Str)))
    else
     some (LX.out y2)) fun j5=>
 some j5
def Ol(fu:Nat)(x:Unit):Option zaq:=
 some (⟨[32],[60,33,45,45],[45,45,62],[58],[59],[44],[91],[93],[40],[41],[123],[125]⟩:zaq)
def Sw(fu:Nat)(x:zt):Option (List UInt8):=
 bif x.kind==1 then
  za (qc fu x.text) fun y1=>
  za (mi fu (x.text,y1)) fun y2=>
  some y2
 else
  bif x.kind==2 then
   za (qc fu x.text) fun y3=>
   za (mi fu (x.text,y3)) fun y4=>
   need (zL y4.length 1 1)<|
   some (y4++[(40:UInt8)])
  else
   bif x.kind==3 then
    need (zL 0 1 1)<|
    za (qc fu x.text) fun y5=>
    za (qd fu ((x.text,y5),[(64:UInt8)])) fun y6=>
    some y6
   else
    bif x.kind==4 then
     zZ (X:=Int) (
       bif x.flag then
        za (qc fu x.text) fun y7=>
        some (LX.out y7)
       else
        some (LX.out 0)) fun j8=>
     need (zL 0 1 1)<|
     za (qd fu ((x.text,j8),[(35:UInt8)])) fun y9=>
     some y9
    else
     bif x.kind==5 then
      need (zL 0 1 1)<|
      need (decide (x.text.length<=maxLen))<|
      Zd fu (fun(s10:Int×List UInt8)=>
        bif decide (s10.1<(x.text.length:Int))then
         zZ (X:=Int×List UInt8) (
           need (decide (0<=s10.1)&&decide (s10.1<(x.text.length:Int)))<|
           za x.text[s10.1.toNat]? fun y11=>
           za (strings_IndexByte fu ([10,12,13,34,92],(y11.toNat:Int))) fun y12=>
           bif decide (y12>=0)then
            za (ZC fu ((y11.toNat:Int),s10.2)) fun y13=>
            some (LX.out (s10.1,y13))
           else
            za (QG (y11.toNat:Int)) fun y14=>
            need (zL s10.2.length 1 1)<|
            some (LX.out (s10.1,s10.2++[y14]))) fun j15=>
         some (LO.again (w64 (j15.1+1),j15.2))
        else
         some (LO.out s10.2):Int×List UInt8->Option (LO (Int×List UInt8) (List UInt8) _)) (0,[(34:UInt8)]) fun o16=>
      need (zL o16.length 1 1)<|
      some (o16++[(34:UInt8)])
     else
      bif x.kind==7 then
       need (zL 0 ([117,114,108,40]:Str).length 1)<|
       need (decide (x.text.length<=maxLen))<|
       Zd fu (fun(s17:Int×List UInt8)=>
         bif decide (s17.1<(x.text.length:Int))then
          zZ (X:=Int×List UInt8) (
            need (decide (0<=s17.1)&&decide (s17.1<(x.text.length:Int)))<|
            za x.text[s17.1.toNat]? fun y18=>
            za (zU (!(decide ((y18.toNat:Int)<=32))) (strings_IndexByte fu ([34,39,40,41,92,127],(y18.toNat:Int))) (default:Int)) fun y19=>
            bif bif decide ((y18.toNat:Int)<=32)then true else decide (y19>=0)then
             za (ZC fu ((y18.toNat:Int),s17.2)) fun y20=>
             some (LX.out (s17.1,y20))
            else
             za (QG (y18.toNat:Int)) fun y21=>
             need (zL s17.2.length 1 1)<|
             some (LX.out (s17.1,s17.2++[y21]))) fun j22=>
          some (LO.again (w64 (j22.1+1),j22.2))
         else
          some (LO.out s17.2):Int×List UInt8->Option (LO (Int×List UInt8) (List UInt8) _)) (0,([117,114,108,40]:Str)) fun o23=>
       need (zL o23.length 1 1)<|
       some (o23++[(41:UInt8)])
      else
       bif x.kind==9 then
        need (zL 0 x.text.length 1)<|
        some x.text
       else
        bif x.kind==10 then
         za (Sm fu (x.num, !x.flag)) fun y24=>
         some y24
        else
         bif x.kind==11 then
          za (Sm fu (x.num,false)) fun y25=>
          need (zL y25.length 1 1)<|
          some (y25++[(37:UInt8)])
         else
          bif x.kind==12 then
           za (Sm fu (x.num, !x.flag)) fun y26=>
           za (geti x.unit 0) fun y27=>
           need (decide (1<=(x.unit.length:Int))|| !(ibOr IntKind.u8 (y27.toNat:Int) 32==101))<|
           za (zU (ibOr IntKind.u8 (y27.toNat:Int) 32==101) (ah fu (List.drop 1 x.unit)) (default:Bool)) fun y28=>
           need (decide (1<=(x.unit.length:Int))|| !(bif ibOr IntKind.u8 (y27.toNat:Int) 32==101 then y28 else false))<|
           za (zU (bif ibOr IntKind.u8 (y27.toNat:Int) 32==101 then y28 else false) (strings_HasPrefix fu (List.drop 1 x.unit,[45,45])) (default:Bool)) fun y29=>
           bif bif bif ibOr IntKind.u8 (y27.toNat:Int) 32==101 then y28 else false then !y29 else false then
            za (geti x.unit 0) fun y30=>
            za (ZC fu ((y30.toNat:Int),y26)) fun y31=>
            need (decide (1<=(x.unit.length:Int)))<|
            za (qd fu ((List.drop 1 x.unit,0),y31)) fun y32=>
            some y32
           else
            za (qc fu x.unit) fun y33=>
            za (qd fu ((x.unit,y33),y26)) fun y34=>
            some y34
          else
           za (Ol fu ()) fun y35=>
           za (geti [y35.e0,y35.e1,y35.e2,y35.e3,y35.e4,y35.e5,y35.e6,y35.e7,y35.e8,y35.e9,y35.e10,y35.e11] (wu8 (x.kind - 13))) fun y36=>
           need (zL 0 y36.length 1)<|
           some y36
def su(fu:Nat)(x:zt):Option (Str×Int):=
 za (Bl fu x) fun y1=>
 bif !y1 then
  some ([],8)
 else
  za (Sw fu x) fun y2=>
  some (y2,0)
def Zh(fu:Nat)(x:zt×List UInt8):Option (List UInt8):=
 za (su fu x.1) fun y1=>
 za (zx fu (y1.1,x.2)) fun y2=>
 some y2.2
def stringslite_HasSuffix(fu:Nat)(x:Str×Str):Option Bool:=
 need (decide (0<=w64 ((x.1.length:Int) - (x.2.length:Int)))&&decide (w64 ((x.1.length:Int) - (x.2.length:Int))<=(x.1.length:Int))|| !(decide ((x.1.length:Int)>=(x.2.length:Int))))<|
 some (bif decide ((x.1.length:Int)>=(x.2.length:Int))then List.drop (w64 ((x.1.length:Int) - (x.2.length:Int))).toNat x.1==x.2 else false)
def stringslite_TrimSuffix(fu:Nat)(x:Str×Str):Option Str:=
 za (stringslite_HasSuffix fu (x.1,x.2)) fun y1=>
 bif y1 then
  need (decide (0<=w64 ((x.1.length:Int) - (x.2.length:Int)))&&decide (w64 ((x.1.length:Int) - (x.2.length:Int))<=(x.1.length:Int)))<|
  some (List.take (w64 ((x.1.length:Int) - (x.2.length:Int))).toNat x.1)
 else
  some x.1
def strings_TrimSuffix(fu:Nat)(x:Str×Str):Option Str:=
 za (stringslite_TrimSuffix fu (x.1,x.2)) fun y1=>
 some y1
def Yu(fu:Nat)(x:VAnb):Option (Str×Int):=
 za (nk fu x) fun y1=>
 bif y1 != 0 then
  some ([],y1)
 else
  za (yf (x.b,10)) fun y2=>
  bif x.a==0 then
   some (y2,0)
  else
   za (yf (x.a,10)) fun y3=>
   zZ (X:=Str) (
     bif bif x.a==1 then true else x.a==(-1)then
      za (strings_TrimSuffix fu (y3,[49])) fun y4=>
      some (LX.out y4)
     else
      some (LX.out y3)) fun j5=>
   need (jc j5.length ([110]:Str).length)<|
   zZ (X:=Str) (
     bif decide (x.b>0)then
      need (jc ([43]:Str).length y2.length)<|
      need (jc (j5++([110]:Str)).length (([43]:Str)++y2).length)<|
      some (LX.out (j5++([110]:Str)++(([43]:Str)++y2)))
     else
      bif decide (x.b<0)then
       need (jc (j5++([110]:Str)).length y2.length)<|
       some (LX.out (j5++([110]:Str)++y2))
      else
       some (LX.out (j5++([110]:Str)))) fun j6=>
   some (j6,0)
def IB(fu:Nat)(zJ:zC×List UInt8->Option (List UInt8))(x:List zu×List UInt8):Option (List UInt8):=
 Zd fu (fun(s1:Int×List UInt8)=>
   bif decide (s1.1<(x.1.length:Int))then
    za (geti x.1 s1.1) fun y2=>
    zZ (X:=List UInt8) (
      bif decide (s1.1>0)then
       za (zx fu ([44,32],s1.2)) fun y3=>
       some (LX.out y3.2)
      else
       some (LX.out s1.2)) fun j4=>
    zZ (X:=List UInt8) (
      bif decide (y2.lead>1)then
       need (decide (0<=y2.lead)&&decide (y2.lead<5))<|
       za ([[],[32],[32,62,32],[32,43,32],[32,126,32]]:List Str)[0+y2.lead.toNat*1]? fun y5=>
       need (decide (1<=(y5.length:Int)))<|
       za (zx fu (List.drop 1 y5,j4)) fun y6=>
       some (LX.out y6.2)
      else
       some (LX.out j4)) fun j7=>
    Zd fu (fun(s8:Int×List UInt8)=>
      bif decide (s8.1<(y2.parts.length:Int))then
       za (geti y2.parts s8.1) fun y9=>
       zZ (X:=List UInt8) (
         bif decide (s8.1>0)then
          za (geti y2.combs (w64 (s8.1 - 1))) fun y10=>
          need (decide (0<=(y10.toNat:Int))&&decide ((y10.toNat:Int)<5))<|
          za ([[],[32],[32,62,32],[32,43,32],[32,126,32]]:List Str)[0+y10.toNat*1]? fun y11=>
          za (zx fu (y11,s8.2)) fun y12=>
          some (LX.out y12.2)
         else
          some (LX.out s8.2)) fun j13=>
       zZ (X:=List UInt8) (
         bif y9.tag==[]then
          some (LX.out j13)
         else
          bif y9.tag==[42]then
           za (zW fu (42,j13)) fun y14=>
           some (LX.out y14)
          else
           za (Zh fu ((⟨1,y9.tag,0,[],false⟩:zt),j13)) fun y15=>
           some (LX.out y15)) fun j16=>
       Zd fu (fun(s17:Int×List UInt8)=>
         bif decide (s17.1<(y9.simples.length:Int))then
          za (geti y9.simples s17.1) fun y18=>
          za (zJ ((⟨y18.kind,y18.name,y18.op,y18.value,y18.fold,y18.anb,y18.of_,y18.list⟩:zC),s17.2)) fun y19=>
          some (LO.again (w64 (s17.1+1),y19))
         else
          some (LO.out s17.2):Int×List UInt8->Option (LO (Int×List UInt8) (List UInt8) _)) (0,j16) fun o20=>
       some (LO.again (w64 (s8.1+1),o20))
      else
       some (LO.out s8.2):Int×List UInt8->Option (LO (Int×List UInt8) (List UInt8) _)) (0,j7) fun o21=>
    some (LO.again (w64 (s1.1+1),o21))
   else
    some (LO.out s1.2):Int×List UInt8->Option (LO (Int×List UInt8) (List UInt8) _)) (0,x.2) fun o22=>
 some o22
def EB(fu:Nat)(zJ:zC×List UInt8->Option (List UInt8))(x:zC×List UInt8):Option (List UInt8):=
 bif x.1.kind==1 then
  za (Zh fu ((⟨4,x.1.name,0,[],true⟩:zt),x.2)) fun y1=>
  some y1
 else
  bif x.1.kind==2 then
   za (zW fu (46,x.2)) fun y2=>
   za (Zh fu ((⟨1,x.1.name,0,[],false⟩:zt),y2)) fun y3=>
   some y3
  else
   bif x.1.kind==3 then
    za (zW fu (91,x.2)) fun y4=>
    za (Zh fu ((⟨1,x.1.name,0,[],false⟩:zt),y4)) fun y5=>
    zZ (X:=List UInt8) (
      bif x.1.op != 0 then
       za (geti [([]:Str),([61]:Str),([126,61]:Str),([124,61]:Str),([94,61]:Str),([36,61]:Str),([42,61]:Str)] x.1.op) fun y6=>
       za (zx fu (y6,y5)) fun y7=>
       za (Zh fu ((⟨5,x.1.value,0,[],false⟩:zt),y7.2)) fun y8=>
       some (LX.out y8)
      else
       some (LX.out y5)) fun j9=>
    zZ (X:=List UInt8) (
      bif x.1.fold then
       za (zx fu ([32,105],j9)) fun y10=>
       some (LX.out y10.2)
      else
       some (LX.out j9)) fun j11=>
    za (zW fu (93,j11)) fun y12=>
    some y12
   else
    bif bif bif !x.1.of_ then x.1.anb.a==0&&(x.1.anb.b==1&&true)else false then decide (x.1.kind<=10)else false then
     za (geti [([58,102,105,114,115,116,45,99,104,105,108,100]:Str),([58,108,97,115,116,45,99,104,105,108,100]:Str)] (wu8 (x.1.kind - 9))) fun y13=>
     za (zx fu (y13,x.2)) fun y14=>
     some y14.2
    else
     za (Yh fu ()) fun y15=>
     za (geti y15 (wu8 (x.1.kind - 4))) fun y16=>
     need (jc ([58]:Str).length y16.length)<|
     za (zx fu (([58]:Str)++y16,x.2)) fun y17=>
     bif decide (x.1.kind<=8)then
      some y17.2
     else
      za (zW fu (40,y17.2)) fun y18=>
      zZ (X:=List UInt8) (
        bif decide (x.1.kind<=10)then
         za (Yu fu x.1.anb) fun y19=>
         za (zx fu (y19.1,y18)) fun y20=>
         bif x.1.of_ then
          za (zx fu ([32,111,102,32],y20.2)) fun y21=>
          some (LX.out y21.2)
         else
          some (LX.out y20.2)
        else
         some (LX.out y18)) fun j22=>
      za (IB fu zJ (x.1.list,j22)) fun y23=>
      za (zW fu (41,y23)) fun y24=>
      some y24
def zJ(fu:Nat):zC×List UInt8->Option (List UInt8):=Bd (EB fu) fu
def XA(fu:Nat)(x:List zu):Option (List UInt8):=
 Zd fu (fun(s1:Int×List UInt8)=>
   bif decide (s1.1<(x.length:Int))then
    za (geti x s1.1) fun y2=>
    zZ (X:=List UInt8) (
      bif decide (s1.1>0)then
       za (zx fu ([44,32],s1.2)) fun y3=>
       some (LX.out y3.2)
      else
       some (LX.out s1.2)) fun j4=>
    zZ (X:=List UInt8) (
      bif decide (y2.lead>1)then
       need (decide (0<=y2.lead)&&decide (y2.lead<5))<|
       za ([[],[32],[32,62,32],[32,43,32],[32,126,32]]:List Str)[0+y2.lead.toNat*1]? fun y5=>
       need (decide (1<=(y5.length:Int)))<|
       za (zx fu (List.drop 1 y5,j4)) fun y6=>
       some (LX.out y6.2)
      else
       some (LX.out j4)) fun j7=>
    Zd fu (fun(s8:Int×List UInt8)=>
      bif decide (s8.1<(y2.parts.length:Int))then
       za (geti y2.parts s8.1) fun y9=>
       zZ (X:=List UInt8) (
         bif decide (s8.1>0)then
          za (geti y2.combs (w64 (s8.1 - 1))) fun y10=>
          need (decide (0<=(y10.toNat:Int))&&decide ((y10.toNat:Int)<5))<|
          za ([[],[32],[32,62,32],[32,43,32],[32,126,32]]:List Str)[0+y10.toNat*1]? fun y11=>
          za (zx fu (y11,s8.2)) fun y12=>
          some (LX.out y12.2)
         else
          some (LX.out s8.2)) fun j13=>
       zZ (X:=List UInt8) (
         bif y9.tag==[]then
          some (LX.out j13)
         else
          bif y9.tag==[42]then
           za (zW fu (42,j13)) fun y14=>
           some (LX.out y14)
          else
           za (Zh fu ((⟨1,y9.tag,0,[],false⟩:zt),j13)) fun y15=>
           some (LX.out y15)) fun j16=>
       Zd fu (fun(s17:Int×List UInt8)=>
         bif decide (s17.1<(y9.simples.length:Int))then
          za (geti y9.simples s17.1) fun y18=>
          za (zJ fu ((⟨y18.kind,y18.name,y18.op,y18.value,y18.fold,y18.anb,y18.of_,y18.list⟩:zC),s17.2)) fun y19=>
          some (LO.again (w64 (s17.1+1),y19))
         else
          some (LO.out s17.2):Int×List UInt8->Option (LO (Int×List UInt8) (List UInt8) _)) (0,j16) fun o20=>
       some (LO.again (w64 (s8.1+1),o20))
      else
       some (LO.out s8.2):Int×List UInt8->Option (LO (Int×List UInt8) (List UInt8) _)) (0,j7) fun o21=>
    some (LO.again (w64 (s1.1+1),o21))
   else
    some (LO.out s1.2):Int×List UInt8->Option (LO (Int×List UInt8) (List UInt8) _)) (0,[]) fun o22=>
 some o22
def VA(fu:Nat)(x:List UInt8):Option Int:=
 some (x.length:Int)
def Km(fu:Nat)(x:List zu):Option (Str×Int):=
 za (Om fu x) fun y1=>
 bif y1 != 0 then
  some ([],y1)
 else
  za (XA fu x) fun y2=>
  za (VA fu y2) fun y3=>
  bif decide (y3>4000)then
   some ([],28)
  else
   za (strV y2) fun y4=>
   some (y4,0)
def TB(fu:Nat)(x:Bool):Option Int:=
 some 0
def qC(fu:Nat)(x:Str×Bool):Option (Int×Bool×List UInt8):=
 za (bn x.2) fun y1=>
 need (zL 0 x.1.length 1)<|
 some ((x.1.length:Int),y1,x.1)
def oz(fu:Nat)(x:(Str×Int)×Bool):Option (Bool×List UInt8):=
 za (zU (!(bif x.2 then true else x.1.2 != 0)) (TB fu x.2) (default:Int)) fun y1=>
 bif !(bif bif x.2 then true else x.1.2 != 0 then true else decide (y1>400000))then
  za (qC fu (x.1.1,bif bif x.2 then true else x.1.2 != 0 then true else decide (y1>400000))) fun y2=>
  some (y2.2.1,y2.2.2)
 else
  some (bif bif x.2 then true else x.1.2 != 0 then true else decide (y1>400000),[])
def ql(fu:Nat)(x:Bool×List UInt8):Option Int:=
 some (x.2.length:Int)
def qD(fu:Nat)(x:Str×Bool×List UInt8):Option (Int×Bool×List UInt8):=
 za (Kn (x.2.1,x.2.2)) fun y1=>
 need (zL x.2.2.length x.1.length 1)<|
 some ((x.1.length:Int),y1,x.2.2++x.1)
def zB(fu:Nat)(x:(Str×Int)×Bool×List UInt8):Option (Bool×List UInt8):=
 za (zU (!(bif x.2.1 then true else x.1.2 != 0)) (ql fu (x.2.1,x.2.2)) (default:Int)) fun y1=>
 bif !(bif bif x.2.1 then true else x.1.2 != 0 then true else decide (y1>400000))then
  za (qD fu (x.1.1,bif bif x.2.1 then true else x.1.2 != 0 then true else decide (y1>400000),x.2.2)) fun y2=>
  some (y2.2.1,y2.2.2)
 else
  some (bif bif x.2.1 then true else x.1.2 != 0 then true else decide (y1>400000),x.2.2)
def Oh(fu:Nat)(x:Str):Option (Str×Int):=
 za (zU (!(x==[])) (strings_IndexByte fu (x,0)) (default:Int)) fun y1=>
 bif bif x==[]then true else decide (y1>=0)then
  some ([],8)
 else
  za (qc fu x) fun y2=>
  za (mi fu (x,y2)) fun y3=>
  bif bif decide ((x.length:Int)>4000)then true else decide ((y3.length:Int)>4000)then
   some ([],28)
  else
   some (y3,0)
def Rm(fu:Nat)(x:(Int×Bool)×List UInt8):Option (List UInt8):=
 zZ (X:=Int×List UInt8) (
   bif decide (x.1.1<0)then
    need (zL x.2.length 1 1)<|
    some (LX.out (w64 (0 - x.1.1),x.2++[(45:UInt8)]))
   else
    some (LX.out (x.1.1,x.2))) fun j1=>
 za (Ui ((w64 (Int.tdiv j1.1 1000),10),j1.2)) fun y2=>
 za (yf (w64 (1000+Int.tmod j1.1 1000),10)) fun y3=>
 need (decide (1<=(y3.length:Int)))<|
 za (Vg (List.drop 1 y3,[48])) fun y4=>
 zZ (X:=List UInt8) (
   bif !(y4==[])then
    need (zL y2.length 1 1)<|
    need (zL (y2++[(46:UInt8)]).length y4.length 1)<|
    some (LX.out (y2++[(46:UInt8)]++y4))
   else
    bif x.1.2 then
     need (zL y2.length ([46,48]:Str).length 1)<|
     some (LX.out (y2++([46,48]:Str)))
    else
     some (LX.out y2)) fun j5=>
 some j5
def Rw(fu:Nat)(x:zt×List UInt8):Option (List UInt8):=
 bif x.1.kind==1 then
  za (qc fu x.1.text) fun y1=>
  za (qd fu ((x.1.text,y1),x.2)) fun y2=>
  some y2
 else
  bif x.1.kind==2 then
   za (qc fu x.1.text) fun y3=>
   za (qd fu ((x.1.text,y3),x.2)) fun y4=>
   need (zL y4.length 1 1)<|
   some (y4++[(40:UInt8)])
  else
   bif x.1.kind==3 then
    need (zL x.2.length 1 1)<|
    za (qc fu x.1.text) fun y5=>
    za (qd fu ((x.1.text,y5),x.2++[(64:UInt8)])) fun y6=>
    some y6
   else
    bif x.1.kind==4 then
     zZ (X:=Int×List UInt8) (
       bif x.1.flag then
        za (qc fu x.1.text) fun y7=>
        some (LX.out (y7,x.2))
       else
        some (LX.out (0,x.2))) fun j8=>
     need (zL j8.2.length 1 1)<|
     za (qd fu ((x.1.text,j8.1),j8.2++[(35:UInt8)])) fun y9=>
     some y9
    else
     bif x.1.kind==5 then
      need (zL x.2.length 1 1)<|
      need (decide (x.1.text.length<=maxLen))<|
      Zd fu (fun(s10:Int×List UInt8)=>
        bif decide (s10.1<(x.1.text.length:Int))then
         zZ (X:=Int×List UInt8) (
           need (decide (0<=s10.1)&&decide (s10.1<(x.1.text.length:Int)))<|
           za x.1.text[s10.1.toNat]? fun y11=>
           za (strings_IndexByte fu ([10,12,13,34,92],(y11.toNat:Int))) fun y12=>
           bif decide (y12>=0)then
            za (ZC fu ((y11.toNat:Int),s10.2)) fun y13=>
            some (LX.out (s10.1,y13))
           else
            za (QG (y11.toNat:Int)) fun y14=>
            need (zL s10.2.length 1 1)<|
            some (LX.out (s10.1,s10.2++[y14]))) fun j15=>
         some (LO.again (w64 (j15.1+1),j15.2))
        else
         some (LO.out s10.2):Int×List UInt8->Option (LO (Int×List UInt8) (List UInt8) _)) (0,x.2++[(34:UInt8)]) fun o16=>
      need (zL o16.length 1 1)<|
      some (o16++[(34:UInt8)])
     else
      bif x.1.kind==7 then
       need (zL x.2.length ([117,114,108,40]:Str).length 1)<|
       need (decide (x.1.text.length<=maxLen))<|
       Zd fu (fun(s17:Int×List UInt8)=>
         bif decide (s17.1<(x.1.text.length:Int))then
          zZ (X:=Int×List UInt8) (
            need (decide (0<=s17.1)&&decide (s17.1<(x.1.text.length:Int)))<|
            za x.1.text[s17.1.toNat]? fun y18=>
            za (zU (!(decide ((y18.toNat:Int)<=32))) (strings_IndexByte fu ([34,39,40,41,92,127],(y18.toNat:Int))) (default:Int)) fun y19=>
            bif bif decide ((y18.toNat:Int)<=32)then true else decide (y19>=0)then
             za (ZC fu ((y18.toNat:Int),s17.2)) fun y20=>
             some (LX.out (s17.1,y20))
            else
             za (QG (y18.toNat:Int)) fun y21=>
             need (zL s17.2.length 1 1)<|
             some (LX.out (s17.1,s17.2++[y21]))) fun j22=>
          some (LO.again (w64 (j22.1+1),j22.2))
         else
          some (LO.out s17.2):Int×List UInt8->Option (LO (Int×List UInt8) (List UInt8) _)) (0,x.2++([117,114,108,40]:Str)) fun o23=>
       need (zL o23.length 1 1)<|
       some (o23++[(41:UInt8)])
      else
       bif x.1.kind==9 then
        need (zL x.2.length x.1.text.length 1)<|
        some (x.2++x.1.text)
       else
        bif x.1.kind==10 then
         za (Rm fu ((x.1.num, !x.1.flag),x.2)) fun y24=>
         some y24
        else
         bif x.1.kind==11 then
          za (Rm fu ((x.1.num,false),x.2)) fun y25=>
          need (zL y25.length 1 1)<|
          some (y25++[(37:UInt8)])
         else
          bif x.1.kind==12 then
           za (Rm fu ((x.1.num, !x.1.flag),x.2)) fun y26=>
           za (geti x.1.unit 0) fun y27=>
           need (decide (1<=(x.1.unit.length:Int))|| !(ibOr IntKind.u8 (y27.toNat:Int) 32==101))<|
           za (zU (ibOr IntKind.u8 (y27.toNat:Int) 32==101) (ah fu (List.drop 1 x.1.unit)) (default:Bool)) fun y28=>
           need (decide (1<=(x.1.unit.length:Int))|| !(bif ibOr IntKind.u8 (y27.toNat:Int) 32==101 then y28 else false))<|
           za (zU (bif ibOr IntKind.u8 (y27.toNat:Int) 32==101 then y28 else false) (strings_HasPrefix fu (List.drop 1 x.1.unit,[45,45])) (default:Bool)) fun y29=>
           bif bif bif ibOr IntKind.u8 (y27.toNat:Int) 32==101 then y28 else false then !y29 else false then
            za (geti x.1.unit 0) fun y30=>
            za (ZC fu ((y30.toNat:Int),y26)) fun y31=>
            need (decide (1<=(x.1.unit.length:Int)))<|
            za (qd fu ((List.drop 1 x.1.unit,0),y31)) fun y32=>
            some y32
           else
            za (qc fu x.1.unit) fun y33=>
            za (qd fu ((x.1.unit,y33),y26)) fun y34=>
            some y34
          else
           za (Ol fu ()) fun y35=>
           za (geti [y35.e0,y35.e1,y35.e2,y35.e3,y35.e4,y35.e5,y35.e6,y35.e7,y35.e8,y35.e9,y35.e10,y35.e11] (wu8 (x.1.kind - 13))) fun y36=>
           need (zL x.2.length y36.length 1)<|
           some (x.2++y36)
def IA(fu:Nat)(x:List zt×List zt):Option Bool:=
 bif (x.1.length:Int) != (x.2.length:Int)then
  some false
 else
  Zd fu (fun(s1:Int)=>
    bif decide (s1<(x.1.length:Int))then
     za (geti x.1 s1) fun y2=>
     za (geti x.2 s1) fun y3=>
     bif !(y2.kind==y3.kind&&(y2.text==y3.text&&(y2.num==y3.num&&(y2.unit==y3.unit&&(y2.flag==y3.flag&&true)))))then
      some (LO.ret false)
     else
      some (LO.again (w64 (s1+1)))
    else
     some (LO.out ()):Int->Option (LO (Int) (Unit) _)) 0 fun o4=>
  some true
def Yv(fu:Nat)(x:List zt):Option (Str×Int):=
 za (Rl fu x) fun y1=>
 bif y1 != 0 then
  some ([],y1)
 else
  Zd fu (fun(s2:Int×List UInt8×List Zi)=>
    bif decide (s2.1<(x.length:Int))then
     need (decide (0<=s2.1)&&decide (s2.1<=(x.length:Int)))<|
     za (Nl fu (List.drop s2.1.toNat x)) fun y3=>
     need (decide (0<=s2.1)&&(decide (s2.1<=w64 (s2.1+y3))&&decide (w64 (s2.1+y3)<=(x.length:Int))))<|
     Zd fu (fun(s4:Int×List UInt8)=>
       bif decide (s4.1<((List.drop s2.1.toNat (List.take (w64 (s2.1+y3)).toNat x)).length:Int))then
        za (geti (List.drop s2.1.toNat (List.take (w64 (s2.1+y3)).toNat x)) s4.1) fun y5=>
        za (Rw fu (y5,s4.2)) fun y6=>
        some (LO.again (w64 (s4.1+1),y6))
       else
        some (LO.out s4.2):Int×List UInt8->Option (LO (Int×List UInt8) (List UInt8) _)) (0,[]) fun o7=>
     zZ (X:=Int×List UInt8×List Zi×List UInt8) (
       za (geti x s2.1) fun y8=>
       bif bif y8.kind==9 then y3==2 else false then
        some (LX.out (s2.1,s2.2.1,s2.2.2,[(92:UInt8),(10:UInt8)]))
       else
        some (LX.out (s2.1,s2.2.1,s2.2.2,o7))) fun j9=>
     zZ (X:=Int×List UInt8×List Zi×Zi) (
       bif decide (w64 ((j9.2.2.1.length:Int) - 4)>=0)then
        need (decide (0<=w64 ((j9.2.2.1.length:Int) - 4))&&decide (w64 ((j9.2.2.1.length:Int) - 4)<(j9.2.2.1.length:Int)))<|
        za (j9.2.2.1[(w64 ((j9.2.2.1.length:Int) - 4)).toNat]?) fun y10=>
        some (LX.out (j9.1,j9.2.1,j9.2.2.1,y10))
       else
        some (LX.out (j9.1,j9.2.1,j9.2.2.1,(⟨0,0⟩:Zi)))) fun j11=>
     need (decide (0<=j11.2.2.2.at_)&&decide (j11.2.2.2.at_<=(j11.2.1.length:Int)))<|
     need (decide (j11.2.2.2.at_.toNat+(j11.2.1.length - j11.2.2.2.at_.toNat)<=j11.2.1.length))<|
     need (jc (List.take (j11.2.1.length - j11.2.2.2.at_.toNat) (List.drop j11.2.2.2.at_.toNat j11.2.1)).length j9.2.2.2.length)<|
     za (Qs fu (List.take (j11.2.1.length - j11.2.2.2.at_.toNat) (List.drop j11.2.2.2.at_.toNat j11.2.1)++j9.2.2.2)) fun y12=>
     zZ (X:=Int×List Zi×List UInt8) (
       need (decide (0<=j11.2.2.2.token)&&(decide (j11.2.2.2.token<=w64 (j11.1+y3))&&decide (w64 (j11.1+y3)<=(x.length:Int)))|| !(!(y12.2 != 0)))<|
       za (zU (!(y12.2 != 0)) (IA fu (y12.1,List.drop j11.2.2.2.token.toNat (List.take (w64 (j11.1+y3)).toNat x))) (default:Bool)) fun y13=>
       bif bif y12.2 != 0 then true else !y13 then
        need (zL j11.2.1.length ([47,42,42,47]:Str).length 1)<|
        some (LX.out (j11.1,j11.2.2.1,j11.2.1++([47,42,42,47]:Str)))
       else
        some (LX.out (j11.1,j11.2.2.1,j11.2.1))) fun j14=>
     need (zL j14.2.1.length 1 16)<|
     need (zL j14.2.2.length j9.2.2.2.length 1)<|
     bif decide (((j14.2.2++j9.2.2.2).length:Int)>4000)then
      some (LO.ret ([],28))
     else
      some (LO.again (w64 (j14.1+y3),j14.2.2++j9.2.2.2,j14.2.1++[(⟨j14.1,(j14.2.2.length:Int)⟩:Zi)]))
    else
     some (LO.out s2.2.1):Int×List UInt8×List Zi->Option (LO (Int×List UInt8×List Zi) (List UInt8) _)) (0,[],[]) fun o15=>
  some (o15,0)
def Pv(fu:Nat)(x:List ze):Option (Str×Int):=
 za (ZU fu x) fun y1=>
 bif y1 != 0 then
  some ([],y1)
 else
  za (ui fu x) fun y2=>
  za (Yv fu y2) fun y3=>
  some (y3.1,y3.2)
def Xk(fu:Nat)(x:z8):Option (Str×Int):=
 za (Jg fu x) fun y1=>
 bif y1 != 0 then
  some ([],y1)
 else
  za (Oh fu x.name) fun y2=>
  bif y2.2 != 0 then
   some ([],y2.2)
  else
   za (Pv fu x.value) fun y3=>
   bif y3.2 != 0 then
    some ([],y3.2)
   else
    need (jc y2.1.length ([58,32]:Str).length)<|
    need (jc (y2.1++([58,32]:Str)).length y3.1.length)<|
    zZ (X:=Str) (
      bif x.important then
       need (jc (y2.1++([58,32]:Str)++y3.1).length ([32,33,105,109,112,111,114,116,97,110,116]:Str).length)<|
       some (LX.out (y2.1++([58,32]:Str)++y3.1++([32,33,105,109,112,111,114,116,97,110,116]:Str)))
      else
       some (LX.out (y2.1++([58,32]:Str)++y3.1))) fun j4=>
    bif decide ((j4.length:Int)>4000)then
     some ([],28)
    else
     some (j4,0)
def Yk(fu:Nat)(x:List z8):Option (Str×Int):=
 bif decide ((x.length:Int)>32)then
  some ([],4)
 else
  Zd fu (fun(s1:(Bool×Int)×List Str)=>
    bif decide (s1.1.2<(x.length:Int))then
     za (geti x s1.1.2) fun y2=>
     za (Xk fu y2) fun y3=>
     bif y3.2==8 then
      some (LO.ret ([],y3.2))
     else
      need (zL s1.2.length 1 16)<|
      some (LO.again ((bif s1.1.1 then true else y3.2 != 0,w64 (s1.1.2+1)),s1.2++[y3.1]))
    else
     some (LO.out (s1.1.1,s1.2)):(Bool×Int)×List Str->Option (LO ((Bool×Int)×List Str) (Bool×List Str) _)) ((false,0),[]) fun o4=>
  za (Ue (o4.2,[59,32])) fun y5=>
  bif bif o4.1 then true else decide ((y5.length:Int)>4000)then
   some ([],28)
  else
   some (y5,0)
def Aw(fu:Nat)(x:zq):Option Int:=
 za (qO fu (⟨x.kind,x.name,x.num,x.decl,x.list⟩:zq)) fun y1=>
 bif y1 != 0 then
  za (ZY fu (⟨x.kind,x.name,x.num,x.decl,x.list⟩:zq)) fun y2=>
  some y2
 else
  some 0
def Aj(fu:Nat)(x:Int×Int×List UInt8):Option (Int×List UInt8):=
 need (decide (0<=w64 (x.2.1 - 1))&&(decide (w64 (x.2.1 - 1)<20)&&decide (w64 (x.2.1 - 1)<(x.2.2.length:Int))))<|
 za (x.2.2[(w64 (x.2.1 - 1)).toNat]?) fun y1=>
 za (QG x.1) fun y2=>
 some (w64 (x.2.1 - 1),List.set x.2.2 (w64 (x.2.1 - 1)).toNat y2)
def Tw(fu:Nat)(x:Int):Option (Str×Int):=
 za (Xl fu [x]) fun y1=>
 bif y1 != 0 then
  some ([],y1)
 else
  zZ (X:=Int) (
    bif decide (x<0)then
     some (LX.out (w64 (0 - x)))
    else
     some (LX.out x)) fun j2=>
  Zd fu (fun(s3:(Int×Int)×List UInt8×Int)=>
    bif decide (s3.1.2<3)then
     zZ (X:=(Int×Int)×List UInt8×Int) (
       zZ (X:=Int×List UInt8×Int) (
         bif bif Int.tmod s3.1.1 10 != 0 then true else decide (s3.2.2<20)then
          za (Aj fu (wu8 (w64 (48+Int.tmod s3.1.1 10)),s3.2.2,s3.2.1)) fun y4=>
          some (LX.out (s3.1.1,y4.2,y4.1))
         else
          some (LX.out (s3.1.1,s3.2.1,s3.2.2))) fun j5=>
       bif bif s3.1.2==2 then decide (j5.2.2<20)else false then
        za (Aj fu (46,j5.2.2,j5.2.1)) fun y6=>
        some (LX.out ((w64 (Int.tdiv j5.1 10),s3.1.2),y6.2,y6.1))
       else
        some (LX.out ((w64 (Int.tdiv j5.1 10),s3.1.2),j5.2.1,j5.2.2))) fun j7=>
     some (LO.again ((j7.1.1,w64 (j7.1.2+1)),j7.2.1,j7.2.2))
    else
     some (LO.out (s3.2.1,s3.2.2)):(Int×Int)×List UInt8×Int->Option (LO ((Int×Int)×List UInt8×Int) (List UInt8×Int) _)) ((Int.tmod j2 1000,0),List.replicate 20 (0:UInt8),20) fun o8=>
  Zd fu (fun(s9:Int×List UInt8×Int)=>
    za (Aj fu (wu8 (w64 (48+Int.tmod s9.1 10)),s9.2.2,s9.2.1)) fun y10=>
    bif decide (s9.1<10)then
     some (LO.out (y10.2,y10.1))
    else
     some (LO.again (w64 (Int.tdiv s9.1 10),y10.2,y10.1)):Int×List UInt8×Int->Option (LO (Int×List UInt8×Int) (List UInt8×Int) _)) (w64 (Int.tdiv j2 1000),o8.1,o8.2) fun o11=>
  zZ (X:=List UInt8×Int) (
    bif decide (x<0)then
     za (Aj fu (45,o11.2,o11.1)) fun y12=>
     some (LX.out (y12.2,y12.1))
    else
     some (LX.out (o11.1,o11.2))) fun j13=>
  need (decide (0<=j13.2)&&decide (j13.2<=20)&&Nat.beq j13.1.length 20)<|
  need (decide (j13.2.toNat+(20 - j13.2.toNat)<=j13.1.length))<|
  some (List.take (20 - j13.2.toNat) (List.drop j13.2.toNat j13.1),0)
def Vp(fu:Nat)(ZB:zq->Option Str)(x:List zq×Str):Option Str:=
 Zd fu (fun(s1:Int×List Str)=>
   bif decide (s1.1<(x.1.length:Int))then
    za (geti x.1 s1.1) fun y2=>
    za (ZB (⟨y2.kind,y2.name,y2.num,y2.decl,y2.list⟩:zq)) fun y3=>
    need (zL s1.2.length 1 16)<|
    some (LO.again (w64 (s1.1+1),s1.2++[y3]))
   else
    some (LO.out s1.2):Int×List Str->Option (LO (Int×List Str) (List Str) _)) (0,[]) fun o4=>
 za (Ue (o4,x.2)) fun y5=>
 some y5
def Vx(fu:Nat)(ZB:zq->Option Str)(x:zq):Option Str:=
 bif x.kind==4 then
  za (Oh fu x.name) fun y1=>
  some y1.1
 else
  bif x.kind==3 then
   za (geti x.list 0) fun y2=>
   za (ZB (⟨y2.kind,y2.name,y2.num,y2.decl,y2.list⟩:zq)) fun y3=>
   need (jc ([110,111,116,32]:Str).length y3.length)<|
   some (([110,111,116,32]:Str)++y3)
  else
   bif x.kind==2 then
    za (Vp fu ZB (x.list,[44,32])) fun y4=>
    some y4
   else
    bif x.kind==1 then
     za (Vp fu ZB (x.list,[32,97,110,100,32])) fun y5=>
     some y5
    else
     za (Tw fu x.num) fun y6=>
     bif x.kind==5 then
      need (jc ([40,109,105,110,45,119,105,100,116,104,58,32]:Str).length y6.1.length)<|
      need (jc (([40,109,105,110,45,119,105,100,116,104,58,32]:Str)++y6.1).length ([112,120,41]:Str).length)<|
      some (([40,109,105,110,45,119,105,100,116,104,58,32]:Str)++y6.1++([112,120,41]:Str))
     else
      need (jc ([40,109,97,120,45,119,105,100,116,104,58,32]:Str).length y6.1.length)<|
      need (jc (([40,109,97,120,45,119,105,100,116,104,58,32]:Str)++y6.1).length ([112,120,41]:Str).length)<|
      some (([40,109,97,120,45,119,105,100,116,104,58,32]:Str)++y6.1++([112,120,41]:Str))
def ZB(fu:Nat):zq->Option Str:=Bd (Vx fu) fu
def ym(fu:Nat)(zR:zq×Bool->Option (Str×Bool))(x:zq×Bool):Option (Str×Bool):=
 za (zR ((⟨x.1.kind,x.1.name,x.1.num,x.1.decl,x.1.list⟩:zq),x.2)) fun y1=>
 za (ek fu (⟨x.1.kind,x.1.name,x.1.num,x.1.decl,x.1.list⟩:zq)) fun y2=>
 bif y2 then
  some (y1.1,y1.2)
 else
  need (jc ([40]:Str).length y1.1.length)<|
  need (jc (([40]:Str)++y1.1).length ([41]:Str).length)<|
  some (([40]:Str)++y1.1++([41]:Str),y1.2)
def Iq(fu:Nat)(zR:zq×Bool->Option (Str×Bool))(x:(List zq×Str)×Bool):Option (Str×Bool):=
 Zd fu (fun(s1:Int×Bool×List Str)=>
   bif decide (s1.1<(x.1.1.length:Int))then
    za (geti x.1.1 s1.1) fun y2=>
    za (ym fu zR ((⟨y2.kind,y2.name,y2.num,y2.decl,y2.list⟩:zq),s1.2.1)) fun y3=>
    need (zL s1.2.2.length 1 16)<|
    some (LO.again (w64 (s1.1+1),y3.2,s1.2.2++[y3.1]))
   else
    some (LO.out (s1.2.1,s1.2.2)):Int×Bool×List Str->Option (LO (Int×Bool×List Str) (Bool×List Str) _)) (0,x.2,[]) fun o4=>
 za (Ue (o4.2,x.1.2)) fun y5=>
 some (y5,o4.1)
def Sz(fu:Nat)(zR:zq×Bool->Option (Str×Bool))(x:zq×Bool):Option (Str×Bool):=
 bif x.1.kind==7 then
  za (Xk fu x.1.decl) fun y1=>
  need (jc ([40]:Str).length y1.1.length)<|
  need (jc (([40]:Str)++y1.1).length ([41]:Str).length)<|
  some (([40]:Str)++y1.1++([41]:Str),bif x.2 then true else y1.2 != 0)
 else
  bif x.1.kind==8 then
   some ([40,117,110,107,110,111,119,110,41],x.2)
  else
   bif x.1.kind==3 then
    za (geti x.1.list 0) fun y2=>
    za (ym fu zR ((⟨y2.kind,y2.name,y2.num,y2.decl,y2.list⟩:zq),x.2)) fun y3=>
    need (jc ([110,111,116,32]:Str).length y3.1.length)<|
    some (([110,111,116,32]:Str)++y3.1,y3.2)
   else
    bif x.1.kind==2 then
     za (Iq fu zR ((x.1.list,[32,111,114,32]),x.2)) fun y4=>
     some (y4.1,y4.2)
    else
     za (Iq fu zR ((x.1.list,[32,97,110,100,32]),x.2)) fun y5=>
     some (y5.1,y5.2)
def zR(fu:Nat):zq×Bool->Option (Str×Bool):=Bd (Sz fu) fu
def ik(fu:Nat)(x:zq):Option (Str×Int):=
 za (Aw fu (⟨x.kind,x.name,x.num,x.decl,x.list⟩:zq)) fun y1=>
 bif y1 != 0 then
  some ([],y1)
 else
  zZ (X:=Str×Bool) (
    za (qO fu (⟨x.kind,x.name,x.num,x.decl,x.list⟩:zq)) fun y2=>
    bif y2==0 then
     za (ZB fu (⟨x.kind,x.name,x.num,x.decl,x.list⟩:zq)) fun y3=>
     some (LX.out (y3,false))
    else
     za (zR fu ((⟨x.kind,x.name,x.num,x.decl,x.list⟩:zq),false)) fun y4=>
     some (LX.out (y4.1,y4.2))) fun j5=>
  bif bif j5.2 then true else decide ((j5.1.length:Int)>4000)then
   some ([],28)
  else
   some (j5.1,0)
def Zl(fu:Nat)(x:(Str×Str)×Bool×List UInt8):Option (Bool×List UInt8):=
 need (jc ([64]:Str).length x.1.1.length)<|
 need (jc (([64]:Str)++x.1.1).length ([32]:Str).length)<|
 need (jc (([64]:Str)++x.1.1++([32]:Str)).length x.1.2.length)<|
 za (zB fu ((([64]:Str)++x.1.1++([32]:Str)++x.1.2,0),x.2.1,x.2.2)) fun y1=>
 some (y1.1,y1.2)
def qf(fu:Nat)(x:List Str×Bool×List UInt8):Option (Bool×List UInt8):=
 Zd fu (fun(s1:Int×Bool×List UInt8)=>
   bif decide (s1.1<(x.1.length:Int))then
    za (geti x.1 s1.1) fun y2=>
    zZ (X:=Bool×List UInt8) (
      bif decide (s1.1>0)then
       za (zB fu (([46],0),s1.2.1,s1.2.2)) fun y3=>
       some (LX.out (y3.1,y3.2))
      else
       some (LX.out (s1.2.1,s1.2.2))) fun j4=>
    za (Oh fu y2) fun y5=>
    za (zB fu ((y5.1,y5.2),j4.1,j4.2)) fun y6=>
    some (LO.again (w64 (s1.1+1),y6.1,y6.2))
   else
    some (LO.out (s1.2.1,s1.2.2)):Int×Bool×List UInt8->Option (LO (Int×Bool×List UInt8) (Bool×List UInt8) _)) (0,x.2.1,x.2.2) fun o7=>
 some (o7.1,o7.2)
def YA(fu:Nat)(zO:List zD×Bool×List UInt8->Option (Bool×List UInt8))(x:zD×Bool×List UInt8):Option (Bool×List UInt8):=
 bif x.1.kind==1 then
  za (Km fu x.1.selectors) fun y1=>
  za (zB fu ((y1.1,y1.2),x.2.1,x.2.2)) fun y2=>
  bif (x.1.decls.length:Int)==0 then
   za (zB fu (([32,123,125],0),y2.1,y2.2)) fun y3=>
   some (y3.1,y3.2)
  else
   za (zB fu (([32,123,32],0),y2.1,y2.2)) fun y4=>
   za (Yk fu x.1.decls) fun y5=>
   za (zB fu ((y5.1,y5.2),y4.1,y4.2)) fun y6=>
   za (zB fu (([32,125],0),y6.1,y6.2)) fun y7=>
   some (y7.1,y7.2)
 else
  zZ (X:=Bool×Bool×List UInt8) (
    bif x.1.kind==2 then
     some (LX.out (x.1.kind==2,x.2.1,x.2.2))
    else
     some (LX.out (x.1.kind==3,x.2.1,x.2.2))) fun j8=>
  bif j8.1 then
   zZ (X:=Str×Bool×List UInt8) (
     bif x.1.kind==3 then
      some (LX.out ([115,117,112,112,111,114,116,115],j8.2.1,j8.2.2))
     else
      some (LX.out ([109,101,100,105,97],j8.2.1,j8.2.2))) fun j9=>
   za (ik fu (⟨x.1.cond.kind,x.1.cond.name,x.1.cond.num,x.1.cond.decl,x.1.cond.list⟩:zq)) fun y10=>
   zZ (X:=Str×Bool×List UInt8) (
     bif !(y10.1==[])then
      need (jc y10.1.length ([32]:Str).length)<|
      some (LX.out (y10.1++([32]:Str),j9.2.1,j9.2.2))
     else
      some (LX.out (y10.1,j9.2.1,j9.2.2))) fun j11=>
   za (Zl fu ((j9.1,[]),j11.2.1,j11.2.2)) fun y12=>
   za (zB fu ((j11.1,y10.2),y12.1,y12.2)) fun y13=>
   za (zO (x.1.rules,y13.1,y13.2)) fun y14=>
   some (y14.1,y14.2)
  else
   bif x.1.kind==4 then
    za (Zl fu (([108,97,121,101,114],[]),j8.2.1,j8.2.2)) fun y15=>
    Zd fu (fun(s16:Int×Bool×List UInt8)=>
      bif decide (s16.1<(x.1.names.length:Int))then
       za (geti x.1.names s16.1) fun y17=>
       za (qf fu (y17,s16.2.1,s16.2.2)) fun y18=>
       za (zB fu (([32],0),y18.1,y18.2)) fun y19=>
       some (LO.again (w64 (s16.1+1),y19.1,y19.2))
      else
       some (LO.out (s16.2.1,s16.2.2)):Int×Bool×List UInt8->Option (LO (Int×Bool×List UInt8) (Bool×List UInt8) _)) (0,y15.1,y15.2) fun o20=>
    za (zO (x.1.rules,o20.1,o20.2)) fun y21=>
    some (y21.1,y21.2)
   else
    bif x.1.kind==5 then
     za (Zl fu (([108,97,121,101,114],[]),j8.2.1,j8.2.2)) fun y22=>
     Zd fu (fun(s23:Int×Bool×List UInt8)=>
       bif decide (s23.1<(x.1.names.length:Int))then
        za (geti x.1.names s23.1) fun y24=>
        zZ (X:=Bool×List UInt8) (
          bif decide (s23.1>0)then
           za (zB fu (([44,32],0),s23.2.1,s23.2.2)) fun y25=>
           some (LX.out (y25.1,y25.2))
          else
           some (LX.out (s23.2.1,s23.2.2))) fun j26=>
        za (qf fu (y24,j26.1,j26.2)) fun y27=>
        some (LO.again (w64 (s23.1+1),y27.1,y27.2))
       else
        some (LO.out (s23.2.1,s23.2.2)):Int×Bool×List UInt8->Option (LO (Int×Bool×List UInt8) (Bool×List UInt8) _)) (0,y22.1,y22.2) fun o28=>
     za (zB fu (([59],0),o28.1,o28.2)) fun y29=>
     some (y29.1,y29.2)
    else
     some (j8.2.1,j8.2.2)
def RA(fu:Nat)(zO:List zD×Bool×List UInt8->Option (Bool×List UInt8))(x:List zD×Bool×List UInt8):Option (Bool×List UInt8):=
 bif (x.1.length:Int)==0 then
  za (zB fu (([123,125],0),x.2.1,x.2.2)) fun y1=>
  some (y1.1,y1.2)
 else
  za (zB fu (([123,32],0),x.2.1,x.2.2)) fun y2=>
  Zd fu (fun(s3:Int×Bool×List UInt8)=>
    bif decide (s3.1<(x.1.length:Int))then
     za (geti x.1 s3.1) fun y4=>
     za (YA fu zO ((⟨y4.kind,y4.selectors,y4.decls,(⟨y4.cond.kind,y4.cond.name,y4.cond.num,y4.cond.decl,y4.cond.list⟩:zq),y4.names,y4.rules⟩:zD),s3.2.1,s3.2.2)) fun y5=>
     za (zB fu (([32],0),y5.1,y5.2)) fun y6=>
     some (LO.again (w64 (s3.1+1),y6.1,y6.2))
    else
     some (LO.out (s3.2.1,s3.2.2)):Int×Bool×List UInt8->Option (LO (Int×Bool×List UInt8) (Bool×List UInt8) _)) (0,y2.1,y2.2) fun o7=>
  za (zB fu (([125],0),o7.1,o7.2)) fun y8=>
  some (y8.1,y8.2)
def zO(fu:Nat):List zD×Bool×List UInt8->Option (Bool×List UInt8):=Bd (RA fu) fu
def cz(fu:Nat)(x:zD×Bool):Option (Bool×List UInt8):=
 bif x.1.kind==1 then
  za (Km fu x.1.selectors) fun y1=>
  za (oz fu ((y1.1,y1.2),x.2)) fun y2=>
  bif (x.1.decls.length:Int)==0 then
   za (zB fu (([32,123,125],0),y2.1,y2.2)) fun y3=>
   some (y3.1,y3.2)
  else
   za (zB fu (([32,123,32],0),y2.1,y2.2)) fun y4=>
   za (Yk fu x.1.decls) fun y5=>
   za (zB fu ((y5.1,y5.2),y4.1,y4.2)) fun y6=>
   za (zB fu (([32,125],0),y6.1,y6.2)) fun y7=>
   some (y7.1,y7.2)
 else
  zZ (X:=Bool×Bool×List UInt8) (
    bif x.1.kind==2 then
     some (LX.out (x.1.kind==2,x.2,[]))
    else
     some (LX.out (x.1.kind==3,x.2,[]))) fun j8=>
  bif j8.1 then
   zZ (X:=Str×Bool×List UInt8) (
     bif x.1.kind==3 then
      some (LX.out ([115,117,112,112,111,114,116,115],j8.2.1,j8.2.2))
     else
      some (LX.out ([109,101,100,105,97],j8.2.1,j8.2.2))) fun j9=>
   za (ik fu (⟨x.1.cond.kind,x.1.cond.name,x.1.cond.num,x.1.cond.decl,x.1.cond.list⟩:zq)) fun y10=>
   zZ (X:=Str×Bool×List UInt8) (
     bif !(y10.1==[])then
      need (jc y10.1.length ([32]:Str).length)<|
      some (LX.out (y10.1++([32]:Str),j9.2.1,j9.2.2))
     else
      some (LX.out (y10.1,j9.2.1,j9.2.2))) fun j11=>
   za (Zl fu ((j9.1,[]),j11.2.1,j11.2.2)) fun y12=>
   za (zB fu ((j11.1,y10.2),y12.1,y12.2)) fun y13=>
   za (zO fu (x.1.rules,y13.1,y13.2)) fun y14=>
   some (y14.1,y14.2)
  else
   bif x.1.kind==4 then
    za (Zl fu (([108,97,121,101,114],[]),j8.2.1,j8.2.2)) fun y15=>
    Zd fu (fun(s16:Int×Bool×List UInt8)=>
      bif decide (s16.1<(x.1.names.length:Int))then
       za (geti x.1.names s16.1) fun y17=>
       za (qf fu (y17,s16.2.1,s16.2.2)) fun y18=>
       za (zB fu (([32],0),y18.1,y18.2)) fun y19=>
       some (LO.again (w64 (s16.1+1),y19.1,y19.2))
      else
       some (LO.out (s16.2.1,s16.2.2)):Int×Bool×List UInt8->Option (LO (Int×Bool×List UInt8) (Bool×List UInt8) _)) (0,y15.1,y15.2) fun o20=>
    za (zO fu (x.1.rules,o20.1,o20.2)) fun y21=>
    some (y21.1,y21.2)
   else
    bif x.1.kind==5 then
     za (Zl fu (([108,97,121,101,114],[]),j8.2.1,j8.2.2)) fun y22=>
     Zd fu (fun(s23:Int×Bool×List UInt8)=>
       bif decide (s23.1<(x.1.names.length:Int))then
        za (geti x.1.names s23.1) fun y24=>
        zZ (X:=Bool×List UInt8) (
          bif decide (s23.1>0)then
           za (zB fu (([44,32],0),s23.2.1,s23.2.2)) fun y25=>
           some (LX.out (y25.1,y25.2))
          else
           some (LX.out (s23.2.1,s23.2.2))) fun j26=>
        za (qf fu (y24,j26.1,j26.2)) fun y27=>
        some (LO.again (w64 (s23.1+1),y27.1,y27.2))
       else
        some (LO.out (s23.2.1,s23.2.2)):Int×Bool×List UInt8->Option (LO (Int×Bool×List UInt8) (Bool×List UInt8) _)) (0,y22.1,y22.2) fun o28=>
     za (zB fu (([59],0),o28.1,o28.2)) fun y29=>
     some (y29.1,y29.2)
    else
     some (j8.2.1,j8.2.2)
def Hl(fu:Nat)(x:zD):Option (Str×Int):=
 za (cz fu ((⟨x.kind,x.selectors,x.decls,(⟨x.cond.kind,x.cond.name,x.cond.num,x.cond.decl,x.cond.list⟩:zq),x.names,x.rules⟩:zD),false)) fun y1=>
 za (zU (!y1.1) (ql fu (y1.1,y1.2)) (default:Int)) fun y2=>
 bif bif y1.1 then true else decide (y2>4000)then
  some ([],28)
 else
  za (strW (y1.1,y1.2)) fun y3=>
  some (y3,0)
def yl(fu:Nat)(x:ZL):Option (List Str×Int):=
 za (ng fu x) fun y1=>
 bif y1 != 0 then
  some ([],y1)
 else
  Zd fu (fun(s2:Int×List Str)=>
    bif decide (s2.1<(x.rules.length:Int))then
     za (geti x.rules s2.1) fun y3=>
     za (Hl fu (⟨y3.kind,y3.selectors,y3.decls,(⟨y3.cond.kind,y3.cond.name,y3.cond.num,y3.cond.decl,y3.cond.list⟩:zq),y3.names,y3.rules⟩:zD)) fun y4=>
     bif y4.2 != 0 then
      some (LO.ret ([],y4.2))
     else
      need (zL s2.2.length 1 16)<|
      some (LO.again (w64 (s2.1+1),s2.2++[y4.1]))
    else
     some (LO.out s2.2):Int×List Str->Option (LO (Int×List Str) (List Str) _)) (0,[]) fun o5=>
  some (o5,0)
def kg(fu:Nat)(x:ZL):Option (Str×Int):=
 za (yl fu x) fun y1=>
 bif y1.2 != 0 then
  some ([],y1.2)
 else
  za (Ue (y1.1,[10])) fun y2=>
  bif decide ((y2.length:Int)>4000)then
   some ([],28)
  else
   some (y2,0)
def Z9(fu:Nat)(x:Str×Str):Option Bool:=
 za (jh fu x.1) fun y1=>
 za (kg fu y1.1) fun y2=>
 some (bif bif y1.2==0 then y2.2==0 else false then y2.1==x.2 else false)
def El(fu:Nat)(x:Str):Option (zD×Int):=
 za (Dl fu x) fun y1=>
 bif y1.2 != 0 then
  some ((⟨0,[],[],(⟨0,[],0,(⟨[],[],false⟩:z8),[]⟩:zq),[],[]⟩:zD),y1.2)
 else
  none
def Mq(fu:Nat)(x:Str):Option (zD×Int):=
 za (Im fu x) fun y1=>
 bif y1.1.2 != 0 then
  some ((⟨0,[],[],(⟨0,[],0,(⟨[],[],false⟩:z8),[]⟩:zq),[],[]⟩:zD),y1.1.2)
 else
  bif bif (y1.1.1.length:Int) != 1 then true else y1.2.constructs != 1 then
   some ((⟨0,[],[],(⟨0,[],0,(⟨[],[],false⟩:z8),[]⟩:zq),[],[]⟩:zD),12)
  else
   za (geti y1.1.1 0) fun y2=>
   some ((⟨y2.kind,y2.selectors,y2.decls,(⟨y2.cond.kind,y2.cond.name,y2.cond.num,y2.cond.decl,y2.cond.list⟩:zq),y2.names,y2.rules⟩:zD),0)
def Kq(fu:Nat)(x:Str):Option (zD×Int):=
 za (Qs fu x) fun y1=>
 bif !(y1.2==0)then
  za (El fu x) fun z1=>
  some z1
 else
  za (parseF y1.1) fun y2=>
  bif !(y2.2==0)then
   za (El fu x) fun z1=>
   some z1
  else
   za (Mq fu x) fun z1=>
   some z1
def Dn(fu:Nat)(x:zD):Option Int:=
 za (ul fu [(⟨x.kind,x.selectors,x.decls,(⟨x.cond.kind,x.cond.name,x.cond.num,x.cond.decl,x.cond.list⟩:zq),x.names,x.rules⟩:zD)]) fun y1=>
 some y1
def NI(fu:Nat)(x:List zD):Option (List zD):=
 bif x.isEmpty then
  both (
    some []) (
    need (zL 0 x.length 208)<|
    some x)
 else
  need (zL 0 x.length 208)<|
  some x
def mq(fu:Nat)(x:List zD):Option (List zD):=need (zL 0 x.length 208) (some x)
theorem aT(fu:Nat)(x):Le (mq fu x) (NI fu x):=by
 cases x with
 |nil=> intro y hy;show both (some []) (some [])=some y;unfold both;rw[Ma rfl];exact hy
 |cons a r=>exact .rfl
def VJ(fu:Nat)(x:List zu):Option (List zu):=
 bif x.isEmpty then
  both (
    some []) (
    need (zL 0 x.length 56)<|
    some x)
 else
  need (zL 0 x.length 56)<|
  some x
def QF(fu:Nat)(x:List zu):Option (List zu):=need (zL 0 x.length 56) (some x)
theorem lU(fu:Nat)(x):Le (QF fu x) (VJ fu x):=by
 cases x with
 |nil=> intro y hy;show both (some []) (some [])=some y;unfold both;rw[Ma rfl];exact hy
 |cons a r=>exact .rfl
def bJ(fu:Nat)(x:List zA):Option (List zA):=
 bif x.isEmpty then
  both (
    some []) (
    need (zL 0 x.length 40)<|
    some x)
 else
  need (zL 0 x.length 40)<|
  some x
def Qq(fu:Nat)(x:List zA):Option (List zA):=need (zL 0 x.length 40) (some x)
theorem CV(fu:Nat)(x):Le (Qq fu x) (bJ fu x):=by
 cases x with
 |nil=> intro y hy;show both (some []) (some [])=some y;unfold both;rw[Ma rfl];exact hy
 |cons a r=>exact .rfl
def FJ(fu:Nat)(x:List UInt8):Option (List UInt8):=
 bif x.isEmpty then
  both (
    some []) (
    need (zL 0 x.length 1)<|
    some x)
 else
  need (zL 0 x.length 1)<|
  some x
def Br(fu:Nat)(x:List UInt8):Option (List UInt8):=need (zL 0 x.length 1) (some x)
theorem OU(fu:Nat)(x):Le (Br fu x) (FJ fu x):=by
 cases x with
 |nil=> intro y hy;show both (some []) (some [])=some y;unfold both;rw[Ma rfl];exact hy
 |cons a r=>exact .rfl
def CJ(fu:Nat)(x:List zC):Option (List zC):=
 bif x.isEmpty then
  both (
    some []) (
    need (zL 0 x.length 104)<|
    some x)
 else
  need (zL 0 x.length 104)<|
  some x
def uq(fu:Nat)(x:List zC):Option (List zC):=need (zL 0 x.length 104) (some x)
theorem NU(fu:Nat)(x):Le (uq fu x) (CJ fu x):=by
 cases x with
 |nil=> intro y hy;show both (some []) (some [])=some y;unfold both;rw[Ma rfl];exact hy
 |cons a r=>exact .rfl
def JA(fu:Nat)(Z4:List zu->Option (List zu))(x:List zu):Option (List zu):=
 za (QF fu x) fun y1=>
 Zd fu (fun(s2:Int×List zu)=>
   bif decide (s2.1<(y1.length:Int))then
    need (decide (0<=s2.1)&&decide (s2.1<(s2.2.length:Int)))<|
    za s2.2[s2.1.toNat]? fun y3=>
    za (Qq fu y3.parts) fun y4=>
    za s2.2[s2.1.toNat]? fun y5=>
    za (Br fu y5.combs) fun y6=>
    za s2.2[s2.1.toNat]? fun y7=>
    need (Nat.beq s2.1.toNat (List.take s2.1.toNat s2.2).length)<|
    need (Nat.beq s2.1.toNat (List.take s2.1.toNat s2.2).length)<|
    Zd fu (fun(s8:Int×List zA)=>
      bif decide (s8.1<(y4.length:Int))then
       need (Nat.beq s2.1.toNat (List.take s2.1.toNat s2.2).length)<|
       need (decide (0<=s8.1)&&decide (s8.1<(s8.2.length:Int)))<|
       za s8.2[s8.1.toNat]? fun y9=>
       za (uq fu y9.simples) fun y10=>
       Zd fu (fun(s11:Int×List zC)=>
         bif decide (s11.1<(y10.length:Int))then
          need (decide (0<=s11.1)&&decide (s11.1<(s11.2.length:Int)))<|
          za s11.2[s11.1.toNat]? fun y12=>
          za (Z4 y12.list) fun y13=>
          need (decide (0<=s11.1)&&decide (s11.1<(s11.2.length:Int)))<|
          za s11.2[s11.1.toNat]? fun y14=>
          some (LO.again (w64 (s11.1+1),List.set s11.2 s11.1.toNat (⟨y14.kind,y14.name,y14.op,y14.value,y14.fold,y14.anb,y14.of_,y13⟩:zC)))
         else
          some (LO.out s11.2):Int×List zC->Option (LO (Int×List zC) (List zC) _)) (0,y10) fun o15=>
       need (Nat.beq s2.1.toNat (List.take s2.1.toNat s2.2).length)<|
       need (decide (0<=s8.1)&&decide (s8.1<(s8.2.length:Int)))<|
       za s8.2[s8.1.toNat]? fun y16=>
       some (LO.again (w64 (s8.1+1),List.take s8.1.toNat s8.2++List.cons (⟨y16.tag,o15⟩:zA) (List.drop (s8.1.toNat+1) s8.2)))
      else
       some (LO.out s8.2):Int×List zA->Option (LO (Int×List zA) (List zA) _)) (0,y4) fun o17=>
    some (LO.again (w64 (s2.1+1),List.take s2.1.toNat s2.2++List.cons (⟨y7.lead,o17,y6⟩:zu) (List.drop (s2.1.toNat+1) s2.2)))
   else
    some (LO.out s2.2):Int×List zu->Option (LO (Int×List zu) (List zu) _)) (0,y1) fun o18=>
 some o18
def Z4(fu:Nat):List zu->Option (List zu):=Bd (JA fu) fu
def iI(fu:Nat)(x:List z8):Option (List z8):=
 bif x.isEmpty then
  both (
    some []) (
    need (zL 0 x.length 48)<|
    some x)
 else
  need (zL 0 x.length 48)<|
  some x
def oq(fu:Nat)(x:List z8):Option (List z8):=need (zL 0 x.length 48) (some x)
theorem bT(fu:Nat)(x):Le (oq fu x) (iI fu x):=by
 cases x with
 |nil=> intro y hy;show both (some []) (some [])=some y;unfold both;rw[Ma rfl];exact hy
 |cons a r=>exact .rfl
def uy(fu:Nat)(qj:List ze->Option (List ze))(x:List ze):Option (List ze):=
 za (qy fu x) fun y1=>
 Zd fu (fun(s2:Int×List ze)=>
   bif decide (s2.1<(y1.length:Int))then
    need (decide (0<=s2.1)&&decide (s2.1<(s2.2.length:Int)))<|
    za s2.2[s2.1.toNat]? fun y3=>
    za (qj y3.list) fun y4=>
    need (decide (0<=s2.1)&&decide (s2.1<(s2.2.length:Int)))<|
    za s2.2[s2.1.toNat]? fun y5=>
    some (LO.again (w64 (s2.1+1),List.set s2.2 s2.1.toNat (⟨y5.token,y4⟩:ze)))
   else
    some (LO.out s2.2):Int×List ze->Option (LO (Int×List ze) (List ze) _)) (0,y1) fun o6=>
 some o6
def qj(fu:Nat):List ze->Option (List ze):=Bd (uy fu) fu
def xw(fu:Nat)(x:List z8):Option (List z8):=
 za (oq fu x) fun y1=>
 Zd fu (fun(s2:Int×List z8)=>
   bif decide (s2.1<(y1.length:Int))then
    need (decide (0<=s2.1)&&decide (s2.1<(s2.2.length:Int)))<|
    za s2.2[s2.1.toNat]? fun y3=>
    za (qj fu y3.value) fun y4=>
    need (decide (0<=s2.1)&&decide (s2.1<(s2.2.length:Int)))<|
    za s2.2[s2.1.toNat]? fun y5=>
    some (LO.again (w64 (s2.1+1),List.set s2.2 s2.1.toNat (⟨y5.name,y4,y5.important⟩:z8)))
   else
    some (LO.out s2.2):Int×List z8->Option (LO (Int×List z8) (List z8) _)) (0,y1) fun o6=>
 some o6
def jI(fu:Nat)(x:List zq):Option (List zq):=
 bif x.isEmpty then
  both (
    some []) (
    need (zL 0 x.length 104)<|
    some x)
 else
  need (zL 0 x.length 104)<|
  some x
def pq(fu:Nat)(x:List zq):Option (List zq):=need (zL 0 x.length 104) (some x)
theorem eT(fu:Nat)(x):Le (pq fu x) (jI fu x):=by
 cases x with
 |nil=> intro y hy;show both (some []) (some [])=some y;unfold both;rw[Ma rfl];exact hy
 |cons a r=>exact .rfl
def KA(fu:Nat)(Z0:zq->Option zq)(x:zq):Option zq:=
 za (qj fu x.decl.value) fun y1=>
 za (pq fu x.list) fun y2=>
 Zd fu (fun(s3:Int×List zq)=>
   bif decide (s3.1<(y2.length:Int))then
    need (decide (0<=s3.1)&&decide (s3.1<(s3.2.length:Int)))<|
    za s3.2[s3.1.toNat]? fun y4=>
    za (Z0 (⟨y4.kind,y4.name,y4.num,y4.decl,y4.list⟩:zq)) fun y5=>
    need (decide (0<=s3.1)&&decide (s3.1<(s3.2.length:Int)))<|
    za s3.2[s3.1.toNat]? fun y6=>
    some (LO.again (w64 (s3.1+1),List.set s3.2 s3.1.toNat (⟨y5.kind,y5.name,y5.num,y5.decl,y5.list⟩:zq)))
   else
    some (LO.out s3.2):Int×List zq->Option (LO (Int×List zq) (List zq) _)) (0,y2) fun o7=>
 some (⟨x.kind,x.name,x.num,(⟨x.decl.name,y1,x.decl.important⟩:z8),o7⟩:zq)
def Z0(fu:Nat):zq->Option zq:=Bd (KA fu) fu
def BJ(fu:Nat)(x:List (List Str)):Option (List (List Str)):=
 bif x.isEmpty then
  both (
    some []) (
    need (zL 0 x.length 24)<|
    some x)
 else
  need (zL 0 x.length 24)<|
  some x
def slices_Clone_string(fu:Nat)(x:List (List Str)):Option (List (List Str)):=need (zL 0 x.length 24) (some x)
theorem MU(fu:Nat)(x):Le (slices_Clone_string fu x) (BJ fu x):=by
 cases x with
 |nil=> intro y hy;show both (some []) (some [])=some y;unfold both;rw[Ma rfl];exact hy
 |cons a r=>exact .rfl
def aJ(fu:Nat)(x:List Str):Option (List Str):=
 bif x.isEmpty then
  both (
    some []) (
    need (zL 0 x.length 16)<|
    some x)
 else
  need (zL 0 x.length 16)<|
  some x
def Qr(fu:Nat)(x:List Str):Option (List Str):=need (zL 0 x.length 16) (some x)
theorem iU(fu:Nat)(x):Le (Qr fu x) (aJ fu x):=by
 cases x with
 |nil=> intro y hy;show both (some []) (some [])=some y;unfold both;rw[Ma rfl];exact hy
 |cons a r=>exact .rfl
def Ex(fu:Nat)(QQ:List zD->Option (List zD))(x:List zD):Option (List zD):=
 za (mq fu x) fun y1=>
 Zd fu (fun(s2:Int×List zD)=>
   bif decide (s2.1<(y1.length:Int))then
    need (decide (0<=s2.1)&&decide (s2.1<(s2.2.length:Int)))<|
    za s2.2[s2.1.toNat]? fun y3=>
    za (Z4 fu y3.selectors) fun y4=>
    za s2.2[s2.1.toNat]? fun y5=>
    za (xw fu y5.decls) fun y6=>
    za s2.2[s2.1.toNat]? fun y7=>
    za (Z0 fu (⟨y7.cond.kind,y7.cond.name,y7.cond.num,y7.cond.decl,y7.cond.list⟩:zq)) fun y8=>
    za s2.2[s2.1.toNat]? fun y9=>
    za (QQ y9.rules) fun y10=>
    za s2.2[s2.1.toNat]? fun y11=>
    za (List.set s2.2 s2.1.toNat (⟨y11.kind,y4,y11.decls,(⟨y11.cond.kind,y11.cond.name,y11.cond.num,y11.cond.decl,y11.cond.list⟩:zq),y11.names,y11.rules⟩:zD))[s2.1.toNat]? fun y12=>
    za (List.set (List.set s2.2 s2.1.toNat (⟨y11.kind,y4,y11.decls,(⟨y11.cond.kind,y11.cond.name,y11.cond.num,y11.cond.decl,y11.cond.list⟩:zq),y11.names,y11.rules⟩:zD)) s2.1.toNat (⟨y12.kind,y12.selectors,y6,(⟨y12.cond.kind,y12.cond.name,y12.cond.num,y12.cond.decl,y12.cond.list⟩:zq),y12.names,y12.rules⟩:zD))[s2.1.toNat]? fun y13=>
    za (List.set (List.set (List.set s2.2 s2.1.toNat (⟨y11.kind,y4,y11.decls,(⟨y11.cond.kind,y11.cond.name,y11.cond.num,y11.cond.decl,y11.cond.list⟩:zq),y11.names,y11.rules⟩:zD)) s2.1.toNat (⟨y12.kind,y12.selectors,y6,(⟨y12.cond.kind,y12.cond.name,y12.cond.num,y12.cond.decl,y12.cond.list⟩:zq),y12.names,y12.rules⟩:zD)) s2.1.toNat (⟨y13.kind,y13.selectors,y13.decls,(⟨y8.kind,y8.name,y8.num,y8.decl,y8.list⟩:zq),y13.names,y13.rules⟩:zD))[s2.1.toNat]? fun y14=>
    za (List.set (List.set (List.set (List.set s2.2 s2.1.toNat (⟨y11.kind,y4,y11.decls,(⟨y11.cond.kind,y11.cond.name,y11.cond.num,y11.cond.decl,y11.cond.list⟩:zq),y11.names,y11.rules⟩:zD)) s2.1.toNat (⟨y12.kind,y12.selectors,y6,(⟨y12.cond.kind,y12.cond.name,y12.cond.num,y12.cond.decl,y12.cond.list⟩:zq),y12.names,y12.rules⟩:zD)) s2.1.toNat (⟨y13.kind,y13.selectors,y13.decls,(⟨y8.kind,y8.name,y8.num,y8.decl,y8.list⟩:zq),y13.names,y13.rules⟩:zD)) s2.1.toNat (⟨y14.kind,y14.selectors,y14.decls,(⟨y14.cond.kind,y14.cond.name,y14.cond.num,y14.cond.decl,y14.cond.list⟩:zq),y14.names,y10⟩:zD))[s2.1.toNat]? fun y15=>
    za (slices_Clone_string fu y15.names) fun y16=>
    za (List.set (List.set (List.set (List.set s2.2 s2.1.toNat (⟨y11.kind,y4,y11.decls,(⟨y11.cond.kind,y11.cond.name,y11.cond.num,y11.cond.decl,y11.cond.list⟩:zq),y11.names,y11.rules⟩:zD)) s2.1.toNat (⟨y12.kind,y12.selectors,y6,(⟨y12.cond.kind,y12.cond.name,y12.cond.num,y12.cond.decl,y12.cond.list⟩:zq),y12.names,y12.rules⟩:zD)) s2.1.toNat (⟨y13.kind,y13.selectors,y13.decls,(⟨y8.kind,y8.name,y8.num,y8.decl,y8.list⟩:zq),y13.names,y13.rules⟩:zD)) s2.1.toNat (⟨y14.kind,y14.selectors,y14.decls,(⟨y14.cond.kind,y14.cond.name,y14.cond.num,y14.cond.decl,y14.cond.list⟩:zq),y14.names,y10⟩:zD))[s2.1.toNat]? fun y17=>
    need (Nat.beq s2.1.toNat (List.take s2.1.toNat (List.set (List.set (List.set (List.set s2.2 s2.1.toNat (⟨y11.kind,y4,y11.decls,(⟨y11.cond.kind,y11.cond.name,y11.cond.num,y11.cond.decl,y11.cond.list⟩:zq),y11.names,y11.rules⟩:zD)) s2.1.toNat (⟨y12.kind,y12.selectors,y6,(⟨y12.cond.kind,y12.cond.name,y12.cond.num,y12.cond.decl,y12.cond.list⟩:zq),y12.names,y12.rules⟩:zD)) s2.1.toNat (⟨y13.kind,y13.selectors,y13.decls,(⟨y8.kind,y8.name,y8.num,y8.decl,y8.list⟩:zq),y13.names,y13.rules⟩:zD)) s2.1.toNat (⟨y14.kind,y14.selectors,y14.decls,(⟨y14.cond.kind,y14.cond.name,y14.cond.num,y14.cond.decl,y14.cond.list⟩:zq),y14.names,y10⟩:zD))).length)<|
    Zd fu (fun(s18:Int×List (List Str))=>
      bif decide (s18.1<(y16.length:Int))then
       need (Nat.beq s2.1.toNat (List.take s2.1.toNat (List.set (List.set (List.set (List.set s2.2 s2.1.toNat (⟨y11.kind,y4,y11.decls,(⟨y11.cond.kind,y11.cond.name,y11.cond.num,y11.cond.decl,y11.cond.list⟩:zq),y11.names,y11.rules⟩:zD)) s2.1.toNat (⟨y12.kind,y12.selectors,y6,(⟨y12.cond.kind,y12.cond.name,y12.cond.num,y12.cond.decl,y12.cond.list⟩:zq),y12.names,y12.rules⟩:zD)) s2.1.toNat (⟨y13.kind,y13.selectors,y13.decls,(⟨y8.kind,y8.name,y8.num,y8.decl,y8.list⟩:zq),y13.names,y13.rules⟩:zD)) s2.1.toNat (⟨y14.kind,y14.selectors,y14.decls,(⟨y14.cond.kind,y14.cond.name,y14.cond.num,y14.cond.decl,y14.cond.list⟩:zq),y14.names,y10⟩:zD))).length)<|
       need (Nat.beq s2.1.toNat (List.take s2.1.toNat (List.set (List.set (List.set (List.set s2.2 s2.1.toNat (⟨y11.kind,y4,y11.decls,(⟨y11.cond.kind,y11.cond.name,y11.cond.num,y11.cond.decl,y11.cond.list⟩:zq),y11.names,y11.rules⟩:zD)) s2.1.toNat (⟨y12.kind,y12.selectors,y6,(⟨y12.cond.kind,y12.cond.name,y12.cond.num,y12.cond.decl,y12.cond.list⟩:zq),y12.names,y12.rules⟩:zD)) s2.1.toNat (⟨y13.kind,y13.selectors,y13.decls,(⟨y8.kind,y8.name,y8.num,y8.decl,y8.list⟩:zq),y13.names,y13.rules⟩:zD)) s2.1.toNat (⟨y14.kind,y14.selectors,y14.decls,(⟨y14.cond.kind,y14.cond.name,y14.cond.num,y14.cond.decl,y14.cond.list⟩:zq),y14.names,y10⟩:zD))).length)<|
       need (decide (0<=s18.1)&&decide (s18.1<(s18.2.length:Int)))<|
       za s18.2[s18.1.toNat]? fun y19=>
       za (Qr fu y19) fun y20=>
       need (decide (0<=s18.1)&&decide (s18.1<(s18.2.length:Int)))<|
       za s18.2[s18.1.toNat]? fun y21=>
       some (LO.again (w64 (s18.1+1),List.take s18.1.toNat s18.2++List.cons y20 (List.drop (s18.1.toNat+1) s18.2)))
      else
       some (LO.out s18.2):Int×List (List Str)->Option (LO (Int×List (List Str)) (List (List Str)) _)) (0,y16) fun o22=>
    some (LO.again (w64 (s2.1+1),List.take s2.1.toNat (List.set (List.set (List.set (List.set s2.2 s2.1.toNat (⟨y11.kind,y4,y11.decls,(⟨y11.cond.kind,y11.cond.name,y11.cond.num,y11.cond.decl,y11.cond.list⟩:zq),y11.names,y11.rules⟩:zD)) s2.1.toNat (⟨y12.kind,y12.selectors,y6,(⟨y12.cond.kind,y12.cond.name,y12.cond.num,y12.cond.decl,y12.cond.list⟩:zq),y12.names,y12.rules⟩:zD)) s2.1.toNat (⟨y13.kind,y13.selectors,y13.decls,(⟨y8.kind,y8.name,y8.num,y8.decl,y8.list⟩:zq),y13.names,y13.rules⟩:zD)) s2.1.toNat (⟨y14.kind,y14.selectors,y14.decls,(⟨y14.cond.kind,y14.cond.name,y14.cond.num,y14.cond.decl,y14.cond.list⟩:zq),y14.names,y10⟩:zD))++List.cons (⟨y17.kind,y17.selectors,y17.decls,(⟨y17.cond.kind,y17.cond.name,y17.cond.num,y17.cond.decl,y17.cond.list⟩:zq),o22,y17.rules⟩:zD) (List.drop (s2.1.toNat+1) (List.set (List.set (List.set (List.set s2.2 s2.1.toNat (⟨y11.kind,y4,y11.decls,(⟨y11.cond.kind,y11.cond.name,y11.cond.num,y11.cond.decl,y11.cond.list⟩:zq),y11.names,y11.rules⟩:zD)) s2.1.toNat (⟨y12.kind,y12.selectors,y6,(⟨y12.cond.kind,y12.cond.name,y12.cond.num,y12.cond.decl,y12.cond.list⟩:zq),y12.names,y12.rules⟩:zD)) s2.1.toNat (⟨y13.kind,y13.selectors,y13.decls,(⟨y8.kind,y8.name,y8.num,y8.decl,y8.list⟩:zq),y13.names,y13.rules⟩:zD)) s2.1.toNat (⟨y14.kind,y14.selectors,y14.decls,(⟨y14.cond.kind,y14.cond.name,y14.cond.num,y14.cond.decl,y14.cond.list⟩:zq),y14.names,y10⟩:zD)))))
   else
    some (LO.out s2.2):Int×List zD->Option (LO (Int×List zD) (List zD) _)) (0,y1) fun o23=>
 some o23
def QQ(fu:Nat):List zD->Option (List zD):=Bd (Ex fu) fu
def Qp(fu:Nat)(x:ZL×zD×Int):Option (ZL×Int):=
 za (ng fu x.1) fun y1=>
 za (zU (!(y1 != 0)) (Dn fu (⟨x.2.1.kind,x.2.1.selectors,x.2.1.decls,(⟨x.2.1.cond.kind,x.2.1.cond.name,x.2.1.cond.num,x.2.1.cond.decl,x.2.1.cond.list⟩:zq),x.2.1.names,x.2.1.rules⟩:zD)) (default:Int)) fun y2=>
 bif bif y1 != 0 then true else y2 != 0 then
  some ((⟨[]⟩:ZL),8)
 else
  bif bif decide (x.2.2<0)then true else decide (x.2.2>(x.1.rules.length:Int))then
   some ((⟨[]⟩:ZL),2)
  else
   need (decide (0<=w64 ((x.1.rules.length:Int)+1))&&decide (w64 ((x.1.rules.length:Int)+1)<=w64 ((x.1.rules.length:Int)+1))&&decide (w64 ((x.1.rules.length:Int)+1)*208<=140737488355328)&&decide (w64 ((x.1.rules.length:Int)+1)<=9223372036854775807))<|
   need (decide (0<=x.2.2)&&(decide (x.2.2<=x.2.2)&&decide (x.2.2<=(x.1.rules.length:Int)))&&decide (x.2.2=x.2.2))<|
   need (decide ((List.take x.2.2.toNat x.1.rules).length<=(List.replicate (Int.toNat (w64 ((x.1.rules.length:Int)+1))) (⟨0,[],[],(⟨0,[],0,(⟨[],[],false⟩:z8),[]⟩:zq),[],[]⟩:zD)).length))<|
   need (decide (0<=x.2.2)&&decide (x.2.2<((List.take x.2.2.toNat x.1.rules++List.drop (List.take x.2.2.toNat x.1.rules).length (List.replicate (Int.toNat (w64 ((x.1.rules.length:Int)+1))) (⟨0,[],[],(⟨0,[],0,(⟨[],[],false⟩:z8),[]⟩:zq),[],[]⟩:zD))).length:Int)))<|
   za (List.take x.2.2.toNat x.1.rules++List.drop (List.take x.2.2.toNat x.1.rules).length (List.replicate (Int.toNat (w64 ((x.1.rules.length:Int)+1))) (⟨0,[],[],(⟨0,[],0,(⟨[],[],false⟩:z8),[]⟩:zq),[],[]⟩:zD)))[x.2.2.toNat]? fun y3=>
   need (decide (0<=w64 (x.2.2+1))&&decide (w64 (x.2.2+1)<=((List.set (List.take x.2.2.toNat x.1.rules++List.drop (List.take x.2.2.toNat x.1.rules).length (List.replicate (Int.toNat (w64 ((x.1.rules.length:Int)+1))) (⟨0,[],[],(⟨0,[],0,(⟨[],[],false⟩:z8),[]⟩:zq),[],[]⟩:zD))) x.2.2.toNat (⟨x.2.1.kind,x.2.1.selectors,x.2.1.decls,(⟨x.2.1.cond.kind,x.2.1.cond.name,x.2.1.cond.num,x.2.1.cond.decl,x.2.1.cond.list⟩:zq),x.2.1.names,x.2.1.rules⟩:zD)).length:Int)))<|
   need (decide (0<=x.2.2)&&decide (x.2.2<=(x.1.rules.length:Int)))<|
   need (decide ((List.drop x.2.2.toNat x.1.rules).length<=(List.set (List.take x.2.2.toNat x.1.rules++List.drop (List.take x.2.2.toNat x.1.rules).length (List.replicate (Int.toNat (w64 ((x.1.rules.length:Int)+1))) (⟨0,[],[],(⟨0,[],0,(⟨[],[],false⟩:z8),[]⟩:zq),[],[]⟩:zD))) x.2.2.toNat (⟨x.2.1.kind,x.2.1.selectors,x.2.1.decls,(⟨x.2.1.cond.kind,x.2.1.cond.name,x.2.1.cond.num,x.2.1.cond.decl,x.2.1.cond.list⟩:zq),x.2.1.names,x.2.1.rules⟩:zD)).length - (w64 (x.2.2+1)).toNat)&&decide ((w64 (x.2.2+1)).toNat+((List.set (List.take x.2.2.toNat x.1.rules++List.drop (List.take x.2.2.toNat x.1.rules).length (List.replicate (Int.toNat (w64 ((x.1.rules.length:Int)+1))) (⟨0,[],[],(⟨0,[],0,(⟨[],[],false⟩:z8),[]⟩:zq),[],[]⟩:zD))) x.2.2.toNat (⟨x.2.1.kind,x.2.1.selectors,x.2.1.decls,(⟨x.2.1.cond.kind,x.2.1.cond.name,x.2.1.cond.num,x.2.1.cond.decl,x.2.1.cond.list⟩:zq),x.2.1.names,x.2.1.rules⟩:zD)).length - (w64 (x.2.2+1)).toNat)<=(List.set (List.take x.2.2.toNat x.1.rules++List.drop (List.take x.2.2.toNat x.1.rules).length (List.replicate (Int.toNat (w64 ((x.1.rules.length:Int)+1))) (⟨0,[],[],(⟨0,[],0,(⟨[],[],false⟩:z8),[]⟩:zq),[],[]⟩:zD))) x.2.2.toNat (⟨x.2.1.kind,x.2.1.selectors,x.2.1.decls,(⟨x.2.1.cond.kind,x.2.1.cond.name,x.2.1.cond.num,x.2.1.cond.decl,x.2.1.cond.list⟩:zq),x.2.1.names,x.2.1.rules⟩:zD)).length))<|
   za (ng fu (⟨List.take (w64 (x.2.2+1)).toNat (List.set (List.take x.2.2.toNat x.1.rules++List.drop (List.take x.2.2.toNat x.1.rules).length (List.replicate (Int.toNat (w64 ((x.1.rules.length:Int)+1))) (⟨0,[],[],(⟨0,[],0,(⟨[],[],false⟩:z8),[]⟩:zq),[],[]⟩:zD))) x.2.2.toNat (⟨x.2.1.kind,x.2.1.selectors,x.2.1.decls,(⟨x.2.1.cond.kind,x.2.1.cond.name,x.2.1.cond.num,x.2.1.cond.decl,x.2.1.cond.list⟩:zq),x.2.1.names,x.2.1.rules⟩:zD))++List.drop x.2.2.toNat x.1.rules++List.drop ((w64 (x.2.2+1)).toNat+(List.drop x.2.2.toNat x.1.rules).length) (List.set (List.take x.2.2.toNat x.1.rules++List.drop (List.take x.2.2.toNat x.1.rules).length (List.replicate (Int.toNat (w64 ((x.1.rules.length:Int)+1))) (⟨0,[],[],(⟨0,[],0,(⟨[],[],false⟩:z8),[]⟩:zq),[],[]⟩:zD))) x.2.2.toNat (⟨x.2.1.kind,x.2.1.selectors,x.2.1.decls,(⟨x.2.1.cond.kind,x.2.1.cond.name,x.2.1.cond.num,x.2.1.cond.decl,x.2.1.cond.list⟩:zq),x.2.1.names,x.2.1.rules⟩:zD))⟩:ZL)) fun y4=>
   bif y4 != 0 then
    some ((⟨[]⟩:ZL),18)
   else
    za (QQ fu (List.take (w64 (x.2.2+1)).toNat (List.set (List.take x.2.2.toNat x.1.rules++List.drop (List.take x.2.2.toNat x.1.rules).length (List.replicate (Int.toNat (w64 ((x.1.rules.length:Int)+1))) (⟨0,[],[],(⟨0,[],0,(⟨[],[],false⟩:z8),[]⟩:zq),[],[]⟩:zD))) x.2.2.toNat (⟨x.2.1.kind,x.2.1.selectors,x.2.1.decls,(⟨x.2.1.cond.kind,x.2.1.cond.name,x.2.1.cond.num,x.2.1.cond.decl,x.2.1.cond.list⟩:zq),x.2.1.names,x.2.1.rules⟩:zD))++List.drop x.2.2.toNat x.1.rules++List.drop ((w64 (x.2.2+1)).toNat+(List.drop x.2.2.toNat x.1.rules).length) (List.set (List.take x.2.2.toNat x.1.rules++List.drop (List.take x.2.2.toNat x.1.rules).length (List.replicate (Int.toNat (w64 ((x.1.rules.length:Int)+1))) (⟨0,[],[],(⟨0,[],0,(⟨[],[],false⟩:z8),[]⟩:zq),[],[]⟩:zD))) x.2.2.toNat (⟨x.2.1.kind,x.2.1.selectors,x.2.1.decls,(⟨x.2.1.cond.kind,x.2.1.cond.name,x.2.1.cond.num,x.2.1.cond.decl,x.2.1.cond.list⟩:zq),x.2.1.names,x.2.1.rules⟩:zD)))) fun y5=>
    some ((⟨y5⟩:ZL),0)
def Fj(fu:Nat)(x:ZL×Int):Option (ZL×Int):=
 za (ng fu x.1) fun y1=>
 bif y1 != 0 then
  some ((⟨[]⟩:ZL),y1)
 else
  bif bif decide (x.2<0)then true else decide (x.2>=(x.1.rules.length:Int))then
   some ((⟨[]⟩:ZL),2)
  else
   need (decide (0<=x.2)&&(decide (x.2<=x.2)&&decide (x.2<=(x.1.rules.length:Int)))&&decide (x.2=x.2))<|
   need (decide (0<=w64 (x.2+1))&&decide (w64 (x.2+1)<=(x.1.rules.length:Int)))<|
   need (zL (List.take x.2.toNat x.1.rules).length (List.drop (w64 (x.2+1)).toNat x.1.rules).length 208)<|
   za (QQ fu (List.take x.2.toNat x.1.rules++List.drop (w64 (x.2+1)).toNat x.1.rules)) fun y2=>
   some ((⟨y2⟩:ZL),0)
def Aq(fu:Nat)(x:zD):Option (Str×Int):=
 za (Dn fu (⟨x.kind,x.selectors,x.decls,(⟨x.cond.kind,x.cond.name,x.cond.num,x.cond.decl,x.cond.list⟩:zq),x.names,x.rules⟩:zD)) fun y1=>
 bif y1 != 0 then
  some ([],y1)
 else
  za (Hl fu (⟨x.kind,x.selectors,x.decls,(⟨x.cond.kind,x.cond.name,x.cond.num,x.cond.decl,x.cond.list⟩:zq),x.names,x.rules⟩:zD)) fun y2=>
  some (y2.1,y2.2)
def Pw(fu:Nat)(x:Unit):Option Bool:=
 za (Z9 fu ([65,62,66,123,99,58,100,59,69,58,102,125,64,109,101,100,105,97,123,125,64,108,97,121,101,114,32,120,46,121,123,122,123,125,125],[97,32,62,32,98,32,123,32,99,58,32,100,59,32,101,58,32,102,32,125,10,64,109,101,100,105,97,32,123,125,10,64,108,97,121,101,114,32,120,46,121,32,123,32,122,32,123,125,32,125])) fun y1=>
 some y1
def rz(fu:Nat)(x:Unit):Option Bool:=
 za (Z9 fu ([],[])) fun y1=>
 za (zU y1 (Z9 fu ([97,123,125],[97,32,123,125])) (default:Bool)) fun y2=>
 za (zU (bif y1 then y2 else false) (Z9 fu ([64,109,101,100,105,97,32,115,99,114,101,101,110,32,97,110,100,32,40,109,105,110,45,119,105,100,116,104,58,49,112,120,41,44,112,114,105,110,116,123,97,123,98,58,99,125,100,123,125,125],[64,109,101,100,105,97,32,115,99,114,101,101,110,32,97,110,100,32,40,109,105,110,45,119,105,100,116,104,58,32,49,112,120,41,44,32,112,114,105,110,116,32,123,32,97,32,123,32,98,58,32,99,32,125,32,100,32,123,125,32,125])) (default:Bool)) fun y3=>
 za (zU (bif bif y1 then y2 else false then y3 else false) (Z9 fu ([64,115,117,112,112,111,114,116,115,32,40,97,58,98,41,123,64,108,97,121,101,114,32,99,59,125],[64,115,117,112,112,111,114,116,115,32,40,97,58,32,98,41,32,123,32,64,108,97,121,101,114,32,99,59,32,125])) (default:Bool)) fun y4=>
 za (zU (bif bif bif y1 then y2 else false then y3 else false then y4 else false) (Z9 fu ([64,108,97,121,101,114,123,64,108,97,121,101,114,32,100,46,92,51,49,32,101,123,125,125],[64,108,97,121,101,114,32,123,32,64,108,97,121,101,114,32,100,46,92,51,49,32,101,32,123,125,32,125])) (default:Bool)) fun y5=>
 za (zU (bif bif bif bif y1 then y2 else false then y3 else false then y4 else false then y5 else false) (Z9 fu ([64,108,97,121,101,114,32,97,32,44,32,98,32,46,32,99,44,92,46,100,59,64,108,97,121,101,114,32,102],[64,108,97,121,101,114,32,102,59])) (default:Bool)) fun y6=>
 za (zU (bif bif bif bif bif y1 then y2 else false then y3 else false then y4 else false then y5 else false then y6 else false) (Z9 fu ([64,108,97,121,101,114,32,97,32,44,32,98,46,99,44,92,46,100],[64,108,97,121,101,114,32,97,44,32,98,46,99,44,32,92,46,100,59])) (default:Bool)) fun y7=>
 za (zU (bif bif bif bif bif bif y1 then y2 else false then y3 else false then y4 else false then y5 else false then y6 else false then y7 else false) (Z9 fu ([46,120,123,45,45,89,58,59,122,58,49,33,105,109,112,111,114,116,97,110,116,125],[46,120,32,123,32,45,45,89,58,32,59,32,122,58,32,49,32,33,105,109,112,111,114,116,97,110,116,32,125])) (default:Bool)) fun y8=>
 za (jh fu [97,123,125,98,123,125,99,123,125]) fun y9=>
 za (Kq fu [100,123,125]) fun y10=>
 bif bif bif y9.2 != 0 then true else y10.2 != 0 then true else(y9.1.rules.length:Int) != 3 then
  some false
 else
  za (Qp fu (y9.1,(⟨y10.1.kind,y10.1.selectors,y10.1.decls,(⟨y10.1.cond.kind,y10.1.cond.name,y10.1.cond.num,y10.1.cond.decl,y10.1.cond.list⟩:zq),y10.1.names,y10.1.rules⟩:zD),0)) fun y11=>
  za (Qp fu (y9.1,(⟨y10.1.kind,y10.1.selectors,y10.1.decls,(⟨y10.1.cond.kind,y10.1.cond.name,y10.1.cond.num,y10.1.cond.decl,y10.1.cond.list⟩:zq),y10.1.names,y10.1.rules⟩:zD),3)) fun y12=>
  za (kg fu y11.1) fun y13=>
  za (kg fu y12.1) fun y14=>
  za (Fj fu (y9.1,1)) fun y15=>
  za (kg fu y15.1) fun y16=>
  za (Qp fu (y9.1,(⟨y10.1.kind,y10.1.selectors,y10.1.decls,(⟨y10.1.cond.kind,y10.1.cond.name,y10.1.cond.num,y10.1.cond.decl,y10.1.cond.list⟩:zq),y10.1.names,y10.1.rules⟩:zD),4)) fun y17=>
  za (Qp fu (y9.1,(⟨y10.1.kind,y10.1.selectors,y10.1.decls,(⟨y10.1.cond.kind,y10.1.cond.name,y10.1.cond.num,y10.1.cond.decl,y10.1.cond.list⟩:zq),y10.1.names,y10.1.rules⟩:zD),(-1))) fun y18=>
  za (Fj fu (y9.1,3)) fun y19=>
  za (Fj fu (y9.1,(-1))) fun y20=>
  za (Qp fu (y9.1,(⟨0,[],[],(⟨0,[],0,(⟨[],[],false⟩:z8),[]⟩:zq),[],[]⟩:zD),(-1))) fun y21=>
  za (Qp fu ((⟨[(⟨0,[],[],(⟨0,[],0,(⟨[],[],false⟩:z8),[]⟩:zq),[],[]⟩:zD)]⟩:ZL),(⟨y10.1.kind,y10.1.selectors,y10.1.decls,(⟨y10.1.cond.kind,y10.1.cond.name,y10.1.cond.num,y10.1.cond.decl,y10.1.cond.list⟩:zq),y10.1.names,y10.1.rules⟩:zD),(-1))) fun y22=>
  za (Fj fu ((⟨[(⟨0,[],[],(⟨0,[],0,(⟨[],[],false⟩:z8),[]⟩:zq),[],[]⟩:zD)]⟩:ZL),(-1))) fun y23=>
  za (yl fu (⟨[(⟨0,[],[],(⟨0,[],0,(⟨[],[],false⟩:z8),[]⟩:zq),[],[]⟩:zD)]⟩:ZL)) fun y24=>
  za (kg fu (⟨[(⟨0,[],[],(⟨0,[],0,(⟨[],[],false⟩:z8),[]⟩:zq),[],[]⟩:zD)]⟩:ZL)) fun y25=>
  za (Aq fu (⟨0,[],[],(⟨0,[],0,(⟨[],[],false⟩:z8),[]⟩:zq),[],[]⟩:zD)) fun y26=>
  Zd fu (fun(s27:Str×Int)=>
    bif decide (s27.2<64)then
     need (jc s27.1.length ([97,123,125]:Str).length)<|
     some (LO.again (s27.1++([97,123,125]:Str),w64 (s27.2+1)))
    else
     some (LO.out s27.1):Str×Int->Option (LO (Str×Int) (Str) _)) ([],0) fun o28=>
  za (jh fu o28) fun y29=>
  za (Qp fu (y29.1,(⟨y10.1.kind,y10.1.selectors,y10.1.decls,(⟨y10.1.cond.kind,y10.1.cond.name,y10.1.cond.num,y10.1.cond.decl,y10.1.cond.list⟩:zq),y10.1.names,y10.1.rules⟩:zD),0)) fun y30=>
  Zd fu (fun(s31:Int×List UInt8)=>
    bif decide (s31.1<64)then
     need (decide (0<=s31.1)&&decide (s31.1<(s31.2.length:Int)))<|
     za s31.2[s31.1.toNat]? fun y32=>
     some (LO.again (w64 (s31.1+1),List.set s31.2 s31.1.toNat (33:UInt8)))
    else
     some (LO.out s31.2):Int×List UInt8->Option (LO (Int×List UInt8) (List UInt8) _)) (0,List.replicate (Int.toNat 64) (0:UInt8)) fun o33=>
  Zd fu (fun(s34:Int×(List zA×Str×List zA)×List zC)=>
    bif decide (s34.1<40)then
     need (decide (0<((0+1+0:Nat):Int)))<|
     need (decide (0<((0+1+0:Nat):Int)))<|
     need (decide (0<((s34.2.1.1.length+1+s34.2.1.2.2.length:Nat):Int)))<|
     need (Nat.beq 0 s34.2.1.1.length)<|
     need (zL s34.2.2.length 1 104)<|
     need (decide (0<((s34.2.1.1.length+1+s34.2.1.2.2.length:Nat):Int)))<|
     need (Nat.beq 0 s34.2.1.1.length)<|
     some (LO.again (w64 (s34.1+1),(s34.2.1.1,s34.2.1.2.1,s34.2.1.2.2),s34.2.2++[(⟨2,o33,0,[],false,(⟨0,0⟩:VAnb),false,[]⟩:zC)]))
    else
     some (LO.out ((s34.2.1.1,s34.2.1.2.1,s34.2.1.2.2),s34.2.2)):Int×(List zA×Str×List zA)×List zC->Option (LO (Int×(List zA×Str×List zA)×List zC) ((List zA×Str×List zA)×List zC) _)) (0,([],[],[]),[]) fun o35=>
  za (Aq fu (⟨y10.1.kind,[(⟨0,o35.1.1++List.cons (⟨o35.1.2.1,o35.2⟩:zA) o35.1.2.2,[]⟩:zu)],y10.1.decls,(⟨y10.1.cond.kind,y10.1.cond.name,y10.1.cond.num,y10.1.cond.decl,y10.1.cond.list⟩:zq),y10.1.names,y10.1.rules⟩:zD)) fun y36=>
  za (zU (bif bif bif bif bif bif bif bif bif bif bif bif bif bif bif bif bif bif bif bif bif y1 then y2 else false then y3 else false then y4 else false then y5 else false then y6 else false then y7 else false then y8 else false then bif bif bif bif bif bif bif bif y11.2==0 then y12.2==0 else false then y13.2==0 else false then y14.2==0 else false then y13.1==[100,32,123,125,10,97,32,123,125,10,98,32,123,125,10,99,32,123,125]else false then y14.1==[97,32,123,125,10,98,32,123,125,10,99,32,123,125,10,100,32,123,125]else false then y15.2==0 else false then y16.2==0 else false then y16.1==[97,32,123,125,10,99,32,123,125]else false else false then y17.2==2 else false then y18.2==2 else false then y19.2==2 else false then y20.2==2 else false then y21.2==8 else false then y22.2==8 else false then y23.2==8 else false then y24.2==8 else false then y25.2==8 else false then y26.2==8 else false then y29.2==0 else false then y30.2==18 else false then y36.2==28 else false) (Pw fu ()) (default:Bool)) fun y37=>
  some (bif bif bif bif bif bif bif bif bif bif bif bif bif bif bif bif bif bif bif bif bif bif y1 then y2 else false then y3 else false then y4 else false then y5 else false then y6 else false then y7 else false then y8 else false then bif bif bif bif bif bif bif bif y11.2==0 then y12.2==0 else false then y13.2==0 else false then y14.2==0 else false then y13.1==[100,32,123,125,10,97,32,123,125,10,98,32,123,125,10,99,32,123,125]else false then y14.1==[97,32,123,125,10,98,32,123,125,10,99,32,123,125,10,100,32,123,125]else false then y15.2==0 else false then y16.2==0 else false then y16.1==[97,32,123,125,10,99,32,123,125]else false else false then y17.2==2 else false then y18.2==2 else false then y19.2==2 else false then y20.2==2 else false then y21.2==8 else false then y22.2==8 else false then y23.2==8 else false then y24.2==8 else false then y25.2==8 else false then y26.2==8 else false then y29.2==0 else false then y30.2==18 else false then y36.2==28 else false then y37 else false)
end Go.Lv.VT
end
