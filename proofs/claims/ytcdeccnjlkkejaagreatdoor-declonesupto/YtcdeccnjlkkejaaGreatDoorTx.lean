/- Texts. -/
import Derived.Test.YtcdeccnjlkkejaaGreatDoorTy
import Derived.Test.YtcdeccnjlkkejaaGreatDoorLf
noncomputable section
set_option linter.unusedSimpArgs false
set_option linter.unusedVariables false
namespace Go.Lv.VT
set_option maxRecDepth 100000
def Po(qi:List zb×Int->Option Int)(x:List zb×Int):Option Int:=
 ZG (fun(s1:Int×Int)=>
   bif bif decide (s1.2<(x.1.length:Int))then decide (s1.1<=x.2)else false then
    ze (geti x.1 s1.2) fun y2=>
    ze (geti x.1 s1.2) fun y3=>
    ze (geti x.1 s1.2) fun y4=>
    ze (qi (y4.list,w64 (x.2 - s1.1))) fun y5=>
    some (LO.again (w64 (s1.1+w64 (w64 (w64 (1+(y2.token.text.length:Int))+(y3.token.unit.length:Int))+y5)),w64 (s1.2+1)))
   else
    some (LO.out s1.1):Int×Int->Option (LO (Int×Int) (Int) _)) (0,0) fun o6=>
 some o6
def qi:List zb×Int->Option Int:=recE (Po)
def qL(x:Int):Option Int:=
 bif x==19 then
  some 20
 else
  zO (X:=Bool) (
    bif x==21 then
     some (LX.out (x==21))
    else
     some (LX.out (x==2))) fun j1=>
  bif j1 then
   some 22
  else
   bif x==23 then
    some 24
   else
    some 0
def Hy(qE:List zb->Option Int)(x:List zb):Option Int:=
 ZG (fun(s1:Int×Int)=>
   bif decide (s1.2<(x.length:Int))then
    zO (X:=Int×Int) (
      ze (geti x s1.2) fun y2=>
      ze (qL y2.token.kind) fun y3=>
      bif y3 != 0 then
       ze (geti x s1.2) fun y4=>
       ze (qE y4.list) fun y5=>
       some (LX.out (if w64 (1+y5)>s1.1 then w64 (1+y5)else s1.1,s1.2))
      else
       some (LX.out (s1.1,s1.2))) fun j6=>
    some (LO.again (j6.1,w64 (j6.2+1)))
   else
    some (LO.out s1.1):Int×Int->Option (LO (Int×Int) (Int) _)) (0,0) fun o7=>
 some o7
def qE:List zb->Option Int:=recE (Hy)
def Yt(x:List zb):Option Bool:=
 ze (qi (x,300)) fun y1=>
 ze (zy (!(decide (y1>300))) (qE x) (default:Int)) fun y2=>
 some (bif decide (y1>300)then true else decide (y2>40))
def Ty(qc:List zb->Option (List zg))(x:List zb):Option (List zg):=
 ZG (fun(s1:Int×List zg)=>
   bif decide (s1.1<(x.length:Int))then
    zO (X:=Int×List zg) (
      ze (geti x s1.1) fun y2=>
      need (zB s1.2.length 1 56)<|
      ze (geti x s1.1) fun y3=>
      ze (qL y3.token.kind) fun y4=>
      bif y4 != 0 then
       ze (geti x s1.1) fun y5=>
       ze (qc y5.list) fun y6=>
       need (zB (s1.2++[y2.token]).length y6.length 56)<|
       need (zB (s1.2++[y2.token]++y6).length 1 56)<|
       some (LX.out (s1.1,s1.2++[y2.token]++y6++[(⟨y4,[],0,[],false⟩:zg)]))
      else
       some (LX.out (s1.1,s1.2++[y2.token]))) fun j7=>
    some (LO.again (w64 (j7.1+1),j7.2))
   else
    some (LO.out s1.2):Int×List zg->Option (LO (Int×List zg) (List zg) _)) (0,[]) fun o8=>
 some o8
def qc:List zb->Option (List zg):=recE (Ty)
def Sy(qd:List zb×Int->Option Bool)(x:List zb×Int):Option Bool:=
 ZG (fun(s1:Int)=>
   bif decide (s1<(x.1.length:Int))then
    ze (geti x.1 s1) fun y2=>
    ze (qL y2.token.kind) fun y3=>
    ze (zy (y3==0) (geti x.1 s1) (default:zb)) fun y4=>
    ze (zy (x.2 != 0&& !(bif y3==0 then decide ((y4.list.length:Int)>0)else false)) (geti x.1 s1) (default:zb)) fun y5=>
    ze (zy (y3 != 0&& !(bif bif y3==0 then decide ((y4.list.length:Int)>0)else false then true else bif x.2 != 0 then y5.token.kind==x.2 else false)) (geti x.1 s1) (default:zb)) fun y6=>
    ze (zy (y3 != 0&& !(bif bif y3==0 then decide ((y4.list.length:Int)>0)else false then true else bif x.2 != 0 then y5.token.kind==x.2 else false)) (qd (y6.list,y3)) (default:Bool)) fun y7=>
    bif bif bif bif y3==0 then decide ((y4.list.length:Int)>0)else false then true else bif x.2 != 0 then y5.token.kind==x.2 else false then true else bif y3 != 0 then !y7 else false then
     some (LO.ret false)
    else
     some (LO.again (w64 (s1+1)))
   else
    some (LO.out ()):Int->Option (LO (Int) (Unit) _)) 0 fun o8=>
 some true
def qd:List zb×Int->Option Bool:=recE (Sy)
def ut(x:List zb):Option Int:=
 ze (qE x) fun y1=>
 bif decide (y1>16)then
  some 20
 else
  ze (qc x) fun y2=>
  bif decide ((y2.length:Int)>1500)then
   some 4
  else
   ze (qd (x,0)) fun y3=>
   bif !y3 then
    some 8
   else
    some 0
def stringslite_HasPrefix(x:Str×Str):Option Bool:=
 need (decide (0<=(x.2.length:Int))&&decide ((x.2.length:Int)<=(x.1.length:Int))|| !(decide ((x.1.length:Int)>=(x.2.length:Int))))<|
 some (bif decide ((x.1.length:Int)>=(x.2.length:Int))then List.take x.2.length x.1==x.2 else false)
def strings_HasPrefix(x:Str×Str):Option Bool:=
 ze (stringslite_HasPrefix (x.1,x.2)) fun y1=>
 some y1
def Zp(x:za):Option za:=
 ZG (fun(s1:za)=>
   need (decide (0<=s1.at_)&&decide (s1.at_<=(s1.s.length:Int)))<|
   ze (strings_HasPrefix (List.drop s1.at_.toNat s1.s,[47,42])) fun y2=>
   bif y2 then
    need (decide (0<=w64 (s1.at_+2))&&decide (w64 (s1.at_+2)<=(s1.s.length:Int)))<|
    ze (Pj (List.drop (w64 (s1.at_+2)).toNat s1.s,[42,47])) fun y3=>
    bif decide (y3<0)then
     some (LO.ret (⟨s1.s,(s1.s.length:Int)⟩:za))
    else
     some (LO.again (⟨s1.s,w64 (s1.at_+w64 (y3+4))⟩:za))
   else
    some (LO.out s1):za->Option (LO (za) (za) _)) x fun o4=>
 some o4
def zf(x:Int×za):Option Int:=
 bif decide (w64 (x.2.at_+x.1)<(x.2.s.length:Int))then
  ze (geti x.2.s (w64 (x.2.at_+x.1))) fun y1=>
  some (w64 (y1.toNat:Int))
 else
  some (-1)
def Zk(x:Int):Option Bool:=
 some (bif bif x==32 then true else x==9 then true else x==10)
def zN(x:za):Option za:=
 ZG (fun(s1:za)=>
   ze (zf (0,s1)) fun y2=>
   ze (Zk y2) fun y3=>
   bif y3 then
    some (LO.again (⟨s1.s,w64 (s1.at_+1)⟩:za))
   else
    some (LO.out s1):za->Option (LO (za) (za) _)) x fun o4=>
 some o4
def qV(x:Int):Option (List UInt8):=
 bif decide (wu32 x<=2047)then
  ze (qg (ibOr IntKind.u8 192 (wu8 (Ph IntKind.i32 x 6)))) fun y1=>
  ze (qg (ibOr IntKind.u8 128 (Rh IntKind.u8 (wu8 x) 63))) fun y2=>
  need (zB 0 2 1)<|
  some [y1,y2]
 else
  zO (X:=Bool) (
    bif decide (wu32 x<55296)then
     some (LX.out (decide (wu32 x<55296)))
    else
     some (LX.out (bif decide (57343<wu32 x)then decide (wu32 x<=65535)else false))) fun j3=>
  bif j3 then
   ze (qg (ibOr IntKind.u8 224 (wu8 (Ph IntKind.i32 x 12)))) fun y4=>
   ze (qg (ibOr IntKind.u8 128 (Rh IntKind.u8 (wu8 (Ph IntKind.i32 x 6)) 63))) fun y5=>
   ze (qg (ibOr IntKind.u8 128 (Rh IntKind.u8 (wu8 x) 63))) fun y6=>
   need (zB 0 3 1)<|
   some [y4,y5,y6]
  else
   bif bif decide (wu32 x>65535)then decide (wu32 x<=1114111)else false then
    ze (qg (ibOr IntKind.u8 240 (wu8 (Ph IntKind.i32 x 18)))) fun y7=>
    ze (qg (ibOr IntKind.u8 128 (Rh IntKind.u8 (wu8 (Ph IntKind.i32 x 12)) 63))) fun y8=>
    ze (qg (ibOr IntKind.u8 128 (Rh IntKind.u8 (wu8 (Ph IntKind.i32 x 6)) 63))) fun y9=>
    ze (qg (ibOr IntKind.u8 128 (Rh IntKind.u8 (wu8 x) 63))) fun y10=>
    need (zB 0 4 1)<|
    some [y7,y8,y9,y10]
   else
    need (zB 0 3 1)<|
    some [(239:UInt8),(191:UInt8),(189:UInt8)]
def qj(x:Int):Option (List UInt8):=
 bif decide (wu32 x<=127)then
  ze (qg (wu8 x)) fun y1=>
  need (zB 0 1 1)<|
  some [y1]
 else
  ze (qV x) fun y2=>
  some y2
def qf(x:Int×Int×Int):Option Bool:=
 some (bif decide (x.2.1<=x.1)then decide (x.1<=x.2.2)else false)
def Zt(x:Int):Option Bool:=
 ze (qf (x,48,57)) fun y1=>
 some y1
def QR(x:Int):Option Int:=
 ze (Zt x) fun y1=>
 bif y1 then
  some (w64 (x - 48))
 else
  ze (zy (x != (-1)) (qf (ibOr IntKind.i64 x 32,97,102)) (default:Bool)) fun y2=>
  bif bif bif bif x != (-1)then y2 else false then decide (x>64)else false then decide (x<128)else false then
   some (w64 (w64 (ibOr IntKind.i64 x 32 - 97)+10))
  else
   some (-1)
def Zy(x:za):Option (za×List UInt8):=
 ze (zf (0,(⟨x.s,w64 (x.at_+1)⟩:za))) fun y1=>
 bif y1==(-1)then
  ze (qj 65533) fun y2=>
  some ((⟨x.s,w64 (x.at_+1)⟩:za),y2)
 else
  ze (QR y1) fun y3=>
  bif decide (y3<0)then
   ze (qg (wu8 y1)) fun y4=>
   need (zB 0 1 1)<|
   some ((⟨x.s,w64 (w64 (x.at_+1)+1)⟩:za),[y4])
  else
   ZG (fun(s5:(Int×Int)×za)=>
     bif decide (s5.1.2<6)then
      ze (zf (0,s5.2)) fun y6=>
      ze (QR y6) fun y7=>
      bif decide (y7<0)then
       some (LO.out (s5.1.1,s5.2))
      else
       some (LO.again ((ibOr IntKind.i64 (fu IntKind.i64 s5.1.1 4) y7,w64 (s5.1.2+1)),(⟨s5.2.s,w64 (s5.2.at_+1)⟩:za)))
     else
      some (LO.out (s5.1.1,s5.2)):(Int×Int)×za->Option (LO ((Int×Int)×za) (Int×za) _)) ((0,0),(⟨x.s,w64 (x.at_+1)⟩:za)) fun o8=>
   zO (X:=Int×za) (
     ze (zf (0,o8.2)) fun y9=>
     ze (Zk y9) fun y10=>
     bif y10 then
      some (LX.out (o8.1,(⟨o8.2.s,w64 (o8.2.at_+1)⟩:za)))
     else
      some (LX.out (o8.1,o8.2))) fun j11=>
   zO (X:=Int) (
     bif j11.1==0 then
      some (LX.out 65533)
     else
      some (LX.out j11.1)) fun j12=>
   ze (qj (w32 j12)) fun y13=>
   some (j11.2,y13)
def qW(x:Int×List UInt8):Option (List UInt8):=
 bif decide (wu32 x.1<=2047)then
  ze (qg (ibOr IntKind.u8 192 (wu8 (Ph IntKind.i32 x.1 6)))) fun y1=>
  ze (qg (ibOr IntKind.u8 128 (Rh IntKind.u8 (wu8 x.1) 63))) fun y2=>
  need (zB x.2.length 2 1)<|
  some (x.2++[y1,y2])
 else
  zO (X:=Bool×List UInt8) (
    bif decide (wu32 x.1<55296)then
     some (LX.out (decide (wu32 x.1<55296),x.2))
    else
     some (LX.out (bif decide (57343<wu32 x.1)then decide (wu32 x.1<=65535)else false,x.2))) fun j3=>
  bif j3.1 then
   ze (qg (ibOr IntKind.u8 224 (wu8 (Ph IntKind.i32 x.1 12)))) fun y4=>
   ze (qg (ibOr IntKind.u8 128 (Rh IntKind.u8 (wu8 (Ph IntKind.i32 x.1 6)) 63))) fun y5=>
   ze (qg (ibOr IntKind.u8 128 (Rh IntKind.u8 (wu8 x.1) 63))) fun y6=>
   need (zB j3.2.length 3 1)<|
   some (j3.2++[y4,y5,y6])
  else
   bif bif decide (wu32 x.1>65535)then decide (wu32 x.1<=1114111)else false then
    ze (qg (ibOr IntKind.u8 240 (wu8 (Ph IntKind.i32 x.1 18)))) fun y7=>
    ze (qg (ibOr IntKind.u8 128 (Rh IntKind.u8 (wu8 (Ph IntKind.i32 x.1 12)) 63))) fun y8=>
    ze (qg (ibOr IntKind.u8 128 (Rh IntKind.u8 (wu8 (Ph IntKind.i32 x.1 6)) 63))) fun y9=>
    ze (qg (ibOr IntKind.u8 128 (Rh IntKind.u8 (wu8 x.1) 63))) fun y10=>
    need (zB j3.2.length 4 1)<|
    some (j3.2++[y7,y8,y9,y10])
   else
    need (zB j3.2.length 3 1)<|
    some (j3.2++[(239:UInt8),(191:UInt8),(189:UInt8)])
def ql(x:Int×List UInt8):Option (List UInt8):=
 bif decide (wu32 x.1<=127)then
  ze (qg (wu8 x.1)) fun y1=>
  need (zB x.2.length 1 1)<|
  some (x.2++[y1])
 else
  ze (qW (x.1,x.2)) fun y2=>
  some y2
def zD(x:za×List UInt8):Option (za×List UInt8):=
 ze (zf (0,(⟨x.1.s,w64 (x.1.at_+1)⟩:za))) fun y1=>
 bif y1==(-1)then
  ze (ql (65533,x.2)) fun y2=>
  some ((⟨x.1.s,w64 (x.1.at_+1)⟩:za),y2)
 else
  ze (QR y1) fun y3=>
  bif decide (y3<0)then
   ze (qg (wu8 y1)) fun y4=>
   need (zB x.2.length 1 1)<|
   some ((⟨x.1.s,w64 (w64 (x.1.at_+1)+1)⟩:za),x.2++[y4])
  else
   ZG (fun(s5:(Int×Int)×za)=>
     bif decide (s5.1.2<6)then
      ze (zf (0,s5.2)) fun y6=>
      ze (QR y6) fun y7=>
      bif decide (y7<0)then
       some (LO.out (s5.1.1,s5.2))
      else
       some (LO.again ((ibOr IntKind.i64 (fu IntKind.i64 s5.1.1 4) y7,w64 (s5.1.2+1)),(⟨s5.2.s,w64 (s5.2.at_+1)⟩:za)))
     else
      some (LO.out (s5.1.1,s5.2)):(Int×Int)×za->Option (LO ((Int×Int)×za) (Int×za) _)) ((0,0),(⟨x.1.s,w64 (x.1.at_+1)⟩:za)) fun o8=>
   zO (X:=Int×za×List UInt8) (
     ze (zf (0,o8.2)) fun y9=>
     ze (Zk y9) fun y10=>
     bif y10 then
      some (LX.out (o8.1,(⟨o8.2.s,w64 (o8.2.at_+1)⟩:za),x.2))
     else
      some (LX.out (o8.1,o8.2,x.2))) fun j11=>
   zO (X:=Int×List UInt8) (
     bif j11.1==0 then
      some (LX.out (65533,j11.2.2))
     else
      some (LX.out (j11.1,j11.2.2))) fun j12=>
   ze (ql (w32 j12.1,j12.2)) fun y13=>
   some (j11.2.1,y13)
def Z7(x:za):Option (zg×za):=
 ze (zf (0,x)) fun y1=>
 ZG (fun(s2:za×zg×List UInt8)=>
   ze (zf (0,s2.1)) fun y3=>
   bif y3==(-1)then
    some (LO.out (s2.1,s2.2.1,s2.2.2))
   else
    bif y3==y1 then
     some (LO.out ((⟨s2.1.s,w64 (s2.1.at_+1)⟩:za),s2.2.1,s2.2.2))
    else
     bif y3==10 then
      some (LO.ret ((⟨6,[],0,[],false⟩:zg),s2.1))
     else
      ze (zy (y3==92) (zf (1,s2.1)) (default:Int)) fun y4=>
      ze (zy (!(y4==(-1))&&y3==92) (zf (1,s2.1)) (default:Int)) fun y5=>
      bif bif y3==92 then bif y4==(-1)then true else y5==10 else false then
       some (LO.again ((⟨s2.1.s,if(s2.1.s.length:Int)<w64 (s2.1.at_+2)then(s2.1.s.length:Int)else w64 (s2.1.at_+2)⟩:za),s2.2.1,s2.2.2))
      else
       bif y3==92 then
        ze (zD (s2.1,s2.2.2)) fun y6=>
        some (LO.again (y6.1,s2.2.1,y6.2))
       else
        ze (qg (wu8 y3)) fun y7=>
        need (zB s2.2.2.length 1 1)<|
        some (LO.again ((⟨s2.1.s,w64 (s2.1.at_+1)⟩:za),s2.2.1,s2.2.2++[y7])):za×zg×List UInt8->Option (LO (za×zg×List UInt8) (za×zg×List UInt8) _)) ((⟨x.s,w64 (x.at_+1)⟩:za),(⟨0,[],0,[],false⟩:zg),[]) fun o8=>
 some ((⟨5,o8.2.2,0,[],false⟩:zg),o8.1)
def Bo(x:Int):Option Bool:=
 ze (qf (ibOr IntKind.i64 x 32,97,122)) fun y1=>
 some (bif bif bif bif y1 then decide (x<128)else false then decide (x>64)else false then true else x==95 then true else decide (x>=128))
def QS(x:Int):Option Bool:=
 ze (Bo x) fun y1=>
 ze (zy (!y1) (Zt x) (default:Bool)) fun y2=>
 some (bif bif y1 then true else y2 then true else x==45)
def zt(x:Int×za):Option Bool:=
 ze (zf (x.1,x.2)) fun y1=>
 ze (zy (y1==92) (zf (w64 (x.1+1),x.2)) (default:Int)) fun y2=>
 some (bif y1==92 then y2 != 10 else false)
def zM(x:Int×za):Option Bool:=
 ze (zf (x.1,x.2)) fun y1=>
 bif y1 != 45 then
  ze (zf (x.1,x.2)) fun y2=>
  ze (Bo y2) fun y3=>
  ze (zy (!y3) (zt (x.1,x.2)) (default:Bool)) fun y4=>
  some (bif y3 then true else y4)
 else
  ze (zf (w64 (x.1+1),x.2)) fun y5=>
  ze (Bo y5) fun y6=>
  ze (zy (!y6) (zf (w64 (x.1+1),x.2)) (default:Int)) fun y7=>
  ze (zy (!(bif y6 then true else y7==45)) (zt (w64 (x.1+1),x.2)) (default:Bool)) fun y8=>
  some (bif bif y6 then true else y7==45 then true else y8)
def zR(x:za):Option (Str×za):=
 ZG (fun(s1:za×List UInt8)=>
   ze (zf (0,s1.1)) fun y2=>
   ze (QS y2) fun y3=>
   bif y3 then
    ze (qg (wu8 y2)) fun y4=>
    need (zB s1.2.length 1 1)<|
    some (LO.again ((⟨s1.1.s,w64 (s1.1.at_+1)⟩:za),s1.2++[y4]))
   else
    ze (zy (y2 != (-1)) (zt (0,s1.1)) (default:Bool)) fun y5=>
    bif bif y2 != (-1)then y5 else false then
     ze (zD (s1.1,s1.2)) fun y6=>
     some (LO.again (y6.1,y6.2))
    else
     some (LO.ret (s1.2,s1.1)):za×List UInt8->Option (LO (za×List UInt8) (Unit) _)) (x,[]) fun o7=>
 none
def qY(x:za):Option Bool:=
 zO (X:=Int) (
   ze (zf (0,x)) fun y1=>
   bif bif y1==43 then true else y1==45 then
    some (LX.out 1)
   else
    some (LX.out 0)) fun j2=>
 zO (X:=Int) (
   ze (zf (j2,x)) fun y3=>
   bif y3==46 then
    some (LX.out (w64 (j2+1)))
   else
    some (LX.out j2)) fun j4=>
 ze (zf (j4,x)) fun y5=>
 ze (Zt y5) fun y6=>
 some y6
def Zf(x:za):Option za:=
 ZG (fun(s1:za)=>
   ze (zf (0,s1)) fun y2=>
   ze (Zt y2) fun y3=>
   bif y3 then
    some (LO.again (⟨s1.s,w64 (s1.at_+1)⟩:za))
   else
    some (LO.out s1):za->Option (LO (za) (za) _)) x fun o4=>
 some o4
def ZR(x:za):Option (Bool×za):=
 zO (X:=za) (
   ze (zf (0,x)) fun y1=>
   bif bif y1==43 then true else y1==45 then
    some (LX.out (⟨x.s,w64 (x.at_+1)⟩:za))
   else
    some (LX.out x)) fun j2=>
 ze (Zf j2) fun y3=>
 zO (X:=Bool×za) (
   ze (zf (0,y3)) fun y4=>
   ze (zy (y4==46) (zf (1,y3)) (default:Int)) fun y5=>
   ze (zy (y4==46) (Zt y5) (default:Bool)) fun y6=>
   bif bif y4==46 then y6 else false then
    ze (Zf (⟨y3.s,w64 (y3.at_+1)⟩:za)) fun y7=>
    some (LX.out (false,y7))
   else
    some (LX.out (true,y3))) fun j8=>
 zO (X:=Bool×za) (
   ze (zf (0,j8.2)) fun y9=>
   ze (zy (!(y9==101)) (zf (0,j8.2)) (default:Int)) fun y10=>
   bif bif y9==101 then true else y10==69 then
    zO (X:=(Bool×Int)×za) (
      ze (zf (1,j8.2)) fun y11=>
      bif bif y11==43 then true else y11==45 then
       some (LX.out ((j8.1,2),j8.2))
      else
       some (LX.out ((j8.1,1),j8.2))) fun j12=>
    ze (zf (j12.1.2,j12.2)) fun y13=>
    ze (Zt y13) fun y14=>
    bif y14 then
     ze (Zf (⟨j12.2.s,w64 (j12.2.at_+j12.1.2)⟩:za)) fun y15=>
     some (LX.out (false,y15))
    else
     some (LX.out (j12.1.1,j12.2))
   else
    some (LX.out (j8.1,j8.2))) fun j16=>
 some (j16.1,j16.2)
def Qj(x:Str):Option Int:=
 ze (geti x 0) fun y1=>
 ze (Rk (x,[43,45])) fun y2=>
 zO (X:=Str×Int) (
   ze (Xr (y2,[101,69])) fun y3=>
   bif decide (y3>=0)then
    need (decide (0<=w64 (y3+1))&&decide (w64 (y3+1)<=(y2.length:Int)))<|
    ze (Rk (List.drop (w64 (y3+1)).toNat y2,[43,45])) fun y4=>
    need (decide (y4.length<=maxLen))<|
    ZG (fun(s5:Int×Int)=>
      bif decide (s5.2<(y4.length:Int))then
       need (decide (0<=s5.2)&&decide (s5.2<(y4.length:Int)))<|
       ze y4[s5.2.toNat]? fun y6=>
       some (LO.again (if 1048576<w64 (w64 (10*s5.1)+w64 (wu8 ((y6.toNat:Int) - 48)))then 1048576 else w64 (w64 (10*s5.1)+w64 (wu8 ((y6.toNat:Int) - 48))),w64 (s5.2+1)))
      else
       some (LO.out s5.1):Int×Int->Option (LO (Int×Int) (Int) _)) (0,0) fun o7=>
    zO (X:=Str×Int×Int) (
      ze (geti y2 (w64 (y3+1))) fun y8=>
      bif (y8.toNat:Int)==45 then
       some (LX.out (y2,3,w64 (0 - o7)))
      else
       some (LX.out (y2,3,o7))) fun j9=>
    need (decide (0<=y3)&&decide (y3<=(j9.1.length:Int)))<|
    some (LX.out (List.take y3.toNat j9.1,w64 (j9.2.1+j9.2.2)))
   else
    some (LX.out (y2,3))) fun j10=>
 ze (cutF (j10.1,[46])) fun y11=>
 need (ug y11.1.length y11.2.1.length)<|
 zO (X:=Str×Int) (
   bif decide (w64 (j10.2 - (y11.2.1.length:Int))<0)then
    need (decide (0<=(if w64 (((y11.1++y11.2.1).length:Int)+w64 (j10.2 - (y11.2.1.length:Int)))>0 then w64 (((y11.1++y11.2.1).length:Int)+w64 (j10.2 - (y11.2.1.length:Int)))else 0))&&decide ((if w64 (((y11.1++y11.2.1).length:Int)+w64 (j10.2 - (y11.2.1.length:Int)))>0 then w64 (((y11.1++y11.2.1).length:Int)+w64 (j10.2 - (y11.2.1.length:Int)))else 0)<=((y11.1++y11.2.1).length:Int)))<|
    some (LX.out (List.take (if w64 (((y11.1++y11.2.1).length:Int)+w64 (j10.2 - (y11.2.1.length:Int)))>0 then w64 (((y11.1++y11.2.1).length:Int)+w64 (j10.2 - (y11.2.1.length:Int)))else 0).toNat (y11.1++y11.2.1),w64 (j10.2 - (y11.2.1.length:Int))))
   else
    some (LX.out (y11.1++y11.2.1,w64 (j10.2 - (y11.2.1.length:Int))))) fun j12=>
 need (decide (j12.1.length<=maxLen))<|
 ZG (fun(s13:Int×Int)=>
   bif decide (s13.2<(j12.1.length:Int))then
    need (decide (0<=s13.2)&&decide (s13.2<(j12.1.length:Int)))<|
    ze j12.1[s13.2.toNat]? fun y14=>
    some (LO.again (if 1000000000000<w64 (w64 (10*s13.1)+w64 (wu8 ((y14.toNat:Int) - 48)))then 1000000000000 else w64 (w64 (10*s13.1)+w64 (wu8 ((y14.toNat:Int) - 48))),w64 (s13.2+1)))
   else
    some (LO.out s13.1):Int×Int->Option (LO (Int×Int) (Int) _)) (0,0) fun o15=>
 ZG (fun(s16:Int×Int)=>
   bif bif bif decide (s16.1>0)then decide (s16.2>0)else false then decide (s16.2<1000000000000)else false then
    some (LO.again (w64 (s16.1 - 1),if 1000000000000<w64 (10*s16.2)then 1000000000000 else w64 (10*s16.2)))
   else
    some (LO.out s16.2):Int×Int->Option (LO (Int×Int) (Int) _)) (j12.2,o15) fun o17=>
 zO (X:=Int) (
   bif (y1.toNat:Int)==45 then
    some (LX.out (w64 (0 - o17)))
   else
    some (LX.out o17)) fun j18=>
 some j18
def ZT(x:za):Option (zg×za):=
 ze (ZR x) fun y1=>
 need (decide (0<=x.at_)&&(decide (x.at_<=y1.2.at_)&&decide (y1.2.at_<=(y1.2.s.length:Int))))<|
 ze (Qj (List.drop x.at_.toNat (List.take y1.2.at_.toNat y1.2.s))) fun y2=>
 zO (X:=za×zg×zg) (
   ze (zM (0,y1.2)) fun y3=>
   bif y3 then
    ze (zR y1.2) fun y4=>
    some (LX.out (y4.2,(⟨0,[],0,[],false⟩:zg),(⟨12,[],y2,y4.1,y1.1⟩:zg)))
   else
    ze (zf (0,y1.2)) fun y5=>
    bif y5==37 then
     some (LX.out ((⟨y1.2.s,w64 (y1.2.at_+1)⟩:za),(⟨0,[],0,[],false⟩:zg),(⟨11,[],y2,[],false⟩:zg)))
    else
     some (LX.out (y1.2,(⟨0,[],0,[],false⟩:zg),(⟨10,[],y2,[],y1.1⟩:zg)))) fun j6=>
 some (j6.2.2,j6.1)
def ZL(x:Str):Option Str:=
 need (decide (x.length<=maxLen))<|
 ZG (fun(s1:Int×List UInt8)=>
   bif decide (s1.1<(x.length:Int))then
    zO (X:=Int×List UInt8) (
      need (decide (0<=s1.1)&&decide (s1.1<(s1.2.length:Int)))<|
      ze s1.2[s1.1.toNat]? fun y2=>
      bif bif decide (65<=(y2.toNat:Int))then decide ((y2.toNat:Int)<=90)else false then
       need (decide (0<=s1.1)&&decide (s1.1<(s1.2.length:Int)))<|
       ze s1.2[s1.1.toNat]? fun y3=>
       need (decide (0<=s1.1)&&decide (s1.1<(s1.2.length:Int)))<|
       ze s1.2[s1.1.toNat]? fun y4=>
       ze (qg (ibOr IntKind.u8 (y3.toNat:Int) 32)) fun y5=>
       some (LX.out (s1.1,List.set s1.2 s1.1.toNat y5))
      else
       some (LX.out (s1.1,s1.2))) fun j6=>
    some (LO.again (w64 (j6.1+1),j6.2))
   else
    some (LO.out s1.2):Int×List UInt8->Option (LO (Int×List UInt8) (List UInt8) _)) (0,x) fun o7=>
 some o7
def ZW(x:Str×Str):Option Bool:=
 ze (ZL x.1) fun y1=>
 ze (ZL x.2) fun y2=>
 some (y1==y2)
def ZN(x:za):Option (zg×za):=
 ZG (fun(s1:za×zg)=>
   ze (zf (0,s1.1)) fun y2=>
   bif y2==(-1)then
    some (LO.ret ((⟨8,[],0,[],false⟩:zg),s1.1))
   else
    ze (zt (0,s1.1)) fun y3=>
    bif y3 then
     ze (Zy s1.1) fun y4=>
     some (LO.again (y4.1,s1.2))
    else
     ze (geti s1.1.s (w64 (w64 (s1.1.at_+1) - 1))) fun y5=>
     bif (y5.toNat:Int)==41 then
      some (LO.ret ((⟨8,[],0,[],false⟩:zg),(⟨s1.1.s,w64 (s1.1.at_+1)⟩:za)))
     else
      some (LO.again ((⟨s1.1.s,w64 (s1.1.at_+1)⟩:za),s1.2)):za×zg->Option (LO (za×zg) (Unit) _)) (x,(⟨0,[],0,[],false⟩:zg)) fun o6=>
 none
def Qi(x:za):Option (zg×za):=
 ze (zN x) fun y1=>
 ZG (fun(s2:za×zg×List UInt8)=>
   ze (zf (0,s2.1)) fun y3=>
   zO (X:=Int×za×zg×List UInt8) (
     ze (Zk y3) fun y4=>
     bif y4 then
      ze (zN s2.1) fun y5=>
      ze (zf (0,y5)) fun y6=>
      bif bif y6 != 41 then y6 != (-1)else false then
       ze (ZN y5) fun y7=>
       some (LX.ret (LO.ret (y7.1,y7.2)))
      else
       some (LX.out (y6,y5,s2.2.1,s2.2.2))
     else
      some (LX.out (y3,s2.1,s2.2.1,s2.2.2))) fun j8=>
   bif j8.1==(-1)then
    some (LO.ret ((⟨7,j8.2.2.2,0,[],false⟩:zg),j8.2.1))
   else
    bif j8.1==41 then
     some (LO.ret ((⟨7,j8.2.2.2,0,[],false⟩:zg),(⟨j8.2.1.s,w64 (j8.2.1.at_+1)⟩:za)))
    else
     ze (zy (!(bif bif bif bif j8.1==34 then true else j8.1==39 then true else j8.1==40 then true else decide (j8.1<=8)then true else j8.1==11)) (qf (j8.1,14,31)) (default:Bool)) fun y9=>
     bif bif bif bif bif bif bif j8.1==34 then true else j8.1==39 then true else j8.1==40 then true else decide (j8.1<=8)then true else j8.1==11 then true else y9 then true else j8.1==127 then
      ze (ZN j8.2.1) fun y10=>
      some (LO.ret (y10.1,y10.2))
     else
      bif j8.1 != 92 then
       ze (qg (wu8 j8.1)) fun y11=>
       need (zB j8.2.2.2.length 1 1)<|
       some (LO.again ((⟨j8.2.1.s,w64 (j8.2.1.at_+1)⟩:za),j8.2.2.1,j8.2.2.2++[y11]))
      else
       ze (zt (0,j8.2.1)) fun y12=>
       bif y12 then
        ze (zD (j8.2.1,j8.2.2.2)) fun y13=>
        some (LO.again (y13.1,j8.2.2.1,y13.2))
       else
        ze (ZN j8.2.1) fun y14=>
        some (LO.ret (y14.1,y14.2)):za×zg×List UInt8->Option (LO (za×zg×List UInt8) (Unit) _)) (y1,(⟨0,[],0,[],false⟩:zg),[]) fun o15=>
 none
def qw(x:za):Option (zg×za):=
 ze (zR x) fun y1=>
 ze (zf (0,y1.2)) fun y2=>
 bif y2 != 40 then
  some ((⟨1,y1.1,0,[],false⟩:zg),y1.2)
 else
  zO (X:=za×zg) (
    ze (ZW (y1.1,[117,114,108])) fun y3=>
    bif y3 then
     ze (zN (⟨y1.2.s,w64 (y1.2.at_+1)⟩:za)) fun y4=>
     ze (zf (0,y4)) fun y5=>
     bif bif y5 != 34 then y5 != 39 else false then
      ze (Qi (⟨y1.2.s,w64 (y1.2.at_+1)⟩:za)) fun y6=>
      some (LX.ret (y6.1,y6.2))
     else
      some (LX.out ((⟨y1.2.s,w64 (y1.2.at_+1)⟩:za),(⟨0,[],0,[],false⟩:zg)))
    else
     some (LX.out ((⟨y1.2.s,w64 (y1.2.at_+1)⟩:za),(⟨0,[],0,[],false⟩:zg)))) fun j7=>
  some ((⟨2,y1.1,0,[],false⟩:zg),j7.1)
def strings_IndexByte(x:Str×Int):Option Int:=
 ze (oq (x.1,x.2)) fun y1=>
 some y1
def qO(x:za):Option (zg×za):=
 ze (zf (0,x)) fun y1=>
 need (decide (0<=x.at_)&&decide (x.at_<=(x.s.length:Int)))<|
 ze (Zk y1) fun y2=>
 bif y2 then
  ze (zN x) fun y3=>
  some ((⟨13,[],0,[],false⟩:zg),y3)
 else
  bif bif y1==34 then true else y1==39 then
   ze (Z7 x) fun y4=>
   some (y4.1,y4.2)
  else
   ze (zy (y1==35) (zf (1,x)) (default:Int)) fun y5=>
   ze (zy (y1==35) (QS y5) (default:Bool)) fun y6=>
   ze (zy (!y6&&y1==35) (zt (1,x)) (default:Bool)) fun y7=>
   bif bif y1==35 then bif y6 then true else y7 else false then
    ze (zM (1,x)) fun y8=>
    ze (zR (⟨x.s,w64 (x.at_+1)⟩:za)) fun y9=>
    some ((⟨4,y9.1,0,[],y8⟩:zg),y9.2)
   else
    ze (qY x) fun y10=>
    bif y10 then
     ze (ZT x) fun y11=>
     some (y11.1,y11.2)
    else
     ze (strings_HasPrefix (List.drop x.at_.toNat x.s,[45,45,62])) fun y12=>
     bif y12 then
      some ((⟨15,[],0,[],false⟩:zg),(⟨x.s,w64 (x.at_+3)⟩:za))
     else
      ze (strings_HasPrefix (List.drop x.at_.toNat x.s,[60,33,45,45])) fun y13=>
      bif y13 then
       some ((⟨14,[],0,[],false⟩:zg),(⟨x.s,w64 (x.at_+4)⟩:za))
      else
       ze (zy (y1==64) (zM (1,x)) (default:Bool)) fun y14=>
       bif bif y1==64 then y14 else false then
        ze (zR (⟨x.s,w64 (x.at_+1)⟩:za)) fun y15=>
        some ((⟨3,y15.1,0,[],false⟩:zg),y15.2)
       else
        ze (zM (0,x)) fun y16=>
        bif y16 then
         ze (qw x) fun y17=>
         some (y17.1,y17.2)
        else
         ze (strings_IndexByte ([58,59,44,91,93,40,41,123,125],wu8 y1)) fun y18=>
         bif decide (y18>=0)then
          some ((⟨wu8 (16+wu8 y18),[],0,[],false⟩:zg),(⟨x.s,w64 (x.at_+1)⟩:za))
         else
          need (decide (1<=((List.drop x.at_.toNat x.s).length:Int)))<|
          some ((⟨9,List.take 1 (List.drop x.at_.toNat x.s),0,[],false⟩:zg),(⟨x.s,w64 (x.at_+1)⟩:za))
def iy(x:(zg×Int×Int)×List zg):Option (List zg):=
 need (zB x.2.length 1 56)<|
 some (x.2++[x.1.1])
def yt(x:Str):Option (Int×List zg):=
 ze (wm x) fun y1=>
 bif y1.2 != 0 then
  some (y1.2,[])
 else
  ze (Zp (⟨y1.1,0⟩:za)) fun y2=>
  ZG (fun(s3:Int×List zg×za)=>
    bif decide (s3.2.2.at_<(y1.1.length:Int))then
     bif decide (w64 (s3.1+1)>1500)then
      some (LO.ret (4,s3.2.1))
     else
      ze (qO s3.2.2) fun y4=>
      ze (iy ((y4.1,s3.2.2.at_,y4.2.at_),s3.2.1)) fun y5=>
      ze (Zp y4.2) fun y6=>
      some (LO.again (w64 (s3.1+1),y5,y6))
    else
     some (LO.out (s3.2.1,s3.2.2)):Int×List zg×za->Option (LO (Int×List zg×za) (List zg×za) _)) (0,[],y2) fun o7=>
  some (0,o7.1)
def QQ(x:Str):Option (List zg×Int):=
 ze (yt x) fun y1=>
 bif y1.1 != 0 then
  some ([],y1.1)
 else
  some (y1.2,0)
def Zr(x:Int):Option Int:=
 bif x==2 then
  some 22
 else
  zO (X:=Bool) (
    bif x==19 then
     some (LX.out (x==19))
    else
     bif x==21 then
      some (LX.out (x==21))
     else
      some (LX.out (x==23))) fun j1=>
  bif j1 then
   some (wu8 (x+1))
  else
   some 0
def Eo(Z5:List zb×Int->Option zn)(x:List zb×Int):Option zn:=
 ZG (fun(s1:Int×zn)=>
   bif decide (s1.1<(x.1.length:Int))then
    zO (X:=Int×zn) (
      ze (geti x.1 s1.1) fun y2=>
      ze (Zr y2.token.kind) fun y3=>
      zO (X:=zn) (
        bif bif bif x.2 != 0 then y2.token.kind==x.2 else false then true else bif y3==0 then decide ((y2.list.length:Int)>0)else false then
         some (LX.out (⟨s1.2.depth,w64 (s1.2.tokens+1),true⟩:zn))
        else
         some (LX.out (⟨s1.2.depth,w64 (s1.2.tokens+1),s1.2.bad⟩:zn))) fun j4=>
      bif y3==0 then
       some (LX.out (s1.1,j4))
      else
       ze (Z5 (y2.list,y3)) fun y5=>
       some (LX.out (s1.1,(⟨if w64 (y5.depth+1)>j4.depth then w64 (y5.depth+1)else j4.depth,w64 (w64 (j4.tokens+y5.tokens)+1),bif j4.bad then true else y5.bad⟩:zn)))) fun j6=>
    some (LO.again (w64 (j6.1+1),j6.2))
   else
    some (LO.out s1.2):Int×zn->Option (LO (Int×zn) (zn) _)) (0,(⟨0,0,false⟩:zn)) fun o7=>
 some o7
def Z5:List zb×Int->Option zn:=recE (Eo)
def ZM(x:List zb):Option Int:=
 ze (Z5 (x,0)) fun y1=>
 bif decide (y1.depth>16)then
  some 20
 else
  bif decide (y1.tokens>1500)then
   some 4
  else
   bif y1.bad then
    some 8
   else
    some 0
def qM(x:List zb):Option (List zb):=
 bif x.isEmpty then
  both (
    some []) (
    need (zB 0 x.length 80)<|
    some x)
 else
  need (zB 0 x.length 80)<|
  some x
def Dy(Qe:List zb->Option (List zb))(x:List zb):Option (List zb):=
 ze (qM x) fun y1=>
 ZG (fun(s2:Int×List zb)=>
   bif decide (s2.1<(y1.length:Int))then
    need (decide (0<=s2.1)&&decide (s2.1<(s2.2.length:Int)))<|
    ze s2.2[s2.1.toNat]? fun y3=>
    ze (Qe y3.list) fun y4=>
    need (decide (0<=s2.1)&&decide (s2.1<(s2.2.length:Int)))<|
    ze s2.2[s2.1.toNat]? fun y5=>
    some (LO.again (w64 (s2.1+1),List.set s2.2 s2.1.toNat (⟨y5.token,y4⟩:zb)))
   else
    some (LO.out s2.2):Int×List zb->Option (LO (Int×List zb) (List zb) _)) (0,y1) fun o6=>
 some o6
def Qe:List zb->Option (List zb):=recE (Dy)
def Sl(x:List zb×Int):Option (List (List zb)×Int):=
 ze (ZM x.1) fun y1=>
 bif y1 != 0 then
  some ([],y1)
 else
  bif bif decide (x.2<1)then true else decide (x.2>24)then
   some ([],2)
  else
   ZG (fun(s2:(Int×Int)×List (List zb))=>
     bif decide (s2.1.2<(x.1.length:Int))then
      zO (X:=(Int×Int)×List (List zb)) (
        ze (geti x.1 s2.1.2) fun y3=>
        bif y3.token.kind==x.2 then
         need (decide (0<=s2.1.1)&&(decide (s2.1.1<=s2.1.2)&&(decide (s2.1.2<=s2.1.2)&&decide (s2.1.2<=(x.1.length:Int))))&&decide (s2.1.2=s2.1.2))<|
         ze (Qe (List.drop s2.1.1.toNat (List.take s2.1.2.toNat x.1))) fun y4=>
         need (zB s2.2.length 1 24)<|
         some (LX.out ((w64 (s2.1.2+1),s2.1.2),s2.2++[y4]))
        else
         some (LX.out ((s2.1.1,s2.1.2),s2.2))) fun j5=>
      some (LO.again ((j5.1.1,w64 (j5.1.2+1)),j5.2))
     else
      some (LO.out (s2.1.1,s2.2)):(Int×Int)×List (List zb)->Option (LO ((Int×Int)×List (List zb)) (Int×List (List zb)) _)) ((0,0),[]) fun o6=>
   need (decide (0<=o6.1)&&decide (o6.1<=(x.1.length:Int)))<|
   ze (Qe (List.drop o6.1.toNat x.1)) fun y7=>
   need (zB o6.2.length 1 24)<|
   some (o6.2++[y7],0)
def zZ(x:zb×Int):Option Bool:=
 some (x.1.token.kind==x.2)
def Nl(x:List zb):Option (List zb):=
 ZG (fun(s1:List zb)=>
   ze (zy (decide ((s1.length:Int)>0)) (geti s1 0) (default:zb)) fun y2=>
   ze (zy (decide ((s1.length:Int)>0)) (zZ ((⟨y2.token,y2.list⟩:zb),13)) (default:Bool)) fun y3=>
   bif bif decide ((s1.length:Int)>0)then y3 else false then
    need (decide (1<=(s1.length:Int)))<|
    some (LO.again (List.drop 1 s1))
   else
    some (LO.out s1):List zb->Option (LO (List zb) (List zb) _)) x fun o4=>
 some o4
def QZ(x:List zb):Option (List zb):=
 ZG (fun(s1:List zb)=>
   ze (zy (decide ((s1.length:Int)>0)) (geti s1 (w64 ((s1.length:Int) - 1))) (default:zb)) fun y2=>
   ze (zy (decide ((s1.length:Int)>0)) (zZ ((⟨y2.token,y2.list⟩:zb),13)) (default:Bool)) fun y3=>
   bif bif decide ((s1.length:Int)>0)then y3 else false then
    need (decide (0<=w64 ((s1.length:Int) - 1))&&decide (w64 ((s1.length:Int) - 1)<=(s1.length:Int)))<|
    some (LO.again (List.take (w64 ((s1.length:Int) - 1)).toNat s1))
   else
    some (LO.out s1):List zb->Option (LO (List zb) (List zb) _)) x fun o4=>
 some o4
def Aj(x:zb):Option Bool:=
 ze (zZ ((⟨x.token,x.list⟩:zb),9)) fun y1=>
 some (bif y1 then x.token.text==[33]else false)
def Ho(x:Int×List zb):Option Bool:=
 ze (geti x.2 x.1) fun y1=>
 some (y1.token.kind==13)
def Rs(x:List zb):Option (List zb×Int):=
 ze (ZM x) fun y1=>
 bif y1 != 0 then
  some ([],y1)
 else
  ZG (fun(s2:Int)=>
    ze (zy (decide (s2<(x.length:Int))) (Ho (s2,x)) (default:Bool)) fun y3=>
    bif bif decide (s2<(x.length:Int))then y3 else false then
     some (LO.again (w64 (s2+1)))
    else
     some (LO.out s2):Int->Option (LO (Int) (Int) _)) 0 fun o4=>
  ZG (fun(s5:Int)=>
    ze (zy (decide (o4<s5)) (Ho (w64 (s5 - 1),x)) (default:Bool)) fun y6=>
    bif bif decide (o4<s5)then y6 else false then
     some (LO.again (w64 (s5 - 1)))
    else
     some (LO.out s5):Int->Option (LO (Int) (Int) _)) (x.length:Int) fun o7=>
  need (decide (0<=o4)&&(decide (o4<=o7)&&(decide (o7<=o7)&&decide (o7<=(x.length:Int))))&&decide (o7=o7))<|
  ze (Qe (List.drop o4.toNat (List.take o7.toNat x))) fun y8=>
  some (y8,0)
def Q3(Zj:List zb×List zg->Option (List zg))(x:List zb×List zg):Option (List zg):=
 ZG (fun(s1:Int×List zg)=>
   bif decide (s1.1<(x.1.length:Int))then
    zO (X:=Int×List zg) (
      ze (geti x.1 s1.1) fun y2=>
      need (zB s1.2.length 1 56)<|
      ze (Zr y2.token.kind) fun y3=>
      bif y3 != 0 then
       ze (Zj (y2.list,s1.2++[y2.token])) fun y4=>
       need (zB y4.length 1 56)<|
       some (LX.out (s1.1,y4++[(⟨y3,[],0,[],false⟩:zg)]))
      else
       some (LX.out (s1.1,s1.2++[y2.token]))) fun j5=>
    some (LO.again (w64 (j5.1+1),j5.2))
   else
    some (LO.out s1.2):Int×List zg->Option (LO (Int×List zg) (List zg) _)) (0,x.2) fun o6=>
 some o6
def Zj:List zb×List zg->Option (List zg):=recE (Q3)
def qR(x:List zb):Option (List zg):=
 ZG (fun(s1:Int×List zg)=>
   bif decide (s1.1<(x.length:Int))then
    zO (X:=Int×List zg) (
      ze (geti x s1.1) fun y2=>
      need (zB s1.2.length 1 56)<|
      ze (Zr y2.token.kind) fun y3=>
      bif y3 != 0 then
       ze (Zj (y2.list,s1.2++[y2.token])) fun y4=>
       need (zB y4.length 1 56)<|
       some (LX.out (s1.1,y4++[(⟨y3,[],0,[],false⟩:zg)]))
      else
       some (LX.out (s1.1,s1.2++[y2.token]))) fun j5=>
    some (LO.again (w64 (j5.1+1),j5.2))
   else
    some (LO.out s1.2):Int×List zg->Option (LO (Int×List zg) (List zg) _)) (0,[]) fun o6=>
 some o6
def Ll(x:List zb):Option (List zg×Int):=
 ze (ZM x) fun y1=>
 bif y1 != 0 then
  some ([],y1)
 else
  ze (qR x) fun y2=>
  some (y2,0)
def Vl(x:Str):Option Bool:=
 ze (zy (!(bif x==[]then true else decide ((x.length:Int)>64))) (strings_IndexByte (x,0)) (default:Int)) fun y1=>
 bif bif bif x==[]then true else decide ((x.length:Int)>64)then true else decide (y1>=0)then
  some false
 else
  ze (strings_HasPrefix (x,[45,45])) fun y2=>
  bif y2 then
   some (!(x==[45,45]))
  else
   ze (ZL x) fun y3=>
   some (x==y3)
def stringslite_TrimPrefix(x:Str×Str):Option Str:=
 ze (stringslite_HasPrefix (x.1,x.2)) fun y1=>
 bif y1 then
  need (decide (0<=(x.2.length:Int))&&decide ((x.2.length:Int)<=(x.1.length:Int)))<|
  some (List.drop x.2.length x.1)
 else
  some x.1
def strings_TrimPrefix(x:Str×Str):Option Str:=
 ze (stringslite_TrimPrefix (x.1,x.2)) fun y1=>
 some y1
def ZA(x:Int):Option Bool:=
 some (bif decide (48<=x)then decide (x<=57)else false)
def Qm(x:Str):Option Bool:=
 ze (strings_TrimPrefix (x,[45])) fun y1=>
 ze (zy (!(y1==[])) (geti y1 0) 0) fun y2=>
 ze (zy (!(y1==[])) (ZA (y2.toNat:Int)) (default:Bool)) fun y3=>
 some (bif !(y1==[])then y3 else false)
def Tt(x:Int):Option Bool:=
 some (bif bif decide (97<=ibOr IntKind.u8 x 32)then decide (ibOr IntKind.u8 x 32<=122)else false then decide (x<128)else false)
def Qa(x:Int):Option Bool:=
 ze (Tt x) fun y1=>
 ze (zy (!y1) (ZA x) (default:Bool)) fun y2=>
 some (bif bif bif bif y1 then true else y2 then true else x==95 then true else x==45 then true else decide (x>=128))
def strings_Contains(x:Str×Str):Option Bool:=
 ze (Pj (x.1,x.2)) fun y1=>
 some (decide (y1>=0))
def bn(x:zg):Option Bool:=
 need (ug x.text.length x.unit.length)<|
 ze (strings_IndexByte (x.text++x.unit,0)) fun y1=>
 zO (X:=Bool×Bool×Bool×Bool×Bool) (
   zO (X:=Bool×Bool×Bool×Bool×Bool×Bool) (
     bif x.kind==1 then
      some (LX.out (false,false,false,false,decide (y1<0),x.kind==1))
     else
      bif x.kind==2 then
       some (LX.out (false,false,false,false,decide (y1<0),x.kind==2))
      else
       some (LX.out (false,false,false,false,decide (y1<0),x.kind==3))) fun j2=>
   bif j2.2.2.2.2.2 then
    some (LX.out (true,j2.2.1,j2.2.2.1,j2.2.2.2.1,bif j2.2.2.2.2.1 then !(x.text==[])else false))
   else
    bif x.kind==4 then
     ze (zy (!x.flag&&(bif j2.2.2.2.2.1 then !(x.text==[])else false)) (Qm x.text) (default:Bool)) fun y3=>
     ze (zy (y3&&(!x.flag&&(bif j2.2.2.2.2.1 then !(x.text==[])else false))) (strings_HasPrefix (x.text,[45,45])) (default:Bool)) fun y4=>
     some (LX.out (true,j2.2.1,j2.2.2.1,true,bif bif j2.2.2.2.2.1 then !(x.text==[])else false then bif bif x.flag then true else bif y3 then !y4 else false then true else x.text==[45]else false))
    else
     zO (X:=Bool×Bool×Bool×Bool×Bool×Bool) (
       bif x.kind==5 then
        some (LX.out (j2.1,j2.2.1,j2.2.2.1,j2.2.2.2.1,j2.2.2.2.2.1,x.kind==5))
       else
        some (LX.out (j2.1,j2.2.1,j2.2.2.1,j2.2.2.2.1,j2.2.2.2.2.1,x.kind==7))) fun j5=>
     bif j5.2.2.2.2.2 then
      some (LX.out (true,j5.2.1,j5.2.2.1,j5.2.2.2.1,j5.2.2.2.2.1))
     else
      bif x.kind==9 then
       ze (zy (bif j5.2.2.2.2.1 then(x.text.length:Int)==1 else false) (geti x.text 0) 0) fun y6=>
       ze (zy (bif j5.2.2.2.2.1 then(x.text.length:Int)==1 else false) (Qa (y6.toNat:Int)) (default:Bool)) fun y7=>
       ze (zy (bif bif bif j5.2.2.2.2.1 then(x.text.length:Int)==1 else false then !y7 else false then true else x.text==[45]) (strings_Contains ([32,9,10,12,13,34,39,58,59,44,91,93,40,41,123,125],x.text)) (default:Bool)) fun y8=>
       some (LX.out (true,j5.2.1,j5.2.2.1,j5.2.2.2.1,bif bif bif bif j5.2.2.2.2.1 then(x.text.length:Int)==1 else false then !y7 else false then true else x.text==[45]then !y8 else false))
      else
       zO (X:=Bool×Bool×Bool×Bool×Bool) (
         bif x.kind==10 then
          some (LX.out (j5.2.1,j5.2.2.1,j5.2.2.2.1,j5.2.2.2.2.1,x.kind==10))
         else
          bif x.kind==11 then
           some (LX.out (j5.2.1,j5.2.2.1,j5.2.2.2.1,j5.2.2.2.2.1,x.kind==11))
          else
           some (LX.out (j5.2.1,j5.2.2.1,j5.2.2.2.1,j5.2.2.2.2.1,x.kind==12))) fun j9=>
       bif j9.2.2.2.2 then
        some (LX.out (j5.1,x.kind==12,true,x.kind != 11,bif bif bif bif j9.2.2.2.1 then decide (x.num>=(-1000000000000))else false then decide (x.num<=1000000000000)else false then bif !x.flag then true else Int.tmod x.num 1000==0 else false then bif !(x.kind==12)then true else !(x.unit==[])else false))
       else
        some (LX.out (j5.1,j9.1,j9.2.1,j9.2.2.1,bif decide (x.kind>=13)then decide (x.kind<=24)else false))) fun j10=>
 some (bif bif bif bif j10.2.2.2.2 then bif j10.1 then true else x.text==[]else false then bif j10.2.1 then true else x.unit==[]else false then bif j10.2.2.1 then true else x.num==0 else false then bif j10.2.2.2.1 then true else !x.flag else false)
def ZC(x:(Int×Int)×List zg):Option Bool:=
 ze (zy (decide (x.1.1<(x.2.length:Int))) (geti x.2 x.1.1) (default:zg)) fun y1=>
 some (bif decide (x.1.1<(x.2.length:Int))then y1.kind==x.1.2 else false)
def Q0(x:List zg):Option Int:=
 ze (geti x 0) fun y1=>
 bif bif y1.kind==9 then y1.text==[92]else false then
  ze (ZC ((1,13),x)) fun y2=>
  bif !y2 then
   some 0
  else
   some 2
 else
  ze (zy (y1.kind==2) (ZW (y1.text,[117,114,108])) (default:Bool)) fun y3=>
  bif bif y1.kind==2 then y3 else false then
   zO (X:=Int) (
     ze (ZC ((1,13),x)) fun y4=>
     bif y4 then
      some (LX.out 2)
     else
      some (LX.out 1)) fun j5=>
   ze (ZC ((j5,5),x)) fun y6=>
   bif !y6 then
    some 0
   else
    some (w64 (j5+1))
  else
   some 1
def QB(x:List zg):Option Int:=
 bif decide ((x.length:Int)>1500)then
  some 4
 else
  ZG (fun(s1:Int)=>
    bif decide (s1<(x.length:Int))then
     ze (geti x s1) fun y2=>
     ze (bn y2) fun y3=>
     need (decide (0<=s1)&&decide (s1<=(x.length:Int))|| !(!(!y3)))<|
     ze (zy (!(!y3)) (Q0 (List.drop s1.toNat x)) (default:Int)) fun y4=>
     bif bif !y3 then true else y4==0 then
      some (LO.ret 8)
     else
      some (LO.again (w64 (s1+1)))
    else
     some (LO.out ()):Int->Option (LO (Int) (Unit) _)) 0 fun o5=>
  some 0
def qb(zk:List zb->Option Bool)(x:zb):Option Bool:=
 ze (zZ ((⟨x.token,x.list⟩:zb),20)) fun y1=>
 ze (zy (!y1) (zZ ((⟨x.token,x.list⟩:zb),22)) (default:Bool)) fun y2=>
 ze (zy (!(bif y1 then true else y2)) (zZ ((⟨x.token,x.list⟩:zb),24)) (default:Bool)) fun y3=>
 ze (zy (!(bif bif y1 then true else y2 then true else y3)) (zk x.list) (default:Bool)) fun y4=>
 some (bif bif bif y1 then true else y2 then true else y3 then true else y4)
def Zo(zk:List zb->Option Bool)(x:List zb):Option Int:=
 ZG (fun(s1:Int)=>
   bif decide (s1<(x.length:Int))then
    ze (geti x s1) fun y2=>
    ze (qb zk (⟨y2.token,y2.list⟩:zb)) fun y3=>
    bif y3 then
     some (LO.ret s1)
    else
     some (LO.again (w64 (s1+1)))
   else
    some (LO.out ()):Int->Option (LO (Int) (Unit) _)) 0 fun o4=>
 some (-1)
def zW(zk:List zb->Option Bool)(x:List zb):Option Bool:=
 ze (Zo zk x) fun y1=>
 some (decide (y1>=0))
def QA(zk:List zb->Option Bool)(x:List zb):Option Bool:=
 ze (zW zk x) fun y1=>
 some y1
def zk:List zb->Option Bool:=recE (QA)
def Ro(x:zb):Option Bool:=
 ze (zZ ((⟨x.token,x.list⟩:zb),17)) fun y1=>
 ze (zy (!y1) (Aj (⟨x.token,x.list⟩:zb)) (default:Bool)) fun y2=>
 some (bif y1 then true else y2)
def Zd(x:List zb):Option Int:=
 ZG (fun(s1:Int)=>
   bif decide (s1<(x.length:Int))then
    ze (geti x s1) fun y2=>
    ze (Ro (⟨y2.token,y2.list⟩:zb)) fun y3=>
    bif y3 then
     some (LO.ret s1)
    else
     some (LO.again (w64 (s1+1)))
   else
    some (LO.out ()):Int->Option (LO (Int) (Unit) _)) 0 fun o4=>
 some (-1)
def zH(x:List zb):Option Bool:=
 ze (Zd x) fun y1=>
 some (decide (y1>=0))
def QY(x:zV):Option Int:=
 ze (Ll x.value) fun y1=>
 ze (Vl x.name) fun y2=>
 ze (zy (!(bif !y2 then true else y1.2 != 0)) (QB y1.1) (default:Int)) fun y3=>
 ze (zy (!(bif bif !y2 then true else y1.2 != 0 then true else y3 != 0)) (zk x.value) (default:Bool)) fun y4=>
 bif bif bif bif !y2 then true else y1.2 != 0 then true else y3 != 0 then true else y4 then
  some 8
 else
  ze (zH x.value) fun y5=>
  bif y5 then
   some 8
  else
   ze (zy ((x.value.length:Int)==0) (strings_HasPrefix (x.name,[45,45])) (default:Bool)) fun y6=>
   ze (zy (decide ((x.value.length:Int)>0)&& !(bif (x.value.length:Int)==0 then !y6 else false)) (geti x.value 0) (default:zb)) fun y7=>
   ze (zy (decide ((x.value.length:Int)>0)&& !(bif (x.value.length:Int)==0 then !y6 else false)) (zZ ((⟨y7.token,y7.list⟩:zb),13)) (default:Bool)) fun y8=>
   ze (zy (!y8&&(decide ((x.value.length:Int)>0)&& !(bif (x.value.length:Int)==0 then !y6 else false))) (geti x.value (w64 ((x.value.length:Int) - 1))) (default:zb)) fun y9=>
   ze (zy (!y8&&(decide ((x.value.length:Int)>0)&& !(bif (x.value.length:Int)==0 then !y6 else false))) (zZ ((⟨y9.token,y9.list⟩:zb),13)) (default:Bool)) fun y10=>
   bif bif bif (x.value.length:Int)==0 then !y6 else false then true else bif decide ((x.value.length:Int)>0)then bif y8 then true else y10 else false then
    some 8
   else
    some 0
def Kl(x:List zb):Option (zV×Bool):=
 ze (Nl x) fun y1=>
 ze (QZ y1) fun y2=>
 ze (zy (!((y2.length:Int)==0)) (geti y2 0) (default:zb)) fun y3=>
 ze (zy (!((y2.length:Int)==0)) (zZ ((⟨y3.token,y3.list⟩:zb),1)) (default:Bool)) fun y4=>
 bif bif (y2.length:Int)==0 then true else !y4 then
  some ((⟨[],[],false⟩:zV),false)
 else
  ze (geti y2 0) fun y5=>
  zO (X:=List zb×(Str×Bool)×(Str×Bool)) (
    ze (strings_HasPrefix (y5.token.text,[45,45])) fun y6=>
    bif !y6 then
     ze (ZL y5.token.text) fun y7=>
     some (LX.out (y2,([],false),(y7,false)))
    else
     some (LX.out (y2,([],false),(y5.token.text,false)))) fun j8=>
  need (decide (1<=(j8.1.length:Int)))<|
  ze (Nl (List.drop 1 j8.1)) fun y9=>
  ze (zy (!((y9.length:Int)==0)) (geti y9 0) (default:zb)) fun y10=>
  ze (zy (!((y9.length:Int)==0)) (zZ ((⟨y10.token,y10.list⟩:zb),16)) (default:Bool)) fun y11=>
  bif bif (y9.length:Int)==0 then true else !y11 then
   some ((⟨[],[],false⟩:zV),false)
  else
   need (decide (1<=(y9.length:Int)))<|
   ze (Nl (List.drop 1 y9)) fun y12=>
   zO (X:=List zb×(Str×Bool)×(Str×Bool)) (
     ze (zy (decide (w64 ((y12.length:Int) - 1)>0)) (geti y12 (w64 ((y12.length:Int) - 1))) (default:zb)) fun y13=>
     ze (zy (decide (w64 ((y12.length:Int) - 1)>0)) (zZ ((⟨y13.token,y13.list⟩:zb),1)) (default:Bool)) fun y14=>
     ze (zy (bif decide (w64 ((y12.length:Int) - 1)>0)then y14 else false) (geti y12 (w64 ((y12.length:Int) - 1))) (default:zb)) fun y15=>
     ze (zy (bif decide (w64 ((y12.length:Int) - 1)>0)then y14 else false) (ZW (y15.token.text,[105,109,112,111,114,116,97,110,116])) (default:Bool)) fun y16=>
     bif bif bif decide (w64 ((y12.length:Int) - 1)>0)then y14 else false then y16 else false then
      need (decide (0<=w64 ((y12.length:Int) - 1))&&decide (w64 ((y12.length:Int) - 1)<=(y12.length:Int)))<|
      ze (QZ (List.take (w64 ((y12.length:Int) - 1)).toNat y12)) fun y17=>
      ze (zy (decide ((y17.length:Int)>0)) (geti y17 (w64 ((y17.length:Int) - 1))) (default:zb)) fun y18=>
      ze (zy (decide ((y17.length:Int)>0)) (Aj (⟨y18.token,y18.list⟩:zb)) (default:Bool)) fun y19=>
      bif bif decide ((y17.length:Int)>0)then y19 else false then
       need (decide (0<=w64 ((y17.length:Int) - 1))&&decide (w64 ((y17.length:Int) - 1)<=(y17.length:Int)))<|
       ze (QZ (List.take (w64 ((y17.length:Int) - 1)).toNat y17)) fun y20=>
       some (LX.out (y20,(j8.2.1.1,j8.2.1.2),(j8.2.2.1,true)))
      else
       some (LX.out (y12,(j8.2.1.1,j8.2.1.2),(j8.2.2.1,j8.2.2.2)))
     else
      some (LX.out (y12,(j8.2.1.1,j8.2.1.2),(j8.2.2.1,j8.2.2.2)))) fun j21=>
   ze (Rs j21.1) fun y22=>
   ze (zy (!(y22.2 != 0)) (QY (⟨j21.2.2.1,y22.1,j21.2.2.2⟩:zV)) (default:Int)) fun y23=>
   bif bif y22.2 != 0 then true else y23 != 0 then
    some ((⟨[],[],false⟩:zV),false)
   else
    some ((⟨j21.2.2.1,y22.1,j21.2.2.2⟩:zV),true)
def Al(x:List zb):Option (List zV×Int):=
 ze (Sl (x,17)) fun y1=>
 bif y1.2 != 0 then
  some ([],y1.2)
 else
  ZG (fun(s2:Int×List zV)=>
    bif decide (s2.1<(y1.1.length:Int))then
     zO (X:=Int×List zV) (
       ze (geti y1.1 s2.1) fun y3=>
       ze (Kl y3) fun y4=>
       bif bif y4.2 then decide ((s2.2.length:Int)<32)else false then
        need (zB s2.2.length 1 48)<|
        some (LX.out (s2.1,s2.2++[y4.1]))
       else
        some (LX.out (s2.1,s2.2))) fun j5=>
     some (LO.again (w64 (j5.1+1),j5.2))
    else
     some (LO.out s2.2):Int×List zV->Option (LO (Int×List zV) (List zV) _)) (0,[]) fun o6=>
  some (o6,0)
def jw(x:Str):Option (List zV×Int):=
 ze (QQ x) fun y1=>
 bif y1.2 != 0 then
  some ([],y1.2)
 else
  ze (parseF y1.1) fun y2=>
  bif y2.2 != 0 then
   some ([],y2.2)
  else
   ze (Al y2.1) fun y3=>
   some (y3.1,y3.2)
def ZK(x:Str):Option Int:=
 ze (strings_HasPrefix (x,[45])) fun y1=>
 bif y1 then
  some 2
 else
  some 1
def z8(x:Int×List UInt8):Option (List UInt8):=
 ze (zy (bif decide (x.1>32)then decide (x.1<127)else false) (ZA x.1) (default:Bool)) fun y1=>
 ze (zy (bif bif decide (x.1>32)then decide (x.1<127)else false then !y1 else false) (Tt x.1) (default:Bool)) fun y2=>
 bif bif bif bif decide (x.1>32)then decide (x.1<127)else false then !y1 else false then !y2 else false then
  ze (qg x.1) fun y3=>
  need (zB x.2.length 2 1)<|
  some (x.2++[(92:UInt8),y3])
 else
  need (zB x.2.length 1 1)<|
  ze (Xw ((wu64 x.1,16),x.2++[(92:UInt8)])) fun y4=>
  need (zB y4.length 1 1)<|
  some (y4++[(32:UInt8)])
def Rt(x:Str×Int):Option (List UInt8):=
 ZG (fun(s1:Int×List UInt8)=>
   bif decide (s1.1<(x.1.length:Int))then
    zO (X:=Int×List UInt8) (
      ze (geti x.1 s1.1) fun y2=>
      ze (Qa (y2.toNat:Int)) fun y3=>
      ze (zy (!(decide (s1.1>=x.2))&&y3) (ZA (y2.toNat:Int)) (default:Bool)) fun y4=>
      bif bif bif y3 then bif decide (s1.1>=x.2)then true else !y4 else false then bif x.2==0 then true else !(x.1==[45])else false then
       ze (qg (y2.toNat:Int)) fun y5=>
       need (zB s1.2.length 1 1)<|
       some (LX.out (s1.1,s1.2++[y5]))
      else
       ze (z8 ((y2.toNat:Int),s1.2)) fun y6=>
       some (LX.out (s1.1,y6))) fun j7=>
    some (LO.again (w64 (j7.1+1),j7.2))
   else
    some (LO.out s1.2):Int×List UInt8->Option (LO (Int×List UInt8) (List UInt8) _)) (0,[]) fun o8=>
 some o8
def Yr(x:Str):Option (Str×Int):=
 ze (zy (!(x==[])) (strings_IndexByte (x,0)) (default:Int)) fun y1=>
 bif bif x==[]then true else decide (y1>=0)then
  some ([],8)
 else
  ze (ZK x) fun y2=>
  ze (Rt (x,y2)) fun y3=>
  bif bif decide ((x.length:Int)>4000)then true else decide ((y3.length:Int)>4000)then
   some ([],28)
  else
   some (y3,0)
def qQ(x:(Str×Int)×List UInt8):Option (List UInt8):=
 ZG (fun(s1:Int×List UInt8)=>
   bif decide (s1.1<(x.1.1.length:Int))then
    zO (X:=Int×List UInt8) (
      ze (geti x.1.1 s1.1) fun y2=>
      ze (Qa (y2.toNat:Int)) fun y3=>
      ze (zy (!(decide (s1.1>=x.1.2))&&y3) (ZA (y2.toNat:Int)) (default:Bool)) fun y4=>
      bif bif bif y3 then bif decide (s1.1>=x.1.2)then true else !y4 else false then bif x.1.2==0 then true else !(x.1.1==[45])else false then
       ze (qg (y2.toNat:Int)) fun y5=>
       need (zB s1.2.length 1 1)<|
       some (LX.out (s1.1,s1.2++[y5]))
      else
       ze (z8 ((y2.toNat:Int),s1.2)) fun y6=>
       some (LX.out (s1.1,y6))) fun j7=>
    some (LO.again (w64 (j7.1+1),j7.2))
   else
    some (LO.out s1.2):Int×List UInt8->Option (LO (Int×List UInt8) (List UInt8) _)) (0,x.2) fun o8=>
 some o8
def Vx(x:Unit):Option Qz:=
 some (⟨[32],[60,33,45,45],[45,45,62],[58],[59],[44],[91],[93],[40],[41],[123],[125]⟩:Qz)
def qH(x:(Int×Bool)×List UInt8):Option (List UInt8):=
 zO (X:=Int×List UInt8) (
   bif decide (x.1.1<0)then
    need (zB x.2.length 1 1)<|
    some (LX.out (w64 (0 - x.1.1),x.2++[(45:UInt8)]))
   else
    some (LX.out (x.1.1,x.2))) fun j1=>
 ze (Yw ((w64 (Int.tdiv j1.1 1000),10),j1.2)) fun y2=>
 ze (bv (w64 (1000+Int.tmod j1.1 1000),10)) fun y3=>
 need (decide (1<=(y3.length:Int)))<|
 ze (jm (List.drop 1 y3,[48])) fun y4=>
 zO (X:=List UInt8) (
   bif !(y4==[])then
    need (zB y2.length 1 1)<|
    need (zB (y2++[(46:UInt8)]).length y4.length 1)<|
    some (LX.out (y2++[(46:UInt8)]++y4))
   else
    bif x.1.2 then
     need (zB y2.length ([46,48]:Str).length 1)<|
     some (LX.out (y2++([46,48]:Str)))
    else
     some (LX.out y2)) fun j5=>
 some j5
def Pt(x:zg×List UInt8):Option (List UInt8):=
 bif x.1.kind==1 then
  ze (ZK x.1.text) fun y1=>
  ze (qQ ((x.1.text,y1),x.2)) fun y2=>
  some y2
 else
  bif x.1.kind==2 then
   ze (ZK x.1.text) fun y3=>
   ze (qQ ((x.1.text,y3),x.2)) fun y4=>
   need (zB y4.length 1 1)<|
   some (y4++[(40:UInt8)])
  else
   bif x.1.kind==3 then
    need (zB x.2.length 1 1)<|
    ze (ZK x.1.text) fun y5=>
    ze (qQ ((x.1.text,y5),x.2++[(64:UInt8)])) fun y6=>
    some y6
   else
    bif x.1.kind==4 then
     zO (X:=Int×List UInt8) (
       bif x.1.flag then
        ze (ZK x.1.text) fun y7=>
        some (LX.out (y7,x.2))
       else
        some (LX.out (0,x.2))) fun j8=>
     need (zB j8.2.length 1 1)<|
     ze (qQ ((x.1.text,j8.1),j8.2++[(35:UInt8)])) fun y9=>
     some y9
    else
     bif x.1.kind==5 then
      need (zB x.2.length 1 1)<|
      need (decide (x.1.text.length<=maxLen))<|
      ZG (fun(s10:Int×List UInt8)=>
        bif decide (s10.1<(x.1.text.length:Int))then
         zO (X:=Int×List UInt8) (
           need (decide (0<=s10.1)&&decide (s10.1<(x.1.text.length:Int)))<|
           ze x.1.text[s10.1.toNat]? fun y11=>
           ze (strings_IndexByte ([10,12,13,34,92],(y11.toNat:Int))) fun y12=>
           bif decide (y12>=0)then
            ze (z8 ((y11.toNat:Int),s10.2)) fun y13=>
            some (LX.out (s10.1,y13))
           else
            ze (qg (y11.toNat:Int)) fun y14=>
            need (zB s10.2.length 1 1)<|
            some (LX.out (s10.1,s10.2++[y14]))) fun j15=>
         some (LO.again (w64 (j15.1+1),j15.2))
        else
         some (LO.out s10.2):Int×List UInt8->Option (LO (Int×List UInt8) (List UInt8) _)) (0,x.2++[(34:UInt8)]) fun o16=>
      need (zB o16.length 1 1)<|
      some (o16++[(34:UInt8)])
     else
      bif x.1.kind==7 then
       need (zB x.2.length ([117,114,108,40]:Str).length 1)<|
       need (decide (x.1.text.length<=maxLen))<|
       ZG (fun(s17:Int×List UInt8)=>
         bif decide (s17.1<(x.1.text.length:Int))then
          zO (X:=Int×List UInt8) (
            need (decide (0<=s17.1)&&decide (s17.1<(x.1.text.length:Int)))<|
            ze x.1.text[s17.1.toNat]? fun y18=>
            ze (zy (!(decide ((y18.toNat:Int)<=32))) (strings_IndexByte ([34,39,40,41,92,127],(y18.toNat:Int))) (default:Int)) fun y19=>
            bif bif decide ((y18.toNat:Int)<=32)then true else decide (y19>=0)then
             ze (z8 ((y18.toNat:Int),s17.2)) fun y20=>
             some (LX.out (s17.1,y20))
            else
             ze (qg (y18.toNat:Int)) fun y21=>
             need (zB s17.2.length 1 1)<|
             some (LX.out (s17.1,s17.2++[y21]))) fun j22=>
          some (LO.again (w64 (j22.1+1),j22.2))
         else
          some (LO.out s17.2):Int×List UInt8->Option (LO (Int×List UInt8) (List UInt8) _)) (0,x.2++([117,114,108,40]:Str)) fun o23=>
       need (zB o23.length 1 1)<|
       some (o23++[(41:UInt8)])
      else
       bif x.1.kind==9 then
        need (zB x.2.length x.1.text.length 1)<|
        some (x.2++x.1.text)
       else
        bif x.1.kind==10 then
         ze (qH ((x.1.num, !x.1.flag),x.2)) fun y24=>
         some y24
        else
         bif x.1.kind==11 then
          ze (qH ((x.1.num,false),x.2)) fun y25=>
          need (zB y25.length 1 1)<|
          some (y25++[(37:UInt8)])
         else
          bif x.1.kind==12 then
           ze (qH ((x.1.num, !x.1.flag),x.2)) fun y26=>
           ze (geti x.1.unit 0) fun y27=>
           need (decide (1<=(x.1.unit.length:Int))|| !(ibOr IntKind.u8 (y27.toNat:Int) 32==101))<|
           ze (zy (ibOr IntKind.u8 (y27.toNat:Int) 32==101) (Qm (List.drop 1 x.1.unit)) (default:Bool)) fun y28=>
           need (decide (1<=(x.1.unit.length:Int))|| !(bif ibOr IntKind.u8 (y27.toNat:Int) 32==101 then y28 else false))<|
           ze (zy (bif ibOr IntKind.u8 (y27.toNat:Int) 32==101 then y28 else false) (strings_HasPrefix (List.drop 1 x.1.unit,[45,45])) (default:Bool)) fun y29=>
           bif bif bif ibOr IntKind.u8 (y27.toNat:Int) 32==101 then y28 else false then !y29 else false then
            ze (geti x.1.unit 0) fun y30=>
            ze (z8 ((y30.toNat:Int),y26)) fun y31=>
            need (decide (1<=(x.1.unit.length:Int)))<|
            ze (qQ ((List.drop 1 x.1.unit,0),y31)) fun y32=>
            some y32
           else
            ze (ZK x.1.unit) fun y33=>
            ze (qQ ((x.1.unit,y33),y26)) fun y34=>
            some y34
          else
           ze (Vx ()) fun y35=>
           ze (geti [y35.e0,y35.e1,y35.e2,y35.e3,y35.e4,y35.e5,y35.e6,y35.e7,y35.e8,y35.e9,y35.e10,y35.e11] (wu8 (x.1.kind - 13))) fun y36=>
           need (zB x.2.length y36.length 1)<|
           some (x.2++y36)
def qN(x:List zg×List zg):Option Bool:=
 bif (x.1.length:Int) != (x.2.length:Int)then
  some false
 else
  ZG (fun(s1:Int)=>
    bif decide (s1<(x.1.length:Int))then
     ze (geti x.1 s1) fun y2=>
     ze (geti x.2 s1) fun y3=>
     bif !(y2.kind==y3.kind&&(y2.text==y3.text&&(y2.num==y3.num&&(y2.unit==y3.unit&&(y2.flag==y3.flag&&true)))))then
      some (LO.ret false)
     else
      some (LO.again (w64 (s1+1)))
    else
     some (LO.out ()):Int->Option (LO (Int) (Unit) _)) 0 fun o4=>
  some true
def Ht(x:List zg):Option (Str×Int):=
 ze (QB x) fun y1=>
 bif y1 != 0 then
  some ([],y1)
 else
  ZG (fun(s2:Int×List UInt8×List zw)=>
    bif decide (s2.1<(x.length:Int))then
     need (decide (0<=s2.1)&&decide (s2.1<=(x.length:Int)))<|
     ze (Q0 (List.drop s2.1.toNat x)) fun y3=>
     need (decide (0<=s2.1)&&(decide (s2.1<=w64 (s2.1+y3))&&decide (w64 (s2.1+y3)<=(x.length:Int))))<|
     ZG (fun(s4:Int×List UInt8)=>
       bif decide (s4.1<((List.drop s2.1.toNat (List.take (w64 (s2.1+y3)).toNat x)).length:Int))then
        ze (geti (List.drop s2.1.toNat (List.take (w64 (s2.1+y3)).toNat x)) s4.1) fun y5=>
        ze (Pt (y5,s4.2)) fun y6=>
        some (LO.again (w64 (s4.1+1),y6))
       else
        some (LO.out s4.2):Int×List UInt8->Option (LO (Int×List UInt8) (List UInt8) _)) (0,[]) fun o7=>
     zO (X:=Int×List UInt8×List zw×List UInt8) (
       ze (geti x s2.1) fun y8=>
       bif bif y8.kind==9 then y3==2 else false then
        some (LX.out (s2.1,s2.2.1,s2.2.2,[(92:UInt8),(10:UInt8)]))
       else
        some (LX.out (s2.1,s2.2.1,s2.2.2,o7))) fun j9=>
     zO (X:=Int×List UInt8×List zw×zw) (
       bif decide (w64 ((j9.2.2.1.length:Int) - 4)>=0)then
        need (decide (0<=w64 ((j9.2.2.1.length:Int) - 4))&&decide (w64 ((j9.2.2.1.length:Int) - 4)<(j9.2.2.1.length:Int)))<|
        ze (j9.2.2.1[(w64 ((j9.2.2.1.length:Int) - 4)).toNat]?) fun y10=>
        some (LX.out (j9.1,j9.2.1,j9.2.2.1,y10))
       else
        some (LX.out (j9.1,j9.2.1,j9.2.2.1,(⟨0,0⟩:zw)))) fun j11=>
     need (decide (0<=j11.2.2.2.at_)&&decide (j11.2.2.2.at_<=(j11.2.1.length:Int)))<|
     need (decide (j11.2.2.2.at_.toNat+(j11.2.1.length - j11.2.2.2.at_.toNat)<=j11.2.1.length))<|
     need (ug (List.take (j11.2.1.length - j11.2.2.2.at_.toNat) (List.drop j11.2.2.2.at_.toNat j11.2.1)).length j9.2.2.2.length)<|
     ze (QQ (List.take (j11.2.1.length - j11.2.2.2.at_.toNat) (List.drop j11.2.2.2.at_.toNat j11.2.1)++j9.2.2.2)) fun y12=>
     zO (X:=Int×List zw×List UInt8) (
       need (decide (0<=j11.2.2.2.token)&&(decide (j11.2.2.2.token<=w64 (j11.1+y3))&&decide (w64 (j11.1+y3)<=(x.length:Int)))|| !(!(y12.2 != 0)))<|
       ze (zy (!(y12.2 != 0)) (qN (y12.1,List.drop j11.2.2.2.token.toNat (List.take (w64 (j11.1+y3)).toNat x))) (default:Bool)) fun y13=>
       bif bif y12.2 != 0 then true else !y13 then
        need (zB j11.2.1.length ([47,42,42,47]:Str).length 1)<|
        some (LX.out (j11.1,j11.2.2.1,j11.2.1++([47,42,42,47]:Str)))
       else
        some (LX.out (j11.1,j11.2.2.1,j11.2.1))) fun j14=>
     need (zB j14.2.1.length 1 16)<|
     need (zB j14.2.2.length j9.2.2.2.length 1)<|
     bif decide (((j14.2.2++j9.2.2.2).length:Int)>4000)then
      some (LO.ret ([],28))
     else
      some (LO.again (w64 (j14.1+y3),j14.2.2++j9.2.2.2,j14.2.1++[(⟨j14.1,(j14.2.2.length:Int)⟩:zw)]))
    else
     some (LO.out s2.2.1):Int×List UInt8×List zw->Option (LO (Int×List UInt8×List zw) (List UInt8) _)) (0,[],[]) fun o15=>
  some (o15,0)
def Us(x:List zb):Option (Str×Int):=
 ze (ZM x) fun y1=>
 bif y1 != 0 then
  some ([],y1)
 else
  ze (qR x) fun y2=>
  ze (Ht y2) fun y3=>
  some (y3.1,y3.2)
def kr(x:zV):Option (Str×Int):=
 ze (QY x) fun y1=>
 bif y1 != 0 then
  some ([],y1)
 else
  ze (Yr x.name) fun y2=>
  bif y2.2 != 0 then
   some ([],y2.2)
  else
   ze (Us x.value) fun y3=>
   bif y3.2 != 0 then
    some ([],y3.2)
   else
    need (ug y2.1.length ([58,32]:Str).length)<|
    need (ug (y2.1++([58,32]:Str)).length y3.1.length)<|
    zO (X:=Str) (
      bif x.important then
       need (ug (y2.1++([58,32]:Str)++y3.1).length ([32,33,105,109,112,111,114,116,97,110,116]:Str).length)<|
       some (LX.out (y2.1++([58,32]:Str)++y3.1++([32,33,105,109,112,111,114,116,97,110,116]:Str)))
      else
       some (LX.out (y2.1++([58,32]:Str)++y3.1))) fun j4=>
    bif decide ((j4.length:Int)>4000)then
     some ([],28)
    else
     some (j4,0)
def mr(x:List zV):Option (Str×Int):=
 bif decide ((x.length:Int)>32)then
  some ([],4)
 else
  ZG (fun(s1:(Bool×Int)×List Str)=>
    bif decide (s1.1.2<(x.length:Int))then
     ze (geti x s1.1.2) fun y2=>
     ze (kr y2) fun y3=>
     bif y3.2==8 then
      some (LO.ret ([],y3.2))
     else
      need (zB s1.2.length 1 16)<|
      some (LO.again ((bif s1.1.1 then true else y3.2 != 0,w64 (s1.1.2+1)),s1.2++[y3.1]))
    else
     some (LO.out (s1.1.1,s1.2)):(Bool×Int)×List Str->Option (LO ((Bool×Int)×List Str) (Bool×List Str) _)) ((false,0),[]) fun o4=>
  ze (Nk (o4.2,[59,32])) fun y5=>
  bif bif o4.1 then true else decide ((y5.length:Int)>4000)then
   some ([],28)
  else
   some (y5,0)
def Yx(x:Str×Str×Int):Option Bool:=
 ze (jw x.1) fun y1=>
 ze (mr y1.1) fun y2=>
 some (bif bif bif y1.2==0 then y2.2==0 else false then y2.1==x.2.1 else false then(y1.1.length:Int)==x.2.2 else false)
def Io(x:Unit):Option Bool:=
 ze (Yx ([67,79,76,79,82,32,58,32,114,101,100,32,33,32,105,109,112,111,114,116,97,110,116,59,32,120,59,32,45,45,89,58,59,32,109,97,114,103,105,110,58,49,112,120,41],[99,111,108,111,114,58,32,114,101,100,32,33,105,109,112,111,114,116,97,110,116,59,32,45,45,89,58,32],2)) fun y1=>
 some y1
def Yj(x:List zb):Option (zV×Bool×Int):=
 ze (ZM x) fun y1=>
 bif y1 != 0 then
  some ((⟨[],[],false⟩:zV),false,y1)
 else
  ze (Kl x) fun y2=>
  some (y2.1,y2.2,0)
def Gy(QD:List zb×List zb->Option Bool)(x:List zb×List zb):Option Bool:=
 bif (x.1.length:Int) != (x.2.length:Int)then
  some false
 else
  ZG (fun(s1:Int)=>
    bif decide (s1<(x.1.length:Int))then
     ze (geti x.1 s1) fun y2=>
     ze (geti x.2 s1) fun y3=>
     ze (zy (!(!(y2.token.kind==y3.token.kind&&(y2.token.text==y3.token.text&&(y2.token.num==y3.token.num&&(y2.token.unit==y3.token.unit&&(y2.token.flag==y3.token.flag&&true))))))) (geti x.1 s1) (default:zb)) fun y4=>
     ze (zy (!(!(y2.token.kind==y3.token.kind&&(y2.token.text==y3.token.text&&(y2.token.num==y3.token.num&&(y2.token.unit==y3.token.unit&&(y2.token.flag==y3.token.flag&&true))))))) (geti x.2 s1) (default:zb)) fun y5=>
     ze (zy (!(!(y2.token.kind==y3.token.kind&&(y2.token.text==y3.token.text&&(y2.token.num==y3.token.num&&(y2.token.unit==y3.token.unit&&(y2.token.flag==y3.token.flag&&true))))))) (QD (y4.list,y5.list)) (default:Bool)) fun y6=>
     bif bif !(y2.token.kind==y3.token.kind&&(y2.token.text==y3.token.text&&(y2.token.num==y3.token.num&&(y2.token.unit==y3.token.unit&&(y2.token.flag==y3.token.flag&&true)))))then true else !y6 then
      some (LO.ret false)
     else
      some (LO.again (w64 (s1+1)))
    else
     some (LO.out ()):Int->Option (LO (Int) (Unit) _)) 0 fun o7=>
  some true
def QD:List zb×List zb->Option Bool:=recE (Gy)
def Qs(x:zV×zV):Option Bool:=
 ze (zy (bif x.1.name==x.2.name then x.1.important==x.2.important else false) (QD (x.1.value,x.2.value)) (default:Bool)) fun y1=>
 some (bif bif x.1.name==x.2.name then x.1.important==x.2.important else false then y1 else false)
def Ws(x:List zV×List zV):Option Bool:=
 bif (x.1.length:Int) != (x.2.length:Int)then
  some false
 else
  ZG (fun(s1:Int)=>
    bif decide (s1<(x.1.length:Int))then
     ze (geti x.1 s1) fun y2=>
     need (decide (0<=s1)&&decide (s1<(x.2.length:Int)))<|
     ze x.2[s1.toNat]? fun y3=>
     ze (Qs (y2,y3)) fun y4=>
     bif !y4 then
      some (LO.ret false)
     else
      some (LO.again (w64 (s1+1)))
    else
     some (LO.out ()):Int->Option (LO (Int) (Unit) _)) 0 fun o5=>
  some true
def Uy(x:List zb):Option Bool:=
 ze (Yt x) fun y1=>
 ze (zy (!y1) (ut x) (default:Int)) fun y2=>
 bif bif y1 then true else y2 != 0 then
  ze (Io ()) fun y3=>
  some y3
 else
  ze (Sl (x,17)) fun y4=>
  ze (Al x) fun y5=>
  bif bif y4.2 != 0 then true else y5.2 != 0 then
   some false
  else
   ZG (fun(s6:Int×List zV)=>
     bif decide (s6.1<(y4.1.length:Int))then
      zO (X:=Int×List zV) (
        ze (geti y4.1 s6.1) fun y7=>
        ze (Yj y7) fun y8=>
        ze (geti y4.1 s6.1) fun y9=>
        need (zB 1 y9.length 80)<|
        need (zB ([(⟨(⟨13,[],0,[],false⟩:zg),[]⟩:zb)]++y9).length 1 80)<|
        ze (Yj ([(⟨(⟨13,[],0,[],false⟩:zg),[]⟩:zb)]++y9++[(⟨(⟨13,[],0,[],false⟩:zg),[]⟩:zb)])) fun y10=>
        ze (zy (!(bif bif y8.2.2 != 0 then true else y10.2.2 != 0 then true else !(y8.2.1==y10.2.1))) (Qs (y8.1,y10.1)) (default:Bool)) fun y11=>
        ze (zy (!y8.2.1&& !(bif bif bif y8.2.2 != 0 then true else y10.2.2 != 0 then true else !(y8.2.1==y10.2.1)then true else !y11)) (Qs (y8.1,(⟨[],[],false⟩:zV))) (default:Bool)) fun y12=>
        bif bif bif bif bif y8.2.2 != 0 then true else y10.2.2 != 0 then true else !(y8.2.1==y10.2.1)then true else !y11 then true else bif !y8.2.1 then !y12 else false then
         some (LX.ret (LO.ret false))
        else
         bif bif y8.2.1 then decide ((s6.2.length:Int)<32)else false then
          need (zB s6.2.length 1 48)<|
          some (LX.out (s6.1,s6.2++[y8.1]))
         else
          some (LX.out (s6.1,s6.2))) fun j13=>
      some (LO.again (w64 (j13.1+1),j13.2))
     else
      some (LO.out s6.2):Int×List zV->Option (LO (Int×List zV) (List zV) _)) (0,[]) fun o14=>
   ze (Ws (y5.1,o14)) fun y15=>
   ze (zy y15 (Io ()) (default:Bool)) fun y16=>
   some (bif y15 then y16 else false)
end Go.Lv.VT
end
