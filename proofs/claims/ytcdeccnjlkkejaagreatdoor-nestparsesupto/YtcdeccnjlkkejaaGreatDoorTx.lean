/- Texts. -/
import Derived.Test.YtcdeccnjlkkejaaGreatDoorTy
import Derived.Test.YtcdeccnjlkkejaaGreatDoorLf
noncomputable section
set_option linter.unusedSimpArgs false
set_option linter.unusedVariables false
namespace Go.Lv.VT
set_option maxRecDepth 100000
def Vq(qC:List zg×Int->Option Int)(x:List zg×Int):Option Int:=
 Zg (fun(s1:Int×Int)=>
   bif bif decide (s1.2<(x.1.length:Int))then decide (s1.1<=x.2)else false then
    ze (geti x.1 s1.2) fun y2=>
    ze (geti x.1 s1.2) fun y3=>
    ze (geti x.1 s1.2) fun y4=>
    ze (qC (y4.list,w64 (x.2 - s1.1))) fun y5=>
    some (LO.again (w64 (s1.1+w64 (w64 (w64 (1+(y2.token.text.length:Int))+(y3.token.unit.length:Int))+y5)),w64 (s1.2+1)))
   else
    some (LO.out s1.1):Int×Int->Option (LO (Int×Int) (Int) _)) (0,0) fun o6=>
 some o6
def qC:List zg×Int->Option Int:=recE (Vq)
def qa(x:Int):Option Int:=
 bif x==19 then
  some 20
 else
  zX (X:=Bool) (
    bif x==21 then
     some (LX.out (x==21))
    else
     some (LX.out (x==2))) fun j1=>
  bif j1 then
   some 22
  else
   bif x==23 then
    some 24
   else
    some 0
def EA(qK:List zg->Option Int)(x:List zg):Option Int:=
 Zg (fun(s1:Int×Int)=>
   bif decide (s1.2<(x.length:Int))then
    zX (X:=Int×Int) (
      ze (geti x s1.2) fun y2=>
      ze (qa y2.token.kind) fun y3=>
      bif y3 != 0 then
       ze (geti x s1.2) fun y4=>
       ze (qK y4.list) fun y5=>
       some (LX.out (if w64 (1+y5)>s1.1 then w64 (1+y5)else s1.1,s1.2))
      else
       some (LX.out (s1.1,s1.2))) fun j6=>
    some (LO.again (j6.1,w64 (j6.2+1)))
   else
    some (LO.out s1.1):Int×Int->Option (LO (Int×Int) (Int) _)) (0,0) fun o7=>
 some o7
def qK:List zg->Option Int:=recE (EA)
def tu(x:List zg):Option Bool:=
 ze (qC (x,300)) fun y1=>
 ze (zt (!(decide (y1>300))) (qK x) (default:Int)) fun y2=>
 some (bif decide (y1>300)then true else decide (y2>40))
def KA(Zk:List zg->Option (List zb))(x:List zg):Option (List zb):=
 Zg (fun(s1:Int×List zb)=>
   bif decide (s1.1<(x.length:Int))then
    zX (X:=Int×List zb) (
      ze (geti x s1.1) fun y2=>
      need (zQ s1.2.length 1 56)<|
      ze (geti x s1.1) fun y3=>
      ze (qa y3.token.kind) fun y4=>
      bif y4 != 0 then
       ze (geti x s1.1) fun y5=>
       ze (Zk y5.list) fun y6=>
       need (zQ (s1.2++[y2.token]).length y6.length 56)<|
       need (zQ (s1.2++[y2.token]++y6).length 1 56)<|
       some (LX.out (s1.1,s1.2++[y2.token]++y6++[(⟨y4,[],0,[],false⟩:zb)]))
      else
       some (LX.out (s1.1,s1.2++[y2.token]))) fun j7=>
    some (LO.again (w64 (j7.1+1),j7.2))
   else
    some (LO.out s1.2):Int×List zb->Option (LO (Int×List zb) (List zb) _)) (0,[]) fun o8=>
 some o8
def Zk:List zg->Option (List zb):=recE (KA)
def JA(qy:List zg×Int->Option Bool)(x:List zg×Int):Option Bool:=
 Zg (fun(s1:Int)=>
   bif decide (s1<(x.1.length:Int))then
    ze (geti x.1 s1) fun y2=>
    ze (qa y2.token.kind) fun y3=>
    ze (zt (y3==0) (geti x.1 s1) (default:zg)) fun y4=>
    ze (zt (x.2 != 0&& !(bif y3==0 then decide ((y4.list.length:Int)>0)else false)) (geti x.1 s1) (default:zg)) fun y5=>
    ze (zt (y3 != 0&& !(bif bif y3==0 then decide ((y4.list.length:Int)>0)else false then true else bif x.2 != 0 then y5.token.kind==x.2 else false)) (geti x.1 s1) (default:zg)) fun y6=>
    ze (zt (y3 != 0&& !(bif bif y3==0 then decide ((y4.list.length:Int)>0)else false then true else bif x.2 != 0 then y5.token.kind==x.2 else false)) (qy (y6.list,y3)) (default:Bool)) fun y7=>
    bif bif bif bif y3==0 then decide ((y4.list.length:Int)>0)else false then true else bif x.2 != 0 then y5.token.kind==x.2 else false then true else bif y3 != 0 then !y7 else false then
     some (LO.ret false)
    else
     some (LO.again (w64 (s1+1)))
   else
    some (LO.out ()):Int->Option (LO (Int) (Unit) _)) 0 fun o8=>
 some true
def qy:List zg×Int->Option Bool:=recE (JA)
def Gn(x:List zg):Option Int:=
 ze (qK x) fun y1=>
 bif decide (y1>16)then
  some 20
 else
  ze (Zk x) fun y2=>
  bif decide ((y2.length:Int)>1500)then
   some 4
  else
   ze (qy (x,0)) fun y3=>
   bif !y3 then
    some 8
   else
    some 0
def stringslite_HasPrefix(x:Str×Str):Option Bool:=
 need (decide (0<=(x.2.length:Int))&&decide ((x.2.length:Int)<=(x.1.length:Int))|| !(decide ((x.1.length:Int)>=(x.2.length:Int))))<|
 some (bif decide ((x.1.length:Int)>=(x.2.length:Int))then List.take x.2.length x.1==x.2 else false)
def strings_HasPrefix(x:Str×Str):Option Bool:=
 ze (stringslite_HasPrefix (x.1,x.2)) fun y1=>
 some y1
def Zl(x:za):Option za:=
 Zg (fun(s1:za)=>
   need (decide (0<=s1.at_)&&decide (s1.at_<=(s1.s.length:Int)))<|
   ze (strings_HasPrefix (List.drop s1.at_.toNat s1.s,[47,42])) fun y2=>
   bif y2 then
    need (decide (0<=w64 (s1.at_+2))&&decide (w64 (s1.at_+2)<=(s1.s.length:Int)))<|
    ze (si (List.drop (w64 (s1.at_+2)).toNat s1.s,[42,47])) fun y3=>
    bif decide (y3<0)then
     some (LO.ret (⟨s1.s,(s1.s.length:Int)⟩:za))
    else
     some (LO.again (⟨s1.s,w64 (s1.at_+w64 (y3+4))⟩:za))
   else
    some (LO.out s1):za->Option (LO (za) (za) _)) x fun o4=>
 some o4
def zf(x:Int×za):Option Int:=
 bif decide (w64 (x.2.at_+x.1)<(x.2.s.length:Int))then
  ze (geti x.2.s (w64 (x.2.at_+x.1))) fun y1=>
  some (w64 (y1.toNat:Int))
 else
  some (-1)
def qg(x:Int):Option Bool:=
 some (bif bif x==32 then true else x==9 then true else x==10)
def zZ(x:za):Option za:=
 Zg (fun(s1:za)=>
   ze (zf (0,s1)) fun y2=>
   ze (qg y2) fun y3=>
   bif y3 then
    some (LO.again (⟨s1.s,w64 (s1.at_+1)⟩:za))
   else
    some (LO.out s1):za->Option (LO (za) (za) _)) x fun o4=>
 some o4
def Z4(x:Int):Option (List UInt8):=
 bif decide (wu32 x<=2047)then
  ze (ZO (ibOr IntKind.u8 192 (wu8 (Vg IntKind.i32 x 6)))) fun y1=>
  ze (ZO (ibOr IntKind.u8 128 (Bh IntKind.u8 (wu8 x) 63))) fun y2=>
  need (zQ 0 2 1)<|
  some [y1,y2]
 else
  zX (X:=Bool) (
    bif decide (wu32 x<55296)then
     some (LX.out (decide (wu32 x<55296)))
    else
     some (LX.out (bif decide (57343<wu32 x)then decide (wu32 x<=65535)else false))) fun j3=>
  bif j3 then
   ze (ZO (ibOr IntKind.u8 224 (wu8 (Vg IntKind.i32 x 12)))) fun y4=>
   ze (ZO (ibOr IntKind.u8 128 (Bh IntKind.u8 (wu8 (Vg IntKind.i32 x 6)) 63))) fun y5=>
   ze (ZO (ibOr IntKind.u8 128 (Bh IntKind.u8 (wu8 x) 63))) fun y6=>
   need (zQ 0 3 1)<|
   some [y4,y5,y6]
  else
   bif bif decide (wu32 x>65535)then decide (wu32 x<=1114111)else false then
    ze (ZO (ibOr IntKind.u8 240 (wu8 (Vg IntKind.i32 x 18)))) fun y7=>
    ze (ZO (ibOr IntKind.u8 128 (Bh IntKind.u8 (wu8 (Vg IntKind.i32 x 12)) 63))) fun y8=>
    ze (ZO (ibOr IntKind.u8 128 (Bh IntKind.u8 (wu8 (Vg IntKind.i32 x 6)) 63))) fun y9=>
    ze (ZO (ibOr IntKind.u8 128 (Bh IntKind.u8 (wu8 x) 63))) fun y10=>
    need (zQ 0 4 1)<|
    some [y7,y8,y9,y10]
   else
    need (zQ 0 3 1)<|
    some [(239:UInt8),(191:UInt8),(189:UInt8)]
def ZV(x:Int):Option (List UInt8):=
 bif decide (wu32 x<=127)then
  ze (ZO (wu8 x)) fun y1=>
  need (zQ 0 1 1)<|
  some [y1]
 else
  ze (Z4 x) fun y2=>
  some y2
def ZM(x:Int×Int×Int):Option Bool:=
 some (bif decide (x.2.1<=x.1)then decide (x.1<=x.2.2)else false)
def Zq(x:Int):Option Bool:=
 ze (ZM (x,48,57)) fun y1=>
 some y1
def Vk(x:Int):Option Int:=
 ze (Zq x) fun y1=>
 bif y1 then
  some (w64 (x - 48))
 else
  ze (zt (x != (-1)) (ZM (ibOr IntKind.i64 x 32,97,102)) (default:Bool)) fun y2=>
  bif bif bif bif x != (-1)then y2 else false then decide (x>64)else false then decide (x<128)else false then
   some (w64 (w64 (ibOr IntKind.i64 x 32 - 97)+10))
  else
   some (-1)
def ZH(x:za):Option (za×List UInt8):=
 ze (zf (0,(⟨x.s,w64 (x.at_+1)⟩:za))) fun y1=>
 bif y1==(-1)then
  ze (ZV 65533) fun y2=>
  some ((⟨x.s,w64 (x.at_+1)⟩:za),y2)
 else
  ze (Vk y1) fun y3=>
  bif decide (y3<0)then
   ze (ZO (wu8 y1)) fun y4=>
   need (zQ 0 1 1)<|
   some ((⟨x.s,w64 (w64 (x.at_+1)+1)⟩:za),[y4])
  else
   Zg (fun(s5:(Int×Int)×za)=>
     bif decide (s5.1.2<6)then
      ze (zf (0,s5.2)) fun y6=>
      ze (Vk y6) fun y7=>
      bif decide (y7<0)then
       some (LO.out (s5.1.1,s5.2))
      else
       some (LO.again ((ibOr IntKind.i64 (tq IntKind.i64 s5.1.1 4) y7,w64 (s5.1.2+1)),(⟨s5.2.s,w64 (s5.2.at_+1)⟩:za)))
     else
      some (LO.out (s5.1.1,s5.2)):(Int×Int)×za->Option (LO ((Int×Int)×za) (Int×za) _)) ((0,0),(⟨x.s,w64 (x.at_+1)⟩:za)) fun o8=>
   zX (X:=Int×za) (
     ze (zf (0,o8.2)) fun y9=>
     ze (qg y9) fun y10=>
     bif y10 then
      some (LX.out (o8.1,(⟨o8.2.s,w64 (o8.2.at_+1)⟩:za)))
     else
      some (LX.out (o8.1,o8.2))) fun j11=>
   zX (X:=Int) (
     bif j11.1==0 then
      some (LX.out 65533)
     else
      some (LX.out j11.1)) fun j12=>
   ze (ZV (w32 j12)) fun y13=>
   some (j11.2,y13)
def Z5(x:Int×List UInt8):Option (List UInt8):=
 bif decide (wu32 x.1<=2047)then
  ze (ZO (ibOr IntKind.u8 192 (wu8 (Vg IntKind.i32 x.1 6)))) fun y1=>
  ze (ZO (ibOr IntKind.u8 128 (Bh IntKind.u8 (wu8 x.1) 63))) fun y2=>
  need (zQ x.2.length 2 1)<|
  some (x.2++[y1,y2])
 else
  zX (X:=Bool×List UInt8) (
    bif decide (wu32 x.1<55296)then
     some (LX.out (decide (wu32 x.1<55296),x.2))
    else
     some (LX.out (bif decide (57343<wu32 x.1)then decide (wu32 x.1<=65535)else false,x.2))) fun j3=>
  bif j3.1 then
   ze (ZO (ibOr IntKind.u8 224 (wu8 (Vg IntKind.i32 x.1 12)))) fun y4=>
   ze (ZO (ibOr IntKind.u8 128 (Bh IntKind.u8 (wu8 (Vg IntKind.i32 x.1 6)) 63))) fun y5=>
   ze (ZO (ibOr IntKind.u8 128 (Bh IntKind.u8 (wu8 x.1) 63))) fun y6=>
   need (zQ j3.2.length 3 1)<|
   some (j3.2++[y4,y5,y6])
  else
   bif bif decide (wu32 x.1>65535)then decide (wu32 x.1<=1114111)else false then
    ze (ZO (ibOr IntKind.u8 240 (wu8 (Vg IntKind.i32 x.1 18)))) fun y7=>
    ze (ZO (ibOr IntKind.u8 128 (Bh IntKind.u8 (wu8 (Vg IntKind.i32 x.1 12)) 63))) fun y8=>
    ze (ZO (ibOr IntKind.u8 128 (Bh IntKind.u8 (wu8 (Vg IntKind.i32 x.1 6)) 63))) fun y9=>
    ze (ZO (ibOr IntKind.u8 128 (Bh IntKind.u8 (wu8 x.1) 63))) fun y10=>
    need (zQ j3.2.length 4 1)<|
    some (j3.2++[y7,y8,y9,y10])
   else
    need (zQ j3.2.length 3 1)<|
    some (j3.2++[(239:UInt8),(191:UInt8),(189:UInt8)])
def ZW(x:Int×List UInt8):Option (List UInt8):=
 bif decide (wu32 x.1<=127)then
  ze (ZO (wu8 x.1)) fun y1=>
  need (zQ x.2.length 1 1)<|
  some (x.2++[y1])
 else
  ze (Z5 (x.1,x.2)) fun y2=>
  some y2
def zV(x:za×List UInt8):Option (za×List UInt8):=
 ze (zf (0,(⟨x.1.s,w64 (x.1.at_+1)⟩:za))) fun y1=>
 bif y1==(-1)then
  ze (ZW (65533,x.2)) fun y2=>
  some ((⟨x.1.s,w64 (x.1.at_+1)⟩:za),y2)
 else
  ze (Vk y1) fun y3=>
  bif decide (y3<0)then
   ze (ZO (wu8 y1)) fun y4=>
   need (zQ x.2.length 1 1)<|
   some ((⟨x.1.s,w64 (w64 (x.1.at_+1)+1)⟩:za),x.2++[y4])
  else
   Zg (fun(s5:(Int×Int)×za)=>
     bif decide (s5.1.2<6)then
      ze (zf (0,s5.2)) fun y6=>
      ze (Vk y6) fun y7=>
      bif decide (y7<0)then
       some (LO.out (s5.1.1,s5.2))
      else
       some (LO.again ((ibOr IntKind.i64 (tq IntKind.i64 s5.1.1 4) y7,w64 (s5.1.2+1)),(⟨s5.2.s,w64 (s5.2.at_+1)⟩:za)))
     else
      some (LO.out (s5.1.1,s5.2)):(Int×Int)×za->Option (LO ((Int×Int)×za) (Int×za) _)) ((0,0),(⟨x.1.s,w64 (x.1.at_+1)⟩:za)) fun o8=>
   zX (X:=Int×za×List UInt8) (
     ze (zf (0,o8.2)) fun y9=>
     ze (qg y9) fun y10=>
     bif y10 then
      some (LX.out (o8.1,(⟨o8.2.s,w64 (o8.2.at_+1)⟩:za),x.2))
     else
      some (LX.out (o8.1,o8.2,x.2))) fun j11=>
   zX (X:=Int×List UInt8) (
     bif j11.1==0 then
      some (LX.out (65533,j11.2.2))
     else
      some (LX.out (j11.1,j11.2.2))) fun j12=>
   ze (ZW (w32 j12.1,j12.2)) fun y13=>
   some (j11.2.1,y13)
def qj(x:za):Option (zb×za):=
 ze (zf (0,x)) fun y1=>
 Zg (fun(s2:za×zb×List UInt8)=>
   ze (zf (0,s2.1)) fun y3=>
   bif y3==(-1)then
    some (LO.out (s2.1,s2.2.1,s2.2.2))
   else
    bif y3==y1 then
     some (LO.out ((⟨s2.1.s,w64 (s2.1.at_+1)⟩:za),s2.2.1,s2.2.2))
    else
     bif y3==10 then
      some (LO.ret ((⟨6,[],0,[],false⟩:zb),s2.1))
     else
      ze (zt (y3==92) (zf (1,s2.1)) (default:Int)) fun y4=>
      ze (zt (!(y4==(-1))&&y3==92) (zf (1,s2.1)) (default:Int)) fun y5=>
      bif bif y3==92 then bif y4==(-1)then true else y5==10 else false then
       some (LO.again ((⟨s2.1.s,if(s2.1.s.length:Int)<w64 (s2.1.at_+2)then(s2.1.s.length:Int)else w64 (s2.1.at_+2)⟩:za),s2.2.1,s2.2.2))
      else
       bif y3==92 then
        ze (zV (s2.1,s2.2.2)) fun y6=>
        some (LO.again (y6.1,s2.2.1,y6.2))
       else
        ze (ZO (wu8 y3)) fun y7=>
        need (zQ s2.2.2.length 1 1)<|
        some (LO.again ((⟨s2.1.s,w64 (s2.1.at_+1)⟩:za),s2.2.1,s2.2.2++[y7])):za×zb×List UInt8->Option (LO (za×zb×List UInt8) (za×zb×List UInt8) _)) ((⟨x.s,w64 (x.at_+1)⟩:za),(⟨0,[],0,[],false⟩:zb),[]) fun o8=>
 some ((⟨5,o8.2.2,0,[],false⟩:zb),o8.1)
def En(x:Int):Option Bool:=
 ze (ZM (ibOr IntKind.i64 x 32,97,122)) fun y1=>
 some (bif bif bif bif y1 then decide (x<128)else false then decide (x>64)else false then true else x==95 then true else decide (x>=128))
def Uq(x:Int):Option Bool:=
 ze (En x) fun y1=>
 ze (zt (!y1) (Zq x) (default:Bool)) fun y2=>
 some (bif bif y1 then true else y2 then true else x==45)
def zu(x:Int×za):Option Bool:=
 ze (zf (x.1,x.2)) fun y1=>
 ze (zt (y1==92) (zf (w64 (x.1+1),x.2)) (default:Int)) fun y2=>
 some (bif y1==92 then y2 != 10 else false)
def zN(x:Int×za):Option Bool:=
 ze (zf (x.1,x.2)) fun y1=>
 bif y1 != 45 then
  ze (zf (x.1,x.2)) fun y2=>
  ze (En y2) fun y3=>
  ze (zt (!y3) (zu (x.1,x.2)) (default:Bool)) fun y4=>
  some (bif y3 then true else y4)
 else
  ze (zf (w64 (x.1+1),x.2)) fun y5=>
  ze (En y5) fun y6=>
  ze (zt (!y6) (zf (w64 (x.1+1),x.2)) (default:Int)) fun y7=>
  ze (zt (!(bif y6 then true else y7==45)) (zu (w64 (x.1+1),x.2)) (default:Bool)) fun y8=>
  some (bif bif y6 then true else y7==45 then true else y8)
def zS(x:za):Option (Str×za):=
 Zg (fun(s1:za×List UInt8)=>
   ze (zf (0,s1.1)) fun y2=>
   ze (Uq y2) fun y3=>
   bif y3 then
    ze (ZO (wu8 y2)) fun y4=>
    need (zQ s1.2.length 1 1)<|
    some (LO.again ((⟨s1.1.s,w64 (s1.1.at_+1)⟩:za),s1.2++[y4]))
   else
    ze (zt (y2 != (-1)) (zu (0,s1.1)) (default:Bool)) fun y5=>
    bif bif y2 != (-1)then y5 else false then
     ze (zV (s1.1,s1.2)) fun y6=>
     some (LO.again (y6.1,y6.2))
    else
     some (LO.ret (s1.2,s1.1)):za×List UInt8->Option (LO (za×List UInt8) (Unit) _)) (x,[]) fun o7=>
 none
def Zr(x:za):Option Bool:=
 zX (X:=Int) (
   ze (zf (0,x)) fun y1=>
   bif bif y1==43 then true else y1==45 then
    some (LX.out 1)
   else
    some (LX.out 0)) fun j2=>
 zX (X:=Int) (
   ze (zf (j2,x)) fun y3=>
   bif y3==46 then
    some (LX.out (w64 (j2+1)))
   else
    some (LX.out j2)) fun j4=>
 ze (zf (j4,x)) fun y5=>
 ze (Zq y5) fun y6=>
 some y6
def zW(x:za):Option za:=
 Zg (fun(s1:za)=>
   ze (zf (0,s1)) fun y2=>
   ze (Zq y2) fun y3=>
   bif y3 then
    some (LO.again (⟨s1.s,w64 (s1.at_+1)⟩:za))
   else
    some (LO.out s1):za->Option (LO (za) (za) _)) x fun o4=>
 some o4
def qb(x:za):Option (Bool×za):=
 zX (X:=za) (
   ze (zf (0,x)) fun y1=>
   bif bif y1==43 then true else y1==45 then
    some (LX.out (⟨x.s,w64 (x.at_+1)⟩:za))
   else
    some (LX.out x)) fun j2=>
 ze (zW j2) fun y3=>
 zX (X:=Bool×za) (
   ze (zf (0,y3)) fun y4=>
   ze (zt (y4==46) (zf (1,y3)) (default:Int)) fun y5=>
   ze (zt (y4==46) (Zq y5) (default:Bool)) fun y6=>
   bif bif y4==46 then y6 else false then
    ze (zW (⟨y3.s,w64 (y3.at_+1)⟩:za)) fun y7=>
    some (LX.out (false,y7))
   else
    some (LX.out (true,y3))) fun j8=>
 zX (X:=Bool×za) (
   ze (zf (0,j8.2)) fun y9=>
   ze (zt (!(y9==101)) (zf (0,j8.2)) (default:Int)) fun y10=>
   bif bif y9==101 then true else y10==69 then
    zX (X:=(Bool×Int)×za) (
      ze (zf (1,j8.2)) fun y11=>
      bif bif y11==43 then true else y11==45 then
       some (LX.out ((j8.1,2),j8.2))
      else
       some (LX.out ((j8.1,1),j8.2))) fun j12=>
    ze (zf (j12.1.2,j12.2)) fun y13=>
    ze (Zq y13) fun y14=>
    bif y14 then
     ze (zW (⟨j12.2.s,w64 (j12.2.at_+j12.1.2)⟩:za)) fun y15=>
     some (LX.out (false,y15))
    else
     some (LX.out (j12.1.1,j12.2))
   else
    some (LX.out (j8.1,j8.2))) fun j16=>
 some (j16.1,j16.2)
def ZU(x:Str):Option Int:=
 ze (geti x 0) fun y1=>
 ze (yh (x,[43,45])) fun y2=>
 zX (X:=Str×Int) (
   ze (QL (y2,[101,69])) fun y3=>
   bif decide (y3>=0)then
    need (decide (0<=w64 (y3+1))&&decide (w64 (y3+1)<=(y2.length:Int)))<|
    ze (yh (List.drop (w64 (y3+1)).toNat y2,[43,45])) fun y4=>
    need (decide (y4.length<=maxLen))<|
    Zg (fun(s5:Int×Int)=>
      bif decide (s5.2<(y4.length:Int))then
       need (decide (0<=s5.2)&&decide (s5.2<(y4.length:Int)))<|
       ze y4[s5.2.toNat]? fun y6=>
       some (LO.again (if 1048576<w64 (w64 (10*s5.1)+w64 (wu8 ((y6.toNat:Int) - 48)))then 1048576 else w64 (w64 (10*s5.1)+w64 (wu8 ((y6.toNat:Int) - 48))),w64 (s5.2+1)))
      else
       some (LO.out s5.1):Int×Int->Option (LO (Int×Int) (Int) _)) (0,0) fun o7=>
    zX (X:=Str×Int×Int) (
      ze (geti y2 (w64 (y3+1))) fun y8=>
      bif (y8.toNat:Int)==45 then
       some (LX.out (y2,3,w64 (0 - o7)))
      else
       some (LX.out (y2,3,o7))) fun j9=>
    need (decide (0<=y3)&&decide (y3<=(j9.1.length:Int)))<|
    some (LX.out (List.take y3.toNat j9.1,w64 (j9.2.1+j9.2.2)))
   else
    some (LX.out (y2,3))) fun j10=>
 ze (cutF (j10.1,[46])) fun y11=>
 need (Zt y11.1.length y11.2.1.length)<|
 zX (X:=Str×Int) (
   bif decide (w64 (j10.2 - (y11.2.1.length:Int))<0)then
    need (decide (0<=(if w64 (((y11.1++y11.2.1).length:Int)+w64 (j10.2 - (y11.2.1.length:Int)))>0 then w64 (((y11.1++y11.2.1).length:Int)+w64 (j10.2 - (y11.2.1.length:Int)))else 0))&&decide ((if w64 (((y11.1++y11.2.1).length:Int)+w64 (j10.2 - (y11.2.1.length:Int)))>0 then w64 (((y11.1++y11.2.1).length:Int)+w64 (j10.2 - (y11.2.1.length:Int)))else 0)<=((y11.1++y11.2.1).length:Int)))<|
    some (LX.out (List.take (if w64 (((y11.1++y11.2.1).length:Int)+w64 (j10.2 - (y11.2.1.length:Int)))>0 then w64 (((y11.1++y11.2.1).length:Int)+w64 (j10.2 - (y11.2.1.length:Int)))else 0).toNat (y11.1++y11.2.1),w64 (j10.2 - (y11.2.1.length:Int))))
   else
    some (LX.out (y11.1++y11.2.1,w64 (j10.2 - (y11.2.1.length:Int))))) fun j12=>
 need (decide (j12.1.length<=maxLen))<|
 Zg (fun(s13:Int×Int)=>
   bif decide (s13.2<(j12.1.length:Int))then
    need (decide (0<=s13.2)&&decide (s13.2<(j12.1.length:Int)))<|
    ze j12.1[s13.2.toNat]? fun y14=>
    some (LO.again (if 1000000000000<w64 (w64 (10*s13.1)+w64 (wu8 ((y14.toNat:Int) - 48)))then 1000000000000 else w64 (w64 (10*s13.1)+w64 (wu8 ((y14.toNat:Int) - 48))),w64 (s13.2+1)))
   else
    some (LO.out s13.1):Int×Int->Option (LO (Int×Int) (Int) _)) (0,0) fun o15=>
 Zg (fun(s16:Int×Int)=>
   bif bif bif decide (s16.1>0)then decide (s16.2>0)else false then decide (s16.2<1000000000000)else false then
    some (LO.again (w64 (s16.1 - 1),if 1000000000000<w64 (10*s16.2)then 1000000000000 else w64 (10*s16.2)))
   else
    some (LO.out s16.2):Int×Int->Option (LO (Int×Int) (Int) _)) (j12.2,o15) fun o17=>
 zX (X:=Int) (
   bif (y1.toNat:Int)==45 then
    some (LX.out (w64 (0 - o17)))
   else
    some (LX.out o17)) fun j18=>
 some j18
def ZA(x:za):Option (zb×za):=
 ze (qb x) fun y1=>
 need (decide (0<=x.at_)&&(decide (x.at_<=y1.2.at_)&&decide (y1.2.at_<=(y1.2.s.length:Int))))<|
 ze (ZU (List.drop x.at_.toNat (List.take y1.2.at_.toNat y1.2.s))) fun y2=>
 zX (X:=za×zb×zb) (
   ze (zN (0,y1.2)) fun y3=>
   bif y3 then
    ze (zS y1.2) fun y4=>
    some (LX.out (y4.2,(⟨0,[],0,[],false⟩:zb),(⟨12,[],y2,y4.1,y1.1⟩:zb)))
   else
    ze (zf (0,y1.2)) fun y5=>
    bif y5==37 then
     some (LX.out ((⟨y1.2.s,w64 (y1.2.at_+1)⟩:za),(⟨0,[],0,[],false⟩:zb),(⟨11,[],y2,[],false⟩:zb)))
    else
     some (LX.out (y1.2,(⟨0,[],0,[],false⟩:zb),(⟨10,[],y2,[],y1.1⟩:zb)))) fun j6=>
 some (j6.2.2,j6.1)
def Rq(x:Str):Option Str:=
 need (decide (x.length<=maxLen))<|
 Zg (fun(s1:Int×List UInt8)=>
   bif decide (s1.1<(x.length:Int))then
    zX (X:=Int×List UInt8) (
      need (decide (0<=s1.1)&&decide (s1.1<(s1.2.length:Int)))<|
      ze s1.2[s1.1.toNat]? fun y2=>
      bif bif decide (65<=(y2.toNat:Int))then decide ((y2.toNat:Int)<=90)else false then
       need (decide (0<=s1.1)&&decide (s1.1<(s1.2.length:Int)))<|
       ze s1.2[s1.1.toNat]? fun y3=>
       need (decide (0<=s1.1)&&decide (s1.1<(s1.2.length:Int)))<|
       ze s1.2[s1.1.toNat]? fun y4=>
       ze (ZO (ibOr IntKind.u8 (y3.toNat:Int) 32)) fun y5=>
       some (LX.out (s1.1,List.set s1.2 s1.1.toNat y5))
      else
       some (LX.out (s1.1,s1.2))) fun j6=>
    some (LO.again (w64 (j6.1+1),j6.2))
   else
    some (LO.out s1.2):Int×List UInt8->Option (LO (Int×List UInt8) (List UInt8) _)) (0,x) fun o7=>
 some o7
def Dn(x:Str×Str):Option Bool:=
 ze (Rq x.1) fun y1=>
 ze (Rq x.2) fun y2=>
 some (y1==y2)
def ZT(x:za):Option (zb×za):=
 Zg (fun(s1:za×zb)=>
   ze (zf (0,s1.1)) fun y2=>
   bif y2==(-1)then
    some (LO.ret ((⟨8,[],0,[],false⟩:zb),s1.1))
   else
    ze (zu (0,s1.1)) fun y3=>
    bif y3 then
     ze (ZH s1.1) fun y4=>
     some (LO.again (y4.1,s1.2))
    else
     ze (geti s1.1.s (w64 (w64 (s1.1.at_+1) - 1))) fun y5=>
     bif (y5.toNat:Int)==41 then
      some (LO.ret ((⟨8,[],0,[],false⟩:zb),(⟨s1.1.s,w64 (s1.1.at_+1)⟩:za)))
     else
      some (LO.again ((⟨s1.1.s,w64 (s1.1.at_+1)⟩:za),s1.2)):za×zb->Option (LO (za×zb) (Unit) _)) (x,(⟨0,[],0,[],false⟩:zb)) fun o6=>
 none
def Qg(x:za):Option (zb×za):=
 ze (zZ x) fun y1=>
 Zg (fun(s2:za×zb×List UInt8)=>
   ze (zf (0,s2.1)) fun y3=>
   zX (X:=Int×za×zb×List UInt8) (
     ze (qg y3) fun y4=>
     bif y4 then
      ze (zZ s2.1) fun y5=>
      ze (zf (0,y5)) fun y6=>
      bif bif y6 != 41 then y6 != (-1)else false then
       ze (ZT y5) fun y7=>
       some (LX.ret (LO.ret (y7.1,y7.2)))
      else
       some (LX.out (y6,y5,s2.2.1,s2.2.2))
     else
      some (LX.out (y3,s2.1,s2.2.1,s2.2.2))) fun j8=>
   bif j8.1==(-1)then
    some (LO.ret ((⟨7,j8.2.2.2,0,[],false⟩:zb),j8.2.1))
   else
    bif j8.1==41 then
     some (LO.ret ((⟨7,j8.2.2.2,0,[],false⟩:zb),(⟨j8.2.1.s,w64 (j8.2.1.at_+1)⟩:za)))
    else
     ze (zt (!(bif bif bif bif j8.1==34 then true else j8.1==39 then true else j8.1==40 then true else decide (j8.1<=8)then true else j8.1==11)) (ZM (j8.1,14,31)) (default:Bool)) fun y9=>
     bif bif bif bif bif bif bif j8.1==34 then true else j8.1==39 then true else j8.1==40 then true else decide (j8.1<=8)then true else j8.1==11 then true else y9 then true else j8.1==127 then
      ze (ZT j8.2.1) fun y10=>
      some (LO.ret (y10.1,y10.2))
     else
      bif j8.1 != 92 then
       ze (ZO (wu8 j8.1)) fun y11=>
       need (zQ j8.2.2.2.length 1 1)<|
       some (LO.again ((⟨j8.2.1.s,w64 (j8.2.1.at_+1)⟩:za),j8.2.2.1,j8.2.2.2++[y11]))
      else
       ze (zu (0,j8.2.1)) fun y12=>
       bif y12 then
        ze (zV (j8.2.1,j8.2.2.2)) fun y13=>
        some (LO.again (y13.1,j8.2.2.1,y13.2))
       else
        ze (ZT j8.2.1) fun y14=>
        some (LO.ret (y14.1,y14.2)):za×zb×List UInt8->Option (LO (za×zb×List UInt8) (Unit) _)) (y1,(⟨0,[],0,[],false⟩:zb),[]) fun o15=>
 none
def Zy(x:za):Option (zb×za):=
 ze (zS x) fun y1=>
 ze (zf (0,y1.2)) fun y2=>
 bif y2 != 40 then
  some ((⟨1,y1.1,0,[],false⟩:zb),y1.2)
 else
  zX (X:=za×zb) (
    ze (Dn (y1.1,[117,114,108])) fun y3=>
    bif y3 then
     ze (zZ (⟨y1.2.s,w64 (y1.2.at_+1)⟩:za)) fun y4=>
     ze (zf (0,y4)) fun y5=>
     bif bif y5 != 34 then y5 != 39 else false then
      ze (Qg (⟨y1.2.s,w64 (y1.2.at_+1)⟩:za)) fun y6=>
      some (LX.ret (y6.1,y6.2))
     else
      some (LX.out ((⟨y1.2.s,w64 (y1.2.at_+1)⟩:za),(⟨0,[],0,[],false⟩:zb)))
    else
     some (LX.out ((⟨y1.2.s,w64 (y1.2.at_+1)⟩:za),(⟨0,[],0,[],false⟩:zb)))) fun j7=>
  some ((⟨2,y1.1,0,[],false⟩:zb),j7.1)
def strings_IndexByte(x:Str×Int):Option Int:=
 ze (Vs (x.1,x.2)) fun y1=>
 some y1
def qf(x:za):Option (zb×za):=
 ze (zf (0,x)) fun y1=>
 need (decide (0<=x.at_)&&decide (x.at_<=(x.s.length:Int)))<|
 ze (qg y1) fun y2=>
 bif y2 then
  ze (zZ x) fun y3=>
  some ((⟨13,[],0,[],false⟩:zb),y3)
 else
  bif bif y1==34 then true else y1==39 then
   ze (qj x) fun y4=>
   some (y4.1,y4.2)
  else
   ze (zt (y1==35) (zf (1,x)) (default:Int)) fun y5=>
   ze (zt (y1==35) (Uq y5) (default:Bool)) fun y6=>
   ze (zt (!y6&&y1==35) (zu (1,x)) (default:Bool)) fun y7=>
   bif bif y1==35 then bif y6 then true else y7 else false then
    ze (zN (1,x)) fun y8=>
    ze (zS (⟨x.s,w64 (x.at_+1)⟩:za)) fun y9=>
    some ((⟨4,y9.1,0,[],y8⟩:zb),y9.2)
   else
    ze (Zr x) fun y10=>
    bif y10 then
     ze (ZA x) fun y11=>
     some (y11.1,y11.2)
    else
     ze (strings_HasPrefix (List.drop x.at_.toNat x.s,[45,45,62])) fun y12=>
     bif y12 then
      some ((⟨15,[],0,[],false⟩:zb),(⟨x.s,w64 (x.at_+3)⟩:za))
     else
      ze (strings_HasPrefix (List.drop x.at_.toNat x.s,[60,33,45,45])) fun y13=>
      bif y13 then
       some ((⟨14,[],0,[],false⟩:zb),(⟨x.s,w64 (x.at_+4)⟩:za))
      else
       ze (zt (y1==64) (zN (1,x)) (default:Bool)) fun y14=>
       bif bif y1==64 then y14 else false then
        ze (zS (⟨x.s,w64 (x.at_+1)⟩:za)) fun y15=>
        some ((⟨3,y15.1,0,[],false⟩:zb),y15.2)
       else
        ze (zN (0,x)) fun y16=>
        bif y16 then
         ze (Zy x) fun y17=>
         some (y17.1,y17.2)
        else
         ze (strings_IndexByte ([58,59,44,91,93,40,41,123,125],wu8 y1)) fun y18=>
         bif decide (y18>=0)then
          some ((⟨wu8 (16+wu8 y18),[],0,[],false⟩:zb),(⟨x.s,w64 (x.at_+1)⟩:za))
         else
          need (decide (1<=((List.drop x.at_.toNat x.s).length:Int)))<|
          some ((⟨9,List.take 1 (List.drop x.at_.toNat x.s),0,[],false⟩:zb),(⟨x.s,w64 (x.at_+1)⟩:za))
def Qt(x:(zb×Int×Int)×List zb):Option (List zb):=
 need (zQ x.2.length 1 56)<|
 some (x.2++[x.1.1])
def Cv(x:Str):Option (Int×List zb):=
 ze (Aj x) fun y1=>
 bif y1.2 != 0 then
  some (y1.2,[])
 else
  ze (Zl (⟨y1.1,0⟩:za)) fun y2=>
  Zg (fun(s3:Int×List zb×za)=>
    bif decide (s3.2.2.at_<(y1.1.length:Int))then
     bif decide (w64 (s3.1+1)>1500)then
      some (LO.ret (4,s3.2.1))
     else
      ze (qf s3.2.2) fun y4=>
      ze (Qt ((y4.1,s3.2.2.at_,y4.2.at_),s3.2.1)) fun y5=>
      ze (Zl y4.2) fun y6=>
      some (LO.again (w64 (s3.1+1),y5,y6))
    else
     some (LO.out (s3.2.1,s3.2.2)):Int×List zb×za->Option (LO (Int×List zb×za) (List zb×za) _)) (0,[],y2) fun o7=>
  some (0,o7.1)
def Dv(x:Str):Option (List zb×Int):=
 ze (Cv x) fun y1=>
 bif y1.1 != 0 then
  some ([],y1.1)
 else
  some (y1.2,0)
def Qp(x:Int):Option Int:=
 bif x==2 then
  some 22
 else
  zX (X:=Bool) (
    bif x==19 then
     some (LX.out (x==19))
    else
     bif x==21 then
      some (LX.out (x==21))
     else
      some (LX.out (x==23))) fun j1=>
  bif j1 then
   some (wu8 (x+1))
  else
   some 0
def uz(Ui:List zg×Int->Option zR)(x:List zg×Int):Option zR:=
 Zg (fun(s1:Int×zR)=>
   bif decide (s1.1<(x.1.length:Int))then
    zX (X:=Int×zR) (
      ze (geti x.1 s1.1) fun y2=>
      ze (Qp y2.token.kind) fun y3=>
      zX (X:=zR) (
        bif bif bif x.2 != 0 then y2.token.kind==x.2 else false then true else bif y3==0 then decide ((y2.list.length:Int)>0)else false then
         some (LX.out (⟨s1.2.depth,w64 (s1.2.tokens+1),true⟩:zR))
        else
         some (LX.out (⟨s1.2.depth,w64 (s1.2.tokens+1),s1.2.bad⟩:zR))) fun j4=>
      bif y3==0 then
       some (LX.out (s1.1,j4))
      else
       ze (Ui (y2.list,y3)) fun y5=>
       some (LX.out (s1.1,(⟨if w64 (y5.depth+1)>j4.depth then w64 (y5.depth+1)else j4.depth,w64 (w64 (j4.tokens+y5.tokens)+1),bif j4.bad then true else y5.bad⟩:zR)))) fun j6=>
    some (LO.again (w64 (j6.1+1),j6.2))
   else
    some (LO.out s1.2):Int×zR->Option (LO (Int×zR) (zR) _)) (0,(⟨0,0,false⟩:zR)) fun o7=>
 some o7
def Ui:List zg×Int->Option zR:=recE (uz)
def Bn(x:List zg):Option Int:=
 ze (Ui (x,0)) fun y1=>
 bif decide (y1.depth>16)then
  some 20
 else
  bif decide (y1.tokens>1500)then
   some 4
  else
   bif y1.bad then
    some 8
   else
    some 0
def AA(qV:List zg×List zb->Option (List zb))(x:List zg×List zb):Option (List zb):=
 Zg (fun(s1:Int×List zb)=>
   bif decide (s1.1<(x.1.length:Int))then
    zX (X:=Int×List zb) (
      ze (geti x.1 s1.1) fun y2=>
      need (zQ s1.2.length 1 56)<|
      ze (Qp y2.token.kind) fun y3=>
      bif y3 != 0 then
       ze (qV (y2.list,s1.2++[y2.token])) fun y4=>
       need (zQ y4.length 1 56)<|
       some (LX.out (s1.1,y4++[(⟨y3,[],0,[],false⟩:zb)]))
      else
       some (LX.out (s1.1,s1.2++[y2.token]))) fun j5=>
    some (LO.again (w64 (j5.1+1),j5.2))
   else
    some (LO.out s1.2):Int×List zb->Option (LO (Int×List zb) (List zb) _)) (0,x.2) fun o6=>
 some o6
def qV:List zg×List zb->Option (List zb):=recE (AA)
def QN(x:List zg):Option (List zb):=
 Zg (fun(s1:Int×List zb)=>
   bif decide (s1.1<(x.length:Int))then
    zX (X:=Int×List zb) (
      ze (geti x s1.1) fun y2=>
      need (zQ s1.2.length 1 56)<|
      ze (Qp y2.token.kind) fun y3=>
      bif y3 != 0 then
       ze (qV (y2.list,s1.2++[y2.token])) fun y4=>
       need (zQ y4.length 1 56)<|
       some (LX.out (s1.1,y4++[(⟨y3,[],0,[],false⟩:zb)]))
      else
       some (LX.out (s1.1,s1.2++[y2.token]))) fun j5=>
    some (LO.again (w64 (j5.1+1),j5.2))
   else
    some (LO.out s1.2):Int×List zb->Option (LO (Int×List zb) (List zb) _)) (0,[]) fun o6=>
 some o6
def stringslite_TrimPrefix(x:Str×Str):Option Str:=
 ze (stringslite_HasPrefix (x.1,x.2)) fun y1=>
 bif y1 then
  need (decide (0<=(x.2.length:Int))&&decide ((x.2.length:Int)<=(x.1.length:Int)))<|
  some (List.drop x.2.length x.1)
 else
  some x.1
def strings_TrimPrefix(x:Str×Str):Option Str:=
 ze (stringslite_TrimPrefix (x.1,x.2)) fun y1=>
 some y1
def qz(x:Int):Option Bool:=
 some (bif decide (48<=x)then decide (x<=57)else false)
def QK(x:Str):Option Bool:=
 ze (strings_TrimPrefix (x,[45])) fun y1=>
 ze (zt (!(y1==[])) (geti y1 0) 0) fun y2=>
 ze (zt (!(y1==[])) (qz (y2.toNat:Int)) (default:Bool)) fun y3=>
 some (bif !(y1==[])then y3 else false)
def Tq(x:Int):Option Bool:=
 some (bif bif decide (97<=ibOr IntKind.u8 x 32)then decide (ibOr IntKind.u8 x 32<=122)else false then decide (x<128)else false)
def nk(x:Int):Option Bool:=
 ze (Tq x) fun y1=>
 ze (zt (!y1) (qz x) (default:Bool)) fun y2=>
 some (bif bif bif bif y1 then true else y2 then true else x==95 then true else x==45 then true else decide (x>=128))
def strings_Contains(x:Str×Str):Option Bool:=
 ze (si (x.1,x.2)) fun y1=>
 some (decide (y1>=0))
def Vu(x:zb):Option Bool:=
 need (Zt x.text.length x.unit.length)<|
 ze (strings_IndexByte (x.text++x.unit,0)) fun y1=>
 zX (X:=Bool×Bool×Bool×Bool×Bool) (
   zX (X:=Bool×Bool×Bool×Bool×Bool×Bool) (
     bif x.kind==1 then
      some (LX.out (false,false,false,false,decide (y1<0),x.kind==1))
     else
      bif x.kind==2 then
       some (LX.out (false,false,false,false,decide (y1<0),x.kind==2))
      else
       some (LX.out (false,false,false,false,decide (y1<0),x.kind==3))) fun j2=>
   bif j2.2.2.2.2.2 then
    some (LX.out (true,j2.2.1,j2.2.2.1,j2.2.2.2.1,bif j2.2.2.2.2.1 then !(x.text==[])else false))
   else
    bif x.kind==4 then
     ze (zt (!x.flag&&(bif j2.2.2.2.2.1 then !(x.text==[])else false)) (QK x.text) (default:Bool)) fun y3=>
     ze (zt (y3&&(!x.flag&&(bif j2.2.2.2.2.1 then !(x.text==[])else false))) (strings_HasPrefix (x.text,[45,45])) (default:Bool)) fun y4=>
     some (LX.out (true,j2.2.1,j2.2.2.1,true,bif bif j2.2.2.2.2.1 then !(x.text==[])else false then bif bif x.flag then true else bif y3 then !y4 else false then true else x.text==[45]else false))
    else
     zX (X:=Bool×Bool×Bool×Bool×Bool×Bool) (
       bif x.kind==5 then
        some (LX.out (j2.1,j2.2.1,j2.2.2.1,j2.2.2.2.1,j2.2.2.2.2.1,x.kind==5))
       else
        some (LX.out (j2.1,j2.2.1,j2.2.2.1,j2.2.2.2.1,j2.2.2.2.2.1,x.kind==7))) fun j5=>
     bif j5.2.2.2.2.2 then
      some (LX.out (true,j5.2.1,j5.2.2.1,j5.2.2.2.1,j5.2.2.2.2.1))
     else
      bif x.kind==9 then
       ze (zt (bif j5.2.2.2.2.1 then(x.text.length:Int)==1 else false) (geti x.text 0) 0) fun y6=>
       ze (zt (bif j5.2.2.2.2.1 then(x.text.length:Int)==1 else false) (nk (y6.toNat:Int)) (default:Bool)) fun y7=>
       ze (zt (bif bif bif j5.2.2.2.2.1 then(x.text.length:Int)==1 else false then !y7 else false then true else x.text==[45]) (strings_Contains ([32,9,10,12,13,34,39,58,59,44,91,93,40,41,123,125],x.text)) (default:Bool)) fun y8=>
       some (LX.out (true,j5.2.1,j5.2.2.1,j5.2.2.2.1,bif bif bif bif j5.2.2.2.2.1 then(x.text.length:Int)==1 else false then !y7 else false then true else x.text==[45]then !y8 else false))
      else
       zX (X:=Bool×Bool×Bool×Bool×Bool) (
         bif x.kind==10 then
          some (LX.out (j5.2.1,j5.2.2.1,j5.2.2.2.1,j5.2.2.2.2.1,x.kind==10))
         else
          bif x.kind==11 then
           some (LX.out (j5.2.1,j5.2.2.1,j5.2.2.2.1,j5.2.2.2.2.1,x.kind==11))
          else
           some (LX.out (j5.2.1,j5.2.2.1,j5.2.2.2.1,j5.2.2.2.2.1,x.kind==12))) fun j9=>
       bif j9.2.2.2.2 then
        some (LX.out (j5.1,x.kind==12,true,x.kind != 11,bif bif bif bif j9.2.2.2.1 then decide (x.num>=(-1000000000000))else false then decide (x.num<=1000000000000)else false then bif !x.flag then true else Int.tmod x.num 1000==0 else false then bif !(x.kind==12)then true else !(x.unit==[])else false))
       else
        some (LX.out (j5.1,j9.1,j9.2.1,j9.2.2.1,bif decide (x.kind>=13)then decide (x.kind<=24)else false))) fun j10=>
 some (bif bif bif bif j10.2.2.2.2 then bif j10.1 then true else x.text==[]else false then bif j10.2.1 then true else x.unit==[]else false then bif j10.2.2.1 then true else x.num==0 else false then bif j10.2.2.2.1 then true else !x.flag else false)
def ZJ(x:(Int×Int)×List zb):Option Bool:=
 ze (zt (decide (x.1.1<(x.2.length:Int))) (geti x.2 x.1.1) (default:zb)) fun y1=>
 some (bif decide (x.1.1<(x.2.length:Int))then y1.kind==x.1.2 else false)
def QA(x:List zb):Option Int:=
 ze (geti x 0) fun y1=>
 bif bif y1.kind==9 then y1.text==[92]else false then
  ze (ZJ ((1,13),x)) fun y2=>
  bif !y2 then
   some 0
  else
   some 2
 else
  ze (zt (y1.kind==2) (Dn (y1.text,[117,114,108])) (default:Bool)) fun y3=>
  bif bif y1.kind==2 then y3 else false then
   zX (X:=Int) (
     ze (ZJ ((1,13),x)) fun y4=>
     bif y4 then
      some (LX.out 2)
     else
      some (LX.out 1)) fun j5=>
   ze (ZJ ((j5,5),x)) fun y6=>
   bif !y6 then
    some 0
   else
    some (w64 (j5+1))
  else
   some 1
def au(x:List zb):Option Int:=
 bif decide ((x.length:Int)>1500)then
  some 4
 else
  Zg (fun(s1:Int)=>
    bif decide (s1<(x.length:Int))then
     ze (geti x s1) fun y2=>
     ze (Vu y2) fun y3=>
     need (decide (0<=s1)&&decide (s1<=(x.length:Int))|| !(!(!y3)))<|
     ze (zt (!(!y3)) (QA (List.drop s1.toNat x)) (default:Int)) fun y4=>
     bif bif !y3 then true else y4==0 then
      some (LO.ret 8)
     else
      some (LO.again (w64 (s1+1)))
    else
     some (LO.out ()):Int->Option (LO (Int) (Unit) _)) 0 fun o5=>
  some 0
def QZ(x:Str):Option Int:=
 ze (strings_HasPrefix (x,[45])) fun y1=>
 bif y1 then
  some 2
 else
  some 1
def ZZ(x:Int×List UInt8):Option (List UInt8):=
 ze (zt (bif decide (x.1>32)then decide (x.1<127)else false) (qz x.1) (default:Bool)) fun y1=>
 ze (zt (bif bif decide (x.1>32)then decide (x.1<127)else false then !y1 else false) (Tq x.1) (default:Bool)) fun y2=>
 bif bif bif bif decide (x.1>32)then decide (x.1<127)else false then !y1 else false then !y2 else false then
  ze (ZO x.1) fun y3=>
  need (zQ x.2.length 2 1)<|
  some (x.2++[(92:UInt8),y3])
 else
  need (zQ x.2.length 1 1)<|
  ze (Rm ((wu64 x.1,16),x.2++[(92:UInt8)])) fun y4=>
  need (zQ y4.length 1 1)<|
  some (y4++[(32:UInt8)])
def qD(x:(Str×Int)×List UInt8):Option (List UInt8):=
 Zg (fun(s1:Int×List UInt8)=>
   bif decide (s1.1<(x.1.1.length:Int))then
    zX (X:=Int×List UInt8) (
      ze (geti x.1.1 s1.1) fun y2=>
      ze (nk (y2.toNat:Int)) fun y3=>
      ze (zt (!(decide (s1.1>=x.1.2))&&y3) (qz (y2.toNat:Int)) (default:Bool)) fun y4=>
      bif bif bif y3 then bif decide (s1.1>=x.1.2)then true else !y4 else false then bif x.1.2==0 then true else !(x.1.1==[45])else false then
       ze (ZO (y2.toNat:Int)) fun y5=>
       need (zQ s1.2.length 1 1)<|
       some (LX.out (s1.1,s1.2++[y5]))
      else
       ze (ZZ ((y2.toNat:Int),s1.2)) fun y6=>
       some (LX.out (s1.1,y6))) fun j7=>
    some (LO.again (w64 (j7.1+1),j7.2))
   else
    some (LO.out s1.2):Int×List UInt8->Option (LO (Int×List UInt8) (List UInt8) _)) (0,x.2) fun o8=>
 some o8
def Xu(x:Unit):Option Qw:=
 some (⟨[32],[60,33,45,45],[45,45,62],[58],[59],[44],[91],[93],[40],[41],[123],[125]⟩:Qw)
def Qo(x:(Int×Bool)×List UInt8):Option (List UInt8):=
 zX (X:=Int×List UInt8) (
   bif decide (x.1.1<0)then
    need (zQ x.2.length 1 1)<|
    some (LX.out (w64 (0 - x.1.1),x.2++[(45:UInt8)]))
   else
    some (LX.out (x.1.1,x.2))) fun j1=>
 ze (Sm ((w64 (Int.tdiv j1.1 1000),10),j1.2)) fun y2=>
 ze (Jm (w64 (1000+Int.tmod j1.1 1000),10)) fun y3=>
 need (decide (1<=(y3.length:Int)))<|
 ze (sj (List.drop 1 y3,[48])) fun y4=>
 zX (X:=List UInt8) (
   bif !(y4==[])then
    need (zQ y2.length 1 1)<|
    need (zQ (y2++[(46:UInt8)]).length y4.length 1)<|
    some (LX.out (y2++[(46:UInt8)]++y4))
   else
    bif x.1.2 then
     need (zQ y2.length ([46,48]:Str).length 1)<|
     some (LX.out (y2++([46,48]:Str)))
    else
     some (LX.out y2)) fun j5=>
 some j5
def Sq(x:zb×List UInt8):Option (List UInt8):=
 bif x.1.kind==1 then
  ze (QZ x.1.text) fun y1=>
  ze (qD ((x.1.text,y1),x.2)) fun y2=>
  some y2
 else
  bif x.1.kind==2 then
   ze (QZ x.1.text) fun y3=>
   ze (qD ((x.1.text,y3),x.2)) fun y4=>
   need (zQ y4.length 1 1)<|
   some (y4++[(40:UInt8)])
  else
   bif x.1.kind==3 then
    need (zQ x.2.length 1 1)<|
    ze (QZ x.1.text) fun y5=>
    ze (qD ((x.1.text,y5),x.2++[(64:UInt8)])) fun y6=>
    some y6
   else
    bif x.1.kind==4 then
     zX (X:=Int×List UInt8) (
       bif x.1.flag then
        ze (QZ x.1.text) fun y7=>
        some (LX.out (y7,x.2))
       else
        some (LX.out (0,x.2))) fun j8=>
     need (zQ j8.2.length 1 1)<|
     ze (qD ((x.1.text,j8.1),j8.2++[(35:UInt8)])) fun y9=>
     some y9
    else
     bif x.1.kind==5 then
      need (zQ x.2.length 1 1)<|
      need (decide (x.1.text.length<=maxLen))<|
      Zg (fun(s10:Int×List UInt8)=>
        bif decide (s10.1<(x.1.text.length:Int))then
         zX (X:=Int×List UInt8) (
           need (decide (0<=s10.1)&&decide (s10.1<(x.1.text.length:Int)))<|
           ze x.1.text[s10.1.toNat]? fun y11=>
           ze (strings_IndexByte ([10,12,13,34,92],(y11.toNat:Int))) fun y12=>
           bif decide (y12>=0)then
            ze (ZZ ((y11.toNat:Int),s10.2)) fun y13=>
            some (LX.out (s10.1,y13))
           else
            ze (ZO (y11.toNat:Int)) fun y14=>
            need (zQ s10.2.length 1 1)<|
            some (LX.out (s10.1,s10.2++[y14]))) fun j15=>
         some (LO.again (w64 (j15.1+1),j15.2))
        else
         some (LO.out s10.2):Int×List UInt8->Option (LO (Int×List UInt8) (List UInt8) _)) (0,x.2++[(34:UInt8)]) fun o16=>
      need (zQ o16.length 1 1)<|
      some (o16++[(34:UInt8)])
     else
      bif x.1.kind==7 then
       need (zQ x.2.length ([117,114,108,40]:Str).length 1)<|
       need (decide (x.1.text.length<=maxLen))<|
       Zg (fun(s17:Int×List UInt8)=>
         bif decide (s17.1<(x.1.text.length:Int))then
          zX (X:=Int×List UInt8) (
            need (decide (0<=s17.1)&&decide (s17.1<(x.1.text.length:Int)))<|
            ze x.1.text[s17.1.toNat]? fun y18=>
            ze (zt (!(decide ((y18.toNat:Int)<=32))) (strings_IndexByte ([34,39,40,41,92,127],(y18.toNat:Int))) (default:Int)) fun y19=>
            bif bif decide ((y18.toNat:Int)<=32)then true else decide (y19>=0)then
             ze (ZZ ((y18.toNat:Int),s17.2)) fun y20=>
             some (LX.out (s17.1,y20))
            else
             ze (ZO (y18.toNat:Int)) fun y21=>
             need (zQ s17.2.length 1 1)<|
             some (LX.out (s17.1,s17.2++[y21]))) fun j22=>
          some (LO.again (w64 (j22.1+1),j22.2))
         else
          some (LO.out s17.2):Int×List UInt8->Option (LO (Int×List UInt8) (List UInt8) _)) (0,x.2++([117,114,108,40]:Str)) fun o23=>
       need (zQ o23.length 1 1)<|
       some (o23++[(41:UInt8)])
      else
       bif x.1.kind==9 then
        need (zQ x.2.length x.1.text.length 1)<|
        some (x.2++x.1.text)
       else
        bif x.1.kind==10 then
         ze (Qo ((x.1.num, !x.1.flag),x.2)) fun y24=>
         some y24
        else
         bif x.1.kind==11 then
          ze (Qo ((x.1.num,false),x.2)) fun y25=>
          need (zQ y25.length 1 1)<|
          some (y25++[(37:UInt8)])
         else
          bif x.1.kind==12 then
           ze (Qo ((x.1.num, !x.1.flag),x.2)) fun y26=>
           ze (geti x.1.unit 0) fun y27=>
           need (decide (1<=(x.1.unit.length:Int))|| !(ibOr IntKind.u8 (y27.toNat:Int) 32==101))<|
           ze (zt (ibOr IntKind.u8 (y27.toNat:Int) 32==101) (QK (List.drop 1 x.1.unit)) (default:Bool)) fun y28=>
           need (decide (1<=(x.1.unit.length:Int))|| !(bif ibOr IntKind.u8 (y27.toNat:Int) 32==101 then y28 else false))<|
           ze (zt (bif ibOr IntKind.u8 (y27.toNat:Int) 32==101 then y28 else false) (strings_HasPrefix (List.drop 1 x.1.unit,[45,45])) (default:Bool)) fun y29=>
           bif bif bif ibOr IntKind.u8 (y27.toNat:Int) 32==101 then y28 else false then !y29 else false then
            ze (geti x.1.unit 0) fun y30=>
            ze (ZZ ((y30.toNat:Int),y26)) fun y31=>
            need (decide (1<=(x.1.unit.length:Int)))<|
            ze (qD ((List.drop 1 x.1.unit,0),y31)) fun y32=>
            some y32
           else
            ze (QZ x.1.unit) fun y33=>
            ze (qD ((x.1.unit,y33),y26)) fun y34=>
            some y34
          else
           ze (Xu ()) fun y35=>
           ze (geti [y35.e0,y35.e1,y35.e2,y35.e3,y35.e4,y35.e5,y35.e6,y35.e7,y35.e8,y35.e9,y35.e10,y35.e11] (wu8 (x.1.kind - 13))) fun y36=>
           need (zQ x.2.length y36.length 1)<|
           some (x.2++y36)
def qd(x:List zb×List zb):Option Bool:=
 bif (x.1.length:Int) != (x.2.length:Int)then
  some false
 else
  Zg (fun(s1:Int)=>
    bif decide (s1<(x.1.length:Int))then
     ze (geti x.1 s1) fun y2=>
     ze (geti x.2 s1) fun y3=>
     bif !(y2.kind==y3.kind&&(y2.text==y3.text&&(y2.num==y3.num&&(y2.unit==y3.unit&&(y2.flag==y3.flag&&true)))))then
      some (LO.ret false)
     else
      some (LO.again (w64 (s1+1)))
    else
     some (LO.out ()):Int->Option (LO (Int) (Unit) _)) 0 fun o4=>
  some true
def Yu(x:List zb):Option (Str×Int):=
 ze (au x) fun y1=>
 bif y1 != 0 then
  some ([],y1)
 else
  Zg (fun(s2:Int×List UInt8×List zC)=>
    bif decide (s2.1<(x.length:Int))then
     need (decide (0<=s2.1)&&decide (s2.1<=(x.length:Int)))<|
     ze (QA (List.drop s2.1.toNat x)) fun y3=>
     need (decide (0<=s2.1)&&(decide (s2.1<=w64 (s2.1+y3))&&decide (w64 (s2.1+y3)<=(x.length:Int))))<|
     Zg (fun(s4:Int×List UInt8)=>
       bif decide (s4.1<((List.drop s2.1.toNat (List.take (w64 (s2.1+y3)).toNat x)).length:Int))then
        ze (geti (List.drop s2.1.toNat (List.take (w64 (s2.1+y3)).toNat x)) s4.1) fun y5=>
        ze (Sq (y5,s4.2)) fun y6=>
        some (LO.again (w64 (s4.1+1),y6))
       else
        some (LO.out s4.2):Int×List UInt8->Option (LO (Int×List UInt8) (List UInt8) _)) (0,[]) fun o7=>
     zX (X:=Int×List UInt8×List zC×List UInt8) (
       ze (geti x s2.1) fun y8=>
       bif bif y8.kind==9 then y3==2 else false then
        some (LX.out (s2.1,s2.2.1,s2.2.2,[(92:UInt8),(10:UInt8)]))
       else
        some (LX.out (s2.1,s2.2.1,s2.2.2,o7))) fun j9=>
     zX (X:=Int×List UInt8×List zC×zC) (
       bif decide (w64 ((j9.2.2.1.length:Int) - 4)>=0)then
        need (decide (0<=w64 ((j9.2.2.1.length:Int) - 4))&&decide (w64 ((j9.2.2.1.length:Int) - 4)<(j9.2.2.1.length:Int)))<|
        ze (j9.2.2.1[(w64 ((j9.2.2.1.length:Int) - 4)).toNat]?) fun y10=>
        some (LX.out (j9.1,j9.2.1,j9.2.2.1,y10))
       else
        some (LX.out (j9.1,j9.2.1,j9.2.2.1,(⟨0,0⟩:zC)))) fun j11=>
     need (decide (0<=j11.2.2.2.at_)&&decide (j11.2.2.2.at_<=(j11.2.1.length:Int)))<|
     need (decide (j11.2.2.2.at_.toNat+(j11.2.1.length - j11.2.2.2.at_.toNat)<=j11.2.1.length))<|
     need (Zt (List.take (j11.2.1.length - j11.2.2.2.at_.toNat) (List.drop j11.2.2.2.at_.toNat j11.2.1)).length j9.2.2.2.length)<|
     ze (Dv (List.take (j11.2.1.length - j11.2.2.2.at_.toNat) (List.drop j11.2.2.2.at_.toNat j11.2.1)++j9.2.2.2)) fun y12=>
     zX (X:=Int×List zC×List UInt8) (
       need (decide (0<=j11.2.2.2.token)&&(decide (j11.2.2.2.token<=w64 (j11.1+y3))&&decide (w64 (j11.1+y3)<=(x.length:Int)))|| !(!(y12.2 != 0)))<|
       ze (zt (!(y12.2 != 0)) (qd (y12.1,List.drop j11.2.2.2.token.toNat (List.take (w64 (j11.1+y3)).toNat x))) (default:Bool)) fun y13=>
       bif bif y12.2 != 0 then true else !y13 then
        need (zQ j11.2.1.length ([47,42,42,47]:Str).length 1)<|
        some (LX.out (j11.1,j11.2.2.1,j11.2.1++([47,42,42,47]:Str)))
       else
        some (LX.out (j11.1,j11.2.2.1,j11.2.1))) fun j14=>
     need (zQ j14.2.1.length 1 16)<|
     need (zQ j14.2.2.length j9.2.2.2.length 1)<|
     bif decide (((j14.2.2++j9.2.2.2).length:Int)>4000)then
      some (LO.ret ([],28))
     else
      some (LO.again (w64 (j14.1+y3),j14.2.2++j9.2.2.2,j14.2.1++[(⟨j14.1,(j14.2.2.length:Int)⟩:zC)]))
    else
     some (LO.out s2.2.1):Int×List UInt8×List zC->Option (LO (Int×List UInt8×List zC) (List UInt8) _)) (0,[],[]) fun o15=>
  some (o15,0)
def Ou(x:List zg):Option (Str×Int):=
 ze (Bn x) fun y1=>
 bif y1 != 0 then
  some ([],y1)
 else
  ze (QN x) fun y2=>
  ze (Yu y2) fun y3=>
  some (y3.1,y3.2)
def BA(QC:List zg×List zg->Option Bool)(x:List zg×List zg):Option Bool:=
 bif (x.1.length:Int) != (x.2.length:Int)then
  some false
 else
  Zg (fun(s1:Int)=>
    bif decide (s1<(x.1.length:Int))then
     ze (geti x.1 s1) fun y2=>
     ze (geti x.2 s1) fun y3=>
     ze (zt (!(!(y2.token.kind==y3.token.kind&&(y2.token.text==y3.token.text&&(y2.token.num==y3.token.num&&(y2.token.unit==y3.token.unit&&(y2.token.flag==y3.token.flag&&true))))))) (geti x.1 s1) (default:zg)) fun y4=>
     ze (zt (!(!(y2.token.kind==y3.token.kind&&(y2.token.text==y3.token.text&&(y2.token.num==y3.token.num&&(y2.token.unit==y3.token.unit&&(y2.token.flag==y3.token.flag&&true))))))) (geti x.2 s1) (default:zg)) fun y5=>
     ze (zt (!(!(y2.token.kind==y3.token.kind&&(y2.token.text==y3.token.text&&(y2.token.num==y3.token.num&&(y2.token.unit==y3.token.unit&&(y2.token.flag==y3.token.flag&&true))))))) (QC (y4.list,y5.list)) (default:Bool)) fun y6=>
     bif bif !(y2.token.kind==y3.token.kind&&(y2.token.text==y3.token.text&&(y2.token.num==y3.token.num&&(y2.token.unit==y3.token.unit&&(y2.token.flag==y3.token.flag&&true)))))then true else !y6 then
      some (LO.ret false)
     else
      some (LO.again (w64 (s1+1)))
    else
     some (LO.out ()):Int->Option (LO (Int) (Unit) _)) 0 fun o7=>
  some true
def QC:List zg×List zg->Option Bool:=recE (BA)
def IA(ZL:List zb×Int×Int×Int->Option (List zg×Int))(x:List zb×Int×Int×Int):Option (List zg×Int):=
 Zg (fun(s1:Int×List zg)=>
   ze (zt (!(x.2.2.1==0)&&decide (s1.1<(x.1.length:Int))) (geti x.1 s1.1) (default:zb)) fun y2=>
   bif bif decide (s1.1<(x.1.length:Int))then bif x.2.2.1==0 then true else y2.kind != x.2.2.1 else false then
    ze (geti x.1 s1.1) fun y3=>
    zX (X:=Int×List zg×zg) (
      ze (qa y3.kind) fun y4=>
      bif y4 != 0 then
       bif x.2.2.2==0 then
        some (LX.ret (LO.ret ([],(-1))))
       else
        ze (ZL (x.1,w64 (s1.1+1),y4,w64 (x.2.2.2 - 1))) fun y5=>
        bif decide (y5.2<0)then
         some (LX.ret (LO.ret ([],(-1))))
        else
         some (LX.out (y5.2,s1.2,(⟨y3,y5.1⟩:zg)))
      else
       some (LX.out (w64 (s1.1+1),s1.2,(⟨y3,[]⟩:zg)))) fun j6=>
    need (zQ j6.2.1.length 1 80)<|
    some (LO.again (j6.1,j6.2.1++[(⟨j6.2.2.token,j6.2.2.list⟩:zg)]))
   else
    some (LO.out (s1.1,s1.2)):Int×List zg->Option (LO (Int×List zg) (Int×List zg) _)) (x.2.1,[]) fun o7=>
 some (o7.2,if w64 (o7.1+1)<(x.1.length:Int)then w64 (o7.1+1)else(x.1.length:Int))
def ZL:List zb×Int×Int×Int->Option (List zg×Int):=recE (IA)
def Ev(x:List zb):Option (List zg×Bool):=
 ze (ZL (x,0,0,16)) fun y1=>
 some (y1.1,decide (y1.2>=0))
def su(x:List zb):Option (List zg×Int):=
 bif decide ((x.length:Int)>1500)then
  some ([],4)
 else
  ze (Ev x) fun y1=>
  bif !y1.2 then
   some ([],20)
  else
   ze (Zk y1.1) fun y2=>
   bif decide ((y2.length:Int)>1500)then
    some ([],4)
   else
    some (y1.1,0)
def Ru(x:List zg):Option (List zb×Int):=
 ze (Bn x) fun y1=>
 bif y1 != 0 then
  some ([],y1)
 else
  ze (QN x) fun y2=>
  some (y2,0)
def eu(x:List zg):Option (List zb×Int):=
 ze (Gn x) fun y1=>
 bif y1 != 0 then
  some ([],y1)
 else
  ze (Zk x) fun y2=>
  some (y2,0)
def QS(x:Str):Option Bool:=
 Zg (fun(s1:Int)=>
   bif decide (s1<(x.length:Int))then
    ze (geti x s1) fun y2=>
    bif (y2.toNat:Int)==0 then
     some (LO.ret false)
    else
     some (LO.again (w64 (s1+1)))
   else
    some (LO.out ()):Int->Option (LO (Int) (Unit) _)) 0 fun o3=>
 some true
def zD(x:Int):Option Bool:=
 some (bif decide (x>=48)then decide (x<=57)else false)
def ku(x:Str):Option Bool:=
 bif x==[]then
  some false
 else
  ze (geti x 0) fun y1=>
  ze (zD (y1.toNat:Int)) fun y2=>
  ze (zt (!(bif y2 then true else x==[45])) (geti x 0) 0) fun y3=>
  ze (zt ((y3.toNat:Int)==45&& !(bif y2 then true else x==[45])) (geti x 1) 0) fun y4=>
  ze (zt ((y3.toNat:Int)==45&& !(bif y2 then true else x==[45])) (zD (y4.toNat:Int)) (default:Bool)) fun y5=>
  some (bif bif y2 then true else x==[45]then true else bif (y3.toNat:Int)==45 then y5 else false)
def qX(x:Int):Option Bool:=
 some (bif bif x==10 then true else x==9 then true else x==32)
def zG(x:Str×Int):Option Int:=
 bif decide (x.2<(x.1.length:Int))then
  ze (geti x.1 x.2) fun y1=>
  some (y1.toNat:Int)
 else
  some 0
def qw(x:Str×Int):Option Int:=
 Zg (fun(s1:Int)=>
   ze (zG (x.1,s1)) fun y2=>
   ze (qX y2) fun y3=>
   bif y3 then
    some (LO.again (w64 (s1+1)))
   else
    some (LO.out s1):Int->Option (LO (Int) (Int) _)) x.2 fun o4=>
 some o4
def om(x:Unit):Option Str:=
 some [(239:UInt8),(191:UInt8),(189:UInt8)]
def ZG(x:Int):Option Int:=
 bif bif decide (x>=65)then decide (x<=90)else false then
  some (wu8 (wu8 (x - 65)+97))
 else
  some x
def Bq(x:Int):Option Int:=
 ze (zD x) fun y1=>
 bif y1 then
  some (w64 (wu8 (x - 48)))
 else
  ze (ZG x) fun y2=>
  bif bif decide (y2>=97)then decide (y2<=102)else false then
   some (w64 (w64 (wu8 (y2 - 97))+10))
  else
   some (-1)
def Wu(x:Int):Option Str:=
 bif bif bif x==0 then true else bif decide (x>=55296)then decide (x<=57343)else false then true else decide (x>1114111)then
  ze (om ()) fun y1=>
  some y1
 else
  bif decide (x<128)then
   ze (ZO (wu8 x)) fun y2=>
   some [y2]
  else
   bif decide (x<2048)then
    ze (ZO (wu8 (w64 (192+w64 (Int.tdiv x 64))))) fun y3=>
    ze (ZO (wu8 (w64 (128+Int.tmod x 64)))) fun y4=>
    some [y3,y4]
   else
    bif decide (x<65536)then
     ze (ZO (wu8 (w64 (224+w64 (Int.tdiv x 4096))))) fun y5=>
     ze (ZO (wu8 (w64 (128+Int.tmod (w64 (Int.tdiv x 64)) 64)))) fun y6=>
     ze (ZO (wu8 (w64 (128+Int.tmod x 64)))) fun y7=>
     some [y5,y6,y7]
    else
     ze (ZO (wu8 (w64 (240+w64 (Int.tdiv x 262144))))) fun y8=>
     ze (ZO (wu8 (w64 (128+Int.tmod (w64 (Int.tdiv x 4096)) 64)))) fun y9=>
     ze (ZO (wu8 (w64 (128+Int.tmod (w64 (Int.tdiv x 64)) 64)))) fun y10=>
     ze (ZO (wu8 (w64 (128+Int.tmod x 64)))) fun y11=>
     some [y8,y9,y10,y11]
def Zn(x:Str×Int):Option (Str×Int):=
 bif decide (w64 (x.2+1)>=(x.1.length:Int))then
  ze (om ()) fun y1=>
  some (y1,w64 (x.2+1))
 else
  ze (geti x.1 (w64 (x.2+1))) fun y2=>
  ze (Bq (y2.toNat:Int)) fun y3=>
  bif decide (y3<0)then
   need (decide (0<=w64 (x.2+1))&&(decide (w64 (x.2+1)<=w64 (w64 (x.2+1)+1))&&decide (w64 (w64 (x.2+1)+1)<=(x.1.length:Int))))<|
   some (List.drop (w64 (x.2+1)).toNat (List.take (w64 (w64 (x.2+1)+1)).toNat x.1),w64 (w64 (x.2+1)+1))
  else
   Zg (fun(s4:Int×Int)=>
     ze (zt (bif decide (s4.2<(x.1.length:Int))then decide (s4.2<w64 (w64 (x.2+1)+6))else false) (geti x.1 s4.2) 0) fun y5=>
     ze (zt (bif decide (s4.2<(x.1.length:Int))then decide (s4.2<w64 (w64 (x.2+1)+6))else false) (Bq (y5.toNat:Int)) (default:Int)) fun y6=>
     bif bif bif decide (s4.2<(x.1.length:Int))then decide (s4.2<w64 (w64 (x.2+1)+6))else false then decide (y6>=0)else false then
      ze (geti x.1 s4.2) fun y7=>
      ze (Bq (y7.toNat:Int)) fun y8=>
      some (LO.again (w64 (w64 (16*s4.1)+y8),w64 (s4.2+1)))
     else
      some (LO.out (s4.1,s4.2)):Int×Int->Option (LO (Int×Int) (Int×Int) _)) (0,w64 (x.2+1)) fun o9=>
   zX (X:=Int) (
     ze (zG (x.1,o9.2)) fun y10=>
     ze (qX y10) fun y11=>
     bif y11 then
      some (LX.out (w64 (o9.2+1)))
     else
      some (LX.out o9.2)) fun j12=>
   ze (Wu o9.1) fun y13=>
   some (y13,j12)
def Fv(x:Str×Int):Option (zb×Int):=
 ze (geti x.1 x.2) fun y1=>
 Zg (fun(s2:Int×zb×zb)=>
   bif decide (s2.1<(x.1.length:Int))then
    ze (geti x.1 s2.1) fun y3=>
    bif (y3.toNat:Int)==(y1.toNat:Int)then
     some (LO.ret (s2.2.2,w64 (s2.1+1)))
    else
     ze (geti x.1 s2.1) fun y4=>
     bif (y4.toNat:Int)==10 then
      some (LO.ret ((⟨6,[],0,[],false⟩:zb),s2.1))
     else
      ze (geti x.1 s2.1) fun y5=>
      bif bif (y5.toNat:Int)==92 then w64 (s2.1+1)==(x.1.length:Int)else false then
       some (LO.again (w64 (s2.1+1),s2.2.1,s2.2.2))
      else
       ze (geti x.1 s2.1) fun y6=>
       ze (zt ((y6.toNat:Int)==92) (geti x.1 (w64 (s2.1+1))) 0) fun y7=>
       bif bif (y6.toNat:Int)==92 then(y7.toNat:Int)==10 else false then
        some (LO.again (w64 (s2.1+2),s2.2.1,s2.2.2))
       else
        ze (geti x.1 s2.1) fun y8=>
        bif (y8.toNat:Int)==92 then
         ze (Zn (x.1,s2.1)) fun y9=>
         need (Zt s2.2.2.text.length y9.1.length)<|
         some (LO.again (y9.2,s2.2.1,(⟨s2.2.2.kind,s2.2.2.text++y9.1,s2.2.2.num,s2.2.2.unit,s2.2.2.flag⟩:zb)))
        else
         need (decide (0<=s2.1)&&(decide (s2.1<=w64 (s2.1+1))&&decide (w64 (s2.1+1)<=(x.1.length:Int))))<|
         need (Zt s2.2.2.text.length (List.drop s2.1.toNat (List.take (w64 (s2.1+1)).toNat x.1)).length)<|
         some (LO.again (w64 (s2.1+1),s2.2.1,(⟨s2.2.2.kind,s2.2.2.text++List.drop s2.1.toNat (List.take (w64 (s2.1+1)).toNat x.1),s2.2.2.num,s2.2.2.unit,s2.2.2.flag⟩:zb)))
   else
    some (LO.out (s2.1,s2.2.1,s2.2.2)):Int×zb×zb->Option (LO (Int×zb×zb) (Int×zb×zb) _)) (w64 (x.2+1),(⟨0,[],0,[],false⟩:zb),(⟨5,[],0,[],false⟩:zb)) fun o10=>
 some (o10.2.2,o10.1)
def QR(x:Int):Option Bool:=
 ze (ZG x) fun y1=>
 some (bif bif bif decide (y1>=97)then decide (y1<=122)else false then true else x==95 then true else decide (x>=128))
def Zz(x:Int):Option Bool:=
 ze (QR x) fun y1=>
 ze (zt (!y1) (zD x) (default:Bool)) fun y2=>
 some (bif bif y1 then true else y2 then true else x==45)
def Zi(x:Str×Int):Option Bool:=
 ze (zG (x.1,x.2)) fun y1=>
 ze (zt (y1==92) (zG (x.1,w64 (x.2+1))) (default:Int)) fun y2=>
 some (bif y1==92 then y2 != 10 else false)
def qW(x:Str×Int):Option (Str×Int):=
 Zg (fun(s1:Int×Str)=>
   ze (zt (decide (s1.1<(x.1.length:Int))) (geti x.1 s1.1) 0) fun y2=>
   ze (zt (decide (s1.1<(x.1.length:Int))) (Zz (y2.toNat:Int)) (default:Bool)) fun y3=>
   bif bif decide (s1.1<(x.1.length:Int))then y3 else false then
    need (decide (0<=s1.1)&&(decide (s1.1<=w64 (s1.1+1))&&decide (w64 (s1.1+1)<=(x.1.length:Int))))<|
    need (Zt s1.2.length (List.drop s1.1.toNat (List.take (w64 (s1.1+1)).toNat x.1)).length)<|
    some (LO.again (w64 (s1.1+1),s1.2++List.drop s1.1.toNat (List.take (w64 (s1.1+1)).toNat x.1)))
   else
    ze (zt (decide (s1.1<(x.1.length:Int))) (Zi (x.1,s1.1)) (default:Bool)) fun y4=>
    bif bif decide (s1.1<(x.1.length:Int))then y4 else false then
     ze (Zn (x.1,s1.1)) fun y5=>
     need (Zt s1.2.length y5.1.length)<|
     some (LO.again (y5.2,s1.2++y5.1))
    else
     some (LO.ret (s1.2,s1.1)):Int×Str->Option (LO (Int×Str) (Unit) _)) (x.2,[]) fun o6=>
 none
def qQ(x:Str×Int):Option Bool:=
 ze (zG (x.1,x.2)) fun y1=>
 bif y1==45 then
  ze (zG (x.1,w64 (x.2+1))) fun y2=>
  ze (QR y2) fun y3=>
  ze (zt (!y3) (zG (x.1,w64 (x.2+1))) (default:Int)) fun y4=>
  ze (zt (!(bif y3 then true else y4==45)) (Zi (x.1,w64 (x.2+1))) (default:Bool)) fun y5=>
  some (bif bif y3 then true else y4==45 then true else y5)
 else
  ze (zG (x.1,x.2)) fun y6=>
  ze (QR y6) fun y7=>
  ze (zt (!y7) (Zi (x.1,x.2)) (default:Bool)) fun y8=>
  some (bif y7 then true else y8)
def Nv(x:Str×Int):Option Bool:=
 zX (X:=Int) (
   ze (zG (x.1,x.2)) fun y1=>
   bif bif y1==43 then true else y1==45 then
    some (LX.out (w64 (x.2+1)))
   else
    some (LX.out x.2)) fun j2=>
 zX (X:=Int) (
   ze (zG (x.1,j2)) fun y3=>
   bif y3==46 then
    some (LX.out (w64 (j2+1)))
   else
    some (LX.out j2)) fun j4=>
 ze (zG (x.1,j4)) fun y5=>
 ze (zD y5) fun y6=>
 some y6
def Qj(x:Str×Int):Option Int:=
 Zg (fun(s1:Int)=>
   ze (zG (x.1,s1)) fun y2=>
   ze (zD y2) fun y3=>
   bif y3 then
    some (LO.again (w64 (s1+1)))
   else
    some (LO.out s1):Int->Option (LO (Int) (Int) _)) x.2 fun o4=>
 some o4
def QQ(x:Str×Int):Option (Int×Bool):=
 zX (X:=Int) (
   ze (zG (x.1,x.2)) fun y1=>
   bif bif y1==43 then true else y1==45 then
    some (LX.out (w64 (x.2+1)))
   else
    some (LX.out x.2)) fun j2=>
 ze (Qj (x.1,j2)) fun y3=>
 zX (X:=Int×Bool) (
   ze (zG (x.1,y3)) fun y4=>
   ze (zt (y4==46) (zG (x.1,w64 (y3+1))) (default:Int)) fun y5=>
   ze (zt (y4==46) (zD y5) (default:Bool)) fun y6=>
   bif bif y4==46 then y6 else false then
    ze (Qj (x.1,w64 (y3+1))) fun y7=>
    some (LX.out (y7,false))
   else
    some (LX.out (y3,true))) fun j8=>
 zX (X:=Int×Bool) (
   ze (zG (x.1,j8.1)) fun y9=>
   bif bif y9==101 then true else y9==69 then
    zX (X:=Int×Bool×Int) (
      ze (zG (x.1,w64 (j8.1+1))) fun y10=>
      bif bif y10==43 then true else y10==45 then
       some (LX.out (j8.1,j8.2,w64 (w64 (j8.1+1)+1)))
      else
       some (LX.out (j8.1,j8.2,w64 (j8.1+1)))) fun j11=>
    ze (zG (x.1,j11.2.2)) fun y12=>
    ze (zD y12) fun y13=>
    bif y13 then
     ze (Qj (x.1,j11.2.2)) fun y14=>
     some (LX.out (y14,false))
    else
     some (LX.out (j11.1,j11.2.1))
   else
    some (LX.out (j8.1,j8.2))) fun j15=>
 some (j15.1,j15.2)
def Qe(x:Str):Option Int:=
 ze (geti x 0) fun y1=>
 zX (X:=Str×Int×Int) (
   ze (geti x 0) fun y2=>
   bif bif (y2.toNat:Int)==43 then true else(y1.toNat:Int)==45 then
    some (LX.out ([],3,1))
   else
    some (LX.out ([],3,0))) fun j3=>
 Zg (fun(s4:Str×Int)=>
   ze (zG (x,s4.2)) fun y5=>
   ze (zD y5) fun y6=>
   bif y6 then
    need (decide (0<=s4.2)&&(decide (s4.2<=w64 (s4.2+1))&&decide (w64 (s4.2+1)<=(x.length:Int))))<|
    need (Zt s4.1.length (List.drop s4.2.toNat (List.take (w64 (s4.2+1)).toNat x)).length)<|
    some (LO.again (s4.1++List.drop s4.2.toNat (List.take (w64 (s4.2+1)).toNat x),w64 (s4.2+1)))
   else
    some (LO.out (s4.1,s4.2)):Str×Int->Option (LO (Str×Int) (Str×Int) _)) (j3.1,j3.2.2) fun o7=>
 zX (X:=Str×Int×Int) (
   ze (zG (x,o7.2)) fun y8=>
   bif y8==46 then
    Zg (fun(s9:Str×Int×Int)=>
      ze (zG (x,s9.2.2)) fun y10=>
      ze (zD y10) fun y11=>
      bif y11 then
       need (decide (0<=s9.2.2)&&(decide (s9.2.2<=w64 (s9.2.2+1))&&decide (w64 (s9.2.2+1)<=(x.length:Int))))<|
       need (Zt s9.1.length (List.drop s9.2.2.toNat (List.take (w64 (s9.2.2+1)).toNat x)).length)<|
       some (LO.again (s9.1++List.drop s9.2.2.toNat (List.take (w64 (s9.2.2+1)).toNat x),w64 (s9.2.1 - 1),w64 (s9.2.2+1)))
      else
       some (LO.out (s9.1,s9.2.1,s9.2.2)):Str×Int×Int->Option (LO (Str×Int×Int) (Str×Int×Int) _)) (o7.1,j3.2.1,w64 (o7.2+1)) fun o12=>
    some (LX.out (o12.1,o12.2.1,o12.2.2))
   else
    some (LX.out (o7.1,j3.2.1,o7.2))) fun j13=>
 zX (X:=Int) (
   bif decide (j13.2.2<(x.length:Int))then
    ze (geti x (w64 (j13.2.2+1))) fun y14=>
    zX (X:=Int×Int) (
      ze (geti x (w64 (j13.2.2+1))) fun y15=>
      bif bif (y15.toNat:Int)==43 then true else(y14.toNat:Int)==45 then
       some (LX.out (j13.2.1,w64 (w64 (j13.2.2+1)+1)))
      else
       some (LX.out (j13.2.1,w64 (j13.2.2+1)))) fun j16=>
    Zg (fun(s17:Int×Int)=>
      bif decide (s17.1<(x.length:Int))then
       ze (geti x s17.1) fun y18=>
       some (LO.again (w64 (s17.1+1),if w64 (w64 (10*s17.2)+w64 (wu8 ((y18.toNat:Int) - 48)))<10000 then w64 (w64 (10*s17.2)+w64 (wu8 ((y18.toNat:Int) - 48)))else 10000))
      else
       some (LO.out s17.2):Int×Int->Option (LO (Int×Int) (Int) _)) (j16.2,0) fun o19=>
    zX (X:=Int×Int) (
      bif (y14.toNat:Int)==45 then
       some (LX.out (j16.1,w64 (0 - o19)))
      else
       some (LX.out (j16.1,o19))) fun j20=>
    some (LX.out (w64 (j20.1+j20.2)))
   else
    some (LX.out j13.2.1)) fun j21=>
 Zg (fun(s22:Int×Int)=>
   bif bif decide (s22.2<w64 ((j13.1.length:Int)+j21))then decide (s22.2<(j13.1.length:Int))else false then
    ze (geti j13.1 s22.2) fun y23=>
    some (LO.again (if w64 (w64 (10*s22.1)+w64 (wu8 ((y23.toNat:Int) - 48)))<1000000000000 then w64 (w64 (10*s22.1)+w64 (wu8 ((y23.toNat:Int) - 48)))else 1000000000000,w64 (s22.2+1)))
   else
    some (LO.out s22.1):Int×Int->Option (LO (Int×Int) (Int) _)) (0,0) fun o24=>
 Zg (fun(s25:Int×Int)=>
   bif bif bif decide (s25.1>0)then decide (s25.2>0)else false then decide (s25.2<1000000000000)else false then
    some (LO.again (w64 (s25.1 - 1),if w64 (10*s25.2)<1000000000000 then w64 (10*s25.2)else 1000000000000))
   else
    some (LO.out s25.2):Int×Int->Option (LO (Int×Int) (Int) _)) (j21,o24) fun o26=>
 bif (y1.toNat:Int)==45 then
  some (w64 (0 - o26))
 else
  some o26
def Bv(x:Str×Int):Option (zb×Int):=
 ze (QQ (x.1,x.2)) fun y1=>
 need (decide (0<=x.2)&&(decide (x.2<=y1.1)&&decide (y1.1<=(x.1.length:Int))))<|
 ze (Qe (List.drop x.2.toNat (List.take y1.1.toNat x.1))) fun y2=>
 zX (X:=Int×zb×zb) (
   ze (qQ (x.1,y1.1)) fun y3=>
   bif y3 then
    ze (qW (x.1,y1.1)) fun y4=>
    some (LX.out (y4.2,(⟨0,[],0,[],false⟩:zb),(⟨12,[],y2,y4.1,y1.2⟩:zb)))
   else
    ze (zG (x.1,y1.1)) fun y5=>
    bif y5==37 then
     some (LX.out (w64 (y1.1+1),(⟨0,[],0,[],false⟩:zb),(⟨11,[],y2,[],false⟩:zb)))
    else
     some (LX.out (y1.1,(⟨0,[],0,[],false⟩:zb),(⟨10,[],y2,[],y1.2⟩:zb)))) fun j6=>
 some (j6.2.2,j6.1)
def Ti(x:Str×Int×Str):Option Bool:=
 need (decide (0<=x.2.1)&&(decide (x.2.1<=w64 (x.2.1+(x.2.2.length:Int)))&&decide (w64 (x.2.1+(x.2.2.length:Int))<=(x.1.length:Int)))|| !(decide (w64 ((x.1.length:Int) - x.2.1)>=(x.2.2.length:Int))))<|
 some (bif decide (w64 ((x.1.length:Int) - x.2.1)>=(x.2.2.length:Int))then List.drop x.2.1.toNat (List.take (w64 (x.2.1+(x.2.2.length:Int))).toNat x.1)==x.2.2 else false)
def Pq(x:Str):Option Str:=
 need (decide (x.length<=maxLen))<|
 Zg (fun(s1:Int×List UInt8)=>
   bif decide (s1.1<(s1.2.length:Int))then
    need (decide (0<=s1.1)&&decide (s1.1<(s1.2.length:Int)))<|
    ze s1.2[s1.1.toNat]? fun y2=>
    ze (ZG (y2.toNat:Int)) fun y3=>
    need (decide (0<=s1.1)&&decide (s1.1<(s1.2.length:Int)))<|
    ze s1.2[s1.1.toNat]? fun y4=>
    ze (ZO y3) fun y5=>
    some (LO.again (w64 (s1.1+1),List.set s1.2 s1.1.toNat y5))
   else
    some (LO.out s1.2):Int×List UInt8->Option (LO (Int×List UInt8) (List UInt8) _)) (0,x) fun o6=>
 some o6
def qG(x:Str×Str):Option Bool:=
 ze (Pq x.1) fun y1=>
 ze (Pq x.2) fun y2=>
 some (y1==y2)
def Xk(x:Str×Int):Option (zb×Int):=
 Zg (fun(s1:Int)=>
   ze (zt (decide (s1<(x.1.length:Int))) (geti x.1 s1) 0) fun y2=>
   bif bif decide (s1<(x.1.length:Int))then(y2.toNat:Int) != 41 else false then
    ze (Zi (x.1,s1)) fun y3=>
    bif y3 then
     ze (Zn (x.1,s1)) fun y4=>
     some (LO.again y4.2)
    else
     some (LO.again (w64 (s1+1)))
   else
    some (LO.out s1):Int->Option (LO (Int) (Int) _)) x.2 fun o5=>
 some ((⟨8,[],0,[],false⟩:zb),if w64 (o5+1)<(x.1.length:Int)then w64 (o5+1)else(x.1.length:Int))
def Qf(x:Int):Option Bool:=
 some (bif bif bif decide (x<=8)then true else x==11 then true else bif decide (x>=14)then decide (x<=31)else false then true else x==127)
def Lu(x:Str×Int):Option (zb×Int):=
 ze (qw (x.1,x.2)) fun y1=>
 Zg (fun(s2:Int×zb×zb)=>
   ze (zt (decide (s2.1<(x.1.length:Int))) (geti x.1 s2.1) 0) fun y3=>
   bif bif decide (s2.1<(x.1.length:Int))then(y3.toNat:Int) != 41 else false then
    ze (geti x.1 s2.1) fun y4=>
    ze (qX (y4.toNat:Int)) fun y5=>
    bif y5 then
     ze (qw (x.1,s2.1)) fun y6=>
     ze (zt (decide (y6<(x.1.length:Int))) (geti x.1 y6) 0) fun y7=>
     bif bif decide (y6<(x.1.length:Int))then(y7.toNat:Int) != 41 else false then
      ze (Xk (x.1,y6)) fun y8=>
      some (LO.ret (y8.1,y8.2))
     else
      some (LO.again (y6,s2.2.1,s2.2.2))
    else
     ze (zt (!(bif bif (y4.toNat:Int)==34 then true else(y4.toNat:Int)==39 then true else(y4.toNat:Int)==40)) (Qf (y4.toNat:Int)) (default:Bool)) fun y9=>
     ze (zt ((y4.toNat:Int)==92&& !(bif bif bif (y4.toNat:Int)==34 then true else(y4.toNat:Int)==39 then true else(y4.toNat:Int)==40 then true else y9)) (Zi (x.1,s2.1)) (default:Bool)) fun y10=>
     bif bif bif bif bif (y4.toNat:Int)==34 then true else(y4.toNat:Int)==39 then true else(y4.toNat:Int)==40 then true else y9 then true else bif (y4.toNat:Int)==92 then !y10 else false then
      ze (Xk (x.1,s2.1)) fun y11=>
      some (LO.ret (y11.1,y11.2))
     else
      bif (y4.toNat:Int)==92 then
       ze (Zn (x.1,s2.1)) fun y12=>
       need (Zt s2.2.2.text.length y12.1.length)<|
       some (LO.again (y12.2,s2.2.1,(⟨s2.2.2.kind,s2.2.2.text++y12.1,s2.2.2.num,s2.2.2.unit,s2.2.2.flag⟩:zb)))
      else
       need (decide (0<=s2.1)&&(decide (s2.1<=w64 (s2.1+1))&&decide (w64 (s2.1+1)<=(x.1.length:Int))))<|
       need (Zt s2.2.2.text.length (List.drop s2.1.toNat (List.take (w64 (s2.1+1)).toNat x.1)).length)<|
       some (LO.again (w64 (s2.1+1),s2.2.1,(⟨s2.2.2.kind,s2.2.2.text++List.drop s2.1.toNat (List.take (w64 (s2.1+1)).toNat x.1),s2.2.2.num,s2.2.2.unit,s2.2.2.flag⟩:zb)))
   else
    some (LO.out (s2.1,s2.2.1,s2.2.2)):Int×zb×zb->Option (LO (Int×zb×zb) (Int×zb×zb) _)) (y1,(⟨0,[],0,[],false⟩:zb),(⟨7,[],0,[],false⟩:zb)) fun o13=>
 some (o13.2.2,if w64 (o13.1+1)<(x.1.length:Int)then w64 (o13.1+1)else(x.1.length:Int))
def lu(x:Str×Int):Option (zb×Int):=
 ze (qW (x.1,x.2)) fun y1=>
 ze (zG (x.1,y1.2)) fun y2=>
 bif y2 != 40 then
  some ((⟨1,y1.1,0,[],false⟩:zb),y1.2)
 else
  zX (X:=zb) (
    ze (qG (y1.1,[117,114,108])) fun y3=>
    bif y3 then
     ze (qw (x.1,w64 (y1.2+1))) fun y4=>
     ze (zG (x.1,y4)) fun y5=>
     bif bif y5 != 34 then y5 != 39 else false then
      ze (Lu (x.1,w64 (y1.2+1))) fun y6=>
      some (LX.ret (y6.1,y6.2))
     else
      some (LX.out (⟨0,[],0,[],false⟩:zb))
    else
     some (LX.out (⟨0,[],0,[],false⟩:zb))) fun j7=>
  some ((⟨2,y1.1,0,[],false⟩:zb),w64 (y1.2+1))
def nu(x:Int):Option Int:=
 bif x==58 then
  some 16
 else
  bif x==59 then
   some 17
  else
   bif x==44 then
    some 18
   else
    bif x==91 then
     some 19
    else
     bif x==93 then
      some 20
     else
      bif x==40 then
       some 21
      else
       bif x==41 then
        some 22
       else
        bif x==123 then
         some 23
        else
         bif x==125 then
          some 24
         else
          some 0
def Lj(x:Str×Int):Option (zb×Int):=
 ze (geti x.1 x.2) fun y1=>
 ze (qX (y1.toNat:Int)) fun y2=>
 bif y2 then
  ze (qw (x.1,x.2)) fun y3=>
  some ((⟨13,[],0,[],false⟩:zb),y3)
 else
  bif bif (y1.toNat:Int)==34 then true else(y1.toNat:Int)==39 then
   ze (Fv (x.1,x.2)) fun y4=>
   some (y4.1,y4.2)
  else
   ze (zt (decide (w64 (x.2+1)<(x.1.length:Int))&&(y1.toNat:Int)==35) (geti x.1 (w64 (x.2+1))) 0) fun y5=>
   ze (zt (decide (w64 (x.2+1)<(x.1.length:Int))&&(y1.toNat:Int)==35) (Zz (y5.toNat:Int)) (default:Bool)) fun y6=>
   ze (zt (!(bif decide (w64 (x.2+1)<(x.1.length:Int))then y6 else false)&&(y1.toNat:Int)==35) (Zi (x.1,w64 (x.2+1))) (default:Bool)) fun y7=>
   bif bif (y1.toNat:Int)==35 then bif bif decide (w64 (x.2+1)<(x.1.length:Int))then y6 else false then true else y7 else false then
    ze (qW (x.1,w64 (x.2+1))) fun y8=>
    ze (qQ (x.1,w64 (x.2+1))) fun y9=>
    some ((⟨4,y8.1,0,[],y9⟩:zb),y8.2)
   else
    ze (Nv (x.1,x.2)) fun y10=>
    bif y10 then
     ze (Bv (x.1,x.2)) fun y11=>
     some (y11.1,y11.2)
    else
     ze (Ti (x.1,x.2,[45,45,62])) fun y12=>
     bif y12 then
      some ((⟨15,[],0,[],false⟩:zb),w64 (x.2+3))
     else
      ze (Ti (x.1,x.2,[60,33,45,45])) fun y13=>
      bif y13 then
       some ((⟨14,[],0,[],false⟩:zb),w64 (x.2+4))
      else
       ze (zt ((y1.toNat:Int)==64) (qQ (x.1,w64 (x.2+1))) (default:Bool)) fun y14=>
       bif bif (y1.toNat:Int)==64 then y14 else false then
        ze (qW (x.1,w64 (x.2+1))) fun y15=>
        some ((⟨3,y15.1,0,[],false⟩:zb),y15.2)
       else
        ze (qQ (x.1,x.2)) fun y16=>
        bif y16 then
         ze (lu (x.1,x.2)) fun y17=>
         some (y17.1,y17.2)
        else
         ze (nu (y1.toNat:Int)) fun y18=>
         bif y18 != 0 then
          ze (nu (y1.toNat:Int)) fun y19=>
          some ((⟨y19,[],0,[],false⟩:zb),w64 (x.2+1))
         else
          need (decide (0<=x.2)&&(decide (x.2<=w64 (x.2+1))&&decide (w64 (x.2+1)<=(x.1.length:Int))))<|
          some ((⟨9,List.drop x.2.toNat (List.take (w64 (x.2+1)).toNat x.1),0,[],false⟩:zb),w64 (x.2+1))
def qY(x:Int):Option Bool:=
 ze (ZO x) fun y1=>
 ze (Lj ([y1,(10:UInt8)],0)) fun y2=>
 some (bif bif bif bif decide (x>=1)then decide (x<=127)else false then x != 12 else false then x != 13 else false then y2.1.kind==9 else false)
def gu(x:zb):Option Bool:=
 zX (X:=Bool×zb) (
   bif x.kind==1 then
    some (LX.out (x.kind==1,x))
   else
    bif x.kind==2 then
     some (LX.out (x.kind==2,x))
    else
     some (LX.out (x.kind==3,x))) fun j1=>
 bif j1.1 then
  ze (zt (!(x.text==[])) (QS x.text) (default:Bool)) fun y2=>
  some (bif bif !(x.text==[])then y2 else false then j1.2.kind==x.kind&&(([]:Str)==[]&&(j1.2.num==0&&(j1.2.unit==[]&&(j1.2.flag==false&&true))))else false)
 else
  bif x.kind==4 then
   ze (zt (!(x.text==[])) (QS x.text) (default:Bool)) fun y3=>
   ze (zt (!x.flag&&(bif !(x.text==[])then y3 else false)) (ku x.text) (default:Bool)) fun y4=>
   some (bif bif bif !(x.text==[])then y3 else false then bif x.flag then true else y4 else false then j1.2.kind==x.kind&&(([]:Str)==[]&&(j1.2.num==0&&(j1.2.unit==[]&&(false==false&&true))))else false)
  else
   zX (X:=Bool×zb) (
     bif x.kind==5 then
      some (LX.out (x.kind==5,j1.2))
     else
      some (LX.out (x.kind==7,j1.2))) fun j5=>
   bif j5.1 then
    ze (QS x.text) fun y6=>
    some (bif y6 then j5.2.kind==x.kind&&(([]:Str)==[]&&(j5.2.num==0&&(j5.2.unit==[]&&(j5.2.flag==false&&true))))else false)
   else
    bif x.kind==9 then
     ze (zt ((x.text.length:Int)==1) (geti x.text 0) 0) fun y7=>
     ze (zt ((x.text.length:Int)==1) (qY (y7.toNat:Int)) (default:Bool)) fun y8=>
     some (bif bif (x.text.length:Int)==1 then y8 else false then j5.2.kind==x.kind&&(([]:Str)==[]&&(j5.2.num==0&&(j5.2.unit==[]&&(j5.2.flag==false&&true))))else false)
    else
     zX (X:=Bool×zb) (
       bif x.kind==10 then
        some (LX.out (x.kind==10,j5.2))
       else
        bif x.kind==11 then
         some (LX.out (x.kind==11,j5.2))
        else
         some (LX.out (x.kind==12,j5.2))) fun j9=>
     bif j9.1 then
      ze (zt ((!(x.unit==[]))==(x.kind==12)) (QS x.unit) (default:Bool)) fun y10=>
      some (bif bif bif bif bif decide (x.num>=(-1000000000000))then decide (x.num<=1000000000000)else false then bif !x.flag then true else Int.tmod x.num 1000==0 else false then bif (!(x.unit==[]))==(x.kind==12)then y10 else false else false then bif x.kind != 11 then true else !x.flag else false then j9.2.kind==x.kind&&(j9.2.text==[]&&(0==0&&(([]:Str)==[]&&(false==false&&true))))else false)
     else
      zX (X:=Bool) (
        bif x.kind==6 then
         some (LX.out (x.kind==6))
        else
         some (LX.out (x.kind==8))) fun j11=>
      bif j11 then
       some false
      else
       some (bif bif decide (x.kind>=1)then decide (x.kind<=24)else false then x.kind==x.kind&&(x.text==[]&&(x.num==0&&(x.unit==[]&&(x.flag==false&&true))))else false)
def xu(x:List zb):Option Int:=
 bif decide ((x.length:Int)>1500)then
  some 4
 else
  Zg (fun(s1:Int)=>
    bif decide (s1<(x.length:Int))then
     ze (geti x s1) fun y2=>
     ze (gu y2) fun y3=>
     bif !y3 then
      some (LO.ret 8)
     else
      zX (X:=Unit) (
        ze (geti x s1) fun y4=>
        ze (zt (y4.kind==2) (geti x s1) (default:zb)) fun y5=>
        ze (zt (y4.kind==2) (qG (y5.text,[117,114,108])) (default:Bool)) fun y6=>
        bif bif y4.kind==2 then y6 else false then
         zX (X:=Int) (
           ze (zt (decide (w64 (s1+1)<(x.length:Int))) (geti x (w64 (s1+1))) (default:zb)) fun y7=>
           bif bif decide (w64 (s1+1)<(x.length:Int))then y7.kind==13 else false then
            some (LX.out (w64 (w64 (s1+1)+1)))
           else
            some (LX.out (w64 (s1+1)))) fun j8=>
         ze (zt (!(decide (j8>=(x.length:Int)))) (geti x j8) (default:zb)) fun y9=>
         bif bif decide (j8>=(x.length:Int))then true else y9.kind != 5 then
          some (LX.ret (LO.ret 8))
         else
          some (LX.out ())
        else
         some (LX.out ())) fun j10=>
      ze (geti x s1) fun y11=>
      ze (zt (y11.kind==9) (geti x s1) (default:zb)) fun y12=>
      ze (zt (!(w64 (s1+1)==(x.length:Int))&&(bif y11.kind==9 then y12.text==[92]else false)) (geti x (w64 (s1+1))) (default:zb)) fun y13=>
      bif bif bif y11.kind==9 then y12.text==[92]else false then bif w64 (s1+1)==(x.length:Int)then true else y13.kind != 13 else false then
       some (LO.ret 8)
      else
       some (LO.again (w64 (s1+1)))
    else
     some (LO.out ()):Int->Option (LO (Int) (Unit) _)) 0 fun o14=>
  some 0
def qx(x:Int):Option Str:=
 ze (ZG x) fun y1=>
 ze (zt (bif decide (x>=33)then decide (x<=126)else false) (zD x) (default:Bool)) fun y2=>
 bif bif bif bif decide (x>=33)then decide (x<=126)else false then !y2 else false then bif decide (y1<97)then true else decide (y1>122)else false then
  ze (ZO x) fun y3=>
  some [(92:UInt8),y3]
 else
  need (decide (0<=Int.tmod x 16)&&(decide (Int.tmod x 16<=wu8 (Int.tmod x 16+1))&&decide (wu8 (Int.tmod x 16+1)<=16)))<|
  zX (X:=Str) (
    bif decide (x>=16)then
     need (decide (0<=wu8 (Int.tdiv x 16))&&(decide (wu8 (Int.tdiv x 16)<=wu8 (wu8 (Int.tdiv x 16)+1))&&decide (wu8 (wu8 (Int.tdiv x 16)+1)<=16)))<|
     need (Zt (List.drop (wu8 (Int.tdiv x 16)).toNat (List.take (wu8 (wu8 (Int.tdiv x 16)+1)).toNat ([48,49,50,51,52,53,54,55,56,57,97,98,99,100,101,102]:Str))).length (List.drop (Int.tmod x 16).toNat (List.take (wu8 (Int.tmod x 16+1)).toNat ([48,49,50,51,52,53,54,55,56,57,97,98,99,100,101,102]:Str))).length)<|
     some (LX.out (List.drop (wu8 (Int.tdiv x 16)).toNat (List.take (wu8 (wu8 (Int.tdiv x 16)+1)).toNat ([48,49,50,51,52,53,54,55,56,57,97,98,99,100,101,102]:Str))++List.drop (Int.tmod x 16).toNat (List.take (wu8 (Int.tmod x 16+1)).toNat ([48,49,50,51,52,53,54,55,56,57,97,98,99,100,101,102]:Str))))
    else
     some (LX.out (List.drop (Int.tmod x 16).toNat (List.take (wu8 (Int.tmod x 16+1)).toNat ([48,49,50,51,52,53,54,55,56,57,97,98,99,100,101,102]:Str))))) fun j4=>
  need (Zt ([92]:Str).length j4.length)<|
  need (Zt (([92]:Str)++j4).length ([32]:Str).length)<|
  some (([92]:Str)++j4++([32]:Str))
def qH(x:Str×Bool):Option Str:=
 Zg (fun(s1:Str×Int)=>
   bif decide (s1.2<(x.1.length:Int))then
    zX (X:=Str×Int) (
      ze (geti x.1 s1.2) fun y2=>
      ze (zt (s1.2==1&& !(s1.2==0)) (geti x.1 0) 0) fun y3=>
      ze (Zz (y2.toNat:Int)) fun y4=>
      zX (X:=Str×Bool) (
        ze (zt (!x.2) (zD (y2.toNat:Int)) (default:Bool)) fun y5=>
        bif bif !x.2 then bif bif y5 then bif s1.2==0 then true else bif s1.2==1 then(y3.toNat:Int)==45 else false else false then true else x.1==[45]else false then
         some (LX.out (s1.1,false))
        else
         some (LX.out (s1.1,y4))) fun j6=>
      bif j6.2 then
       need (decide (0<=s1.2)&&(decide (s1.2<=w64 (s1.2+1))&&decide (w64 (s1.2+1)<=(x.1.length:Int))))<|
       need (Zt j6.1.length (List.drop s1.2.toNat (List.take (w64 (s1.2+1)).toNat x.1)).length)<|
       some (LX.out (j6.1++List.drop s1.2.toNat (List.take (w64 (s1.2+1)).toNat x.1),s1.2))
      else
       ze (qx (y2.toNat:Int)) fun y7=>
       need (Zt j6.1.length y7.length)<|
       some (LX.out (j6.1++y7,s1.2))) fun j8=>
    some (LO.again (j8.1,w64 (j8.2+1)))
   else
    some (LO.out s1.1):Str×Int->Option (LO (Str×Int) (Str) _)) ([],0) fun o9=>
 some o9
def Wq(x:Str×Bool):Option Str:=
 Zg (fun(s1:Str×Int)=>
   bif decide (s1.2<(x.1.length:Int))then
    zX (X:=Str×Int) (
      ze (geti x.1 s1.2) fun y2=>
      zX (X:=Str×Bool) (
        bif x.2 then
         some (LX.out (s1.1,bif bif bif bif bif bif bif bif bif (y2.toNat:Int)==10 then true else(y2.toNat:Int)==12 then true else(y2.toNat:Int)==13 then true else(y2.toNat:Int)==34 then true else(y2.toNat:Int)==92 then true else decide ((y2.toNat:Int)<=32)then true else(y2.toNat:Int)==127 then true else(y2.toNat:Int)==39 then true else(y2.toNat:Int)==40 then true else(y2.toNat:Int)==41))
        else
         some (LX.out (s1.1,bif bif bif bif (y2.toNat:Int)==10 then true else(y2.toNat:Int)==12 then true else(y2.toNat:Int)==13 then true else(y2.toNat:Int)==34 then true else(y2.toNat:Int)==92))) fun j3=>
      bif j3.2 then
       ze (qx (y2.toNat:Int)) fun y4=>
       need (Zt j3.1.length y4.length)<|
       some (LX.out (j3.1++y4,s1.2))
      else
       need (decide (0<=s1.2)&&(decide (s1.2<=w64 (s1.2+1))&&decide (w64 (s1.2+1)<=(x.1.length:Int))))<|
       need (Zt j3.1.length (List.drop s1.2.toNat (List.take (w64 (s1.2+1)).toNat x.1)).length)<|
       some (LX.out (j3.1++List.drop s1.2.toNat (List.take (w64 (s1.2+1)).toNat x.1),s1.2))) fun j5=>
    some (LO.again (j5.1,w64 (j5.2+1)))
   else
    some (LO.out s1.1):Str×Int->Option (LO (Str×Int) (Str) _)) ([],0) fun o6=>
 some o6
def NA(Z9:Int->Option Str)(x:Int):Option Str:=
 bif decide (x<10)then
  need (decide (0<=x)&&(decide (x<=w64 (x+1))&&decide (w64 (x+1)<=16)))<|
  some (List.drop x.toNat (List.take (w64 (x+1)).toNat ([48,49,50,51,52,53,54,55,56,57,97,98,99,100,101,102]:Str)))
 else
  ze (Z9 (w64 (Int.tdiv x 10))) fun y1=>
  need (decide (0<=Int.tmod x 10)&&(decide (Int.tmod x 10<=w64 (Int.tmod x 10+1))&&decide (w64 (Int.tmod x 10+1)<=16)))<|
  need (Zt y1.length (List.drop (Int.tmod x 10).toNat (List.take (w64 (Int.tmod x 10+1)).toNat ([48,49,50,51,52,53,54,55,56,57,97,98,99,100,101,102]:Str))).length)<|
  some (y1++List.drop (Int.tmod x 10).toNat (List.take (w64 (Int.tmod x 10+1)).toNat ([48,49,50,51,52,53,54,55,56,57,97,98,99,100,101,102]:Str)))
def Z9:Int->Option Str:=recE (NA)
def LA(ZK:Int×Bool->Option Str)(x:Int×Bool):Option Str:=
 bif decide (x.1<0)then
  ze (ZK (w64 (0 - x.1),x.2)) fun y1=>
  need (Zt ([45]:Str).length y1.length)<|
  some (([45]:Str)++y1)
 else
  ze (Z9 (w64 (Int.tdiv x.1 1000))) fun y2=>
  bif Int.tmod x.1 1000==0 then
   bif x.2 then
    need (Zt y2.length ([46,48]:Str).length)<|
    some (y2++([46,48]:Str))
   else
    some y2
  else
   ze (Z9 (w64 (Int.tmod x.1 1000+1000))) fun y3=>
   need (decide (1<=(y3.length:Int)))<|
   Zg (fun(s4:Str)=>
     ze (geti s4 (w64 ((s4.length:Int) - 1))) fun y5=>
     bif (y5.toNat:Int)==48 then
      need (decide (0<=w64 ((s4.length:Int) - 1))&&decide (w64 ((s4.length:Int) - 1)<=(s4.length:Int)))<|
      some (LO.again (List.take (w64 ((s4.length:Int) - 1)).toNat s4))
     else
      some (LO.out s4):Str->Option (LO (Str) (Str) _)) (List.drop 1 y3) fun o6=>
   need (Zt y2.length ([46]:Str).length)<|
   need (Zt (y2++([46]:Str)).length o6.length)<|
   some (y2++([46]:Str)++o6)
def ZK:Int×Bool->Option Str:=recE (LA)
def fu(x:Str):Option Str:=
 ze (geti x 0) fun y1=>
 ze (ZG (y1.toNat:Int)) fun y2=>
 ze (zt (y2==101) (zG (x,1)) (default:Int)) fun y3=>
 ze (zt (y2==101) (zD y3) (default:Bool)) fun y4=>
 ze (zt (!y4&&y2==101) (zG (x,1)) (default:Int)) fun y5=>
 ze (zt (y5==45&&(!y4&&y2==101)) (zG (x,2)) (default:Int)) fun y6=>
 ze (zt (y5==45&&(!y4&&y2==101)) (zD y6) (default:Bool)) fun y7=>
 bif bif y2==101 then bif y4 then true else bif y5==45 then y7 else false else false then
  ze (geti x 0) fun y8=>
  ze (qx (y8.toNat:Int)) fun y9=>
  Zg (fun(s10:Str×Int)=>
    bif decide (s10.2<(x.length:Int))then
     zX (X:=Str×Int) (
       ze (geti x s10.2) fun y11=>
       ze (Zz (y11.toNat:Int)) fun y12=>
       bif y12 then
        need (decide (0<=s10.2)&&(decide (s10.2<=w64 (s10.2+1))&&decide (w64 (s10.2+1)<=(x.length:Int))))<|
        need (Zt s10.1.length (List.drop s10.2.toNat (List.take (w64 (s10.2+1)).toNat x)).length)<|
        some (LX.out (s10.1++List.drop s10.2.toNat (List.take (w64 (s10.2+1)).toNat x),s10.2))
       else
        ze (geti x s10.2) fun y13=>
        ze (qx (y13.toNat:Int)) fun y14=>
        need (Zt s10.1.length y14.length)<|
        some (LX.out (s10.1++y14,s10.2))) fun j15=>
     some (LO.again (j15.1,w64 (j15.2+1)))
    else
     some (LO.out s10.1):Str×Int->Option (LO (Str×Int) (Str) _)) (y9,1) fun o16=>
  some o16
 else
  ze (qH (x,false)) fun y17=>
  some y17
def lm(x:zb):Option Str:=
 bif x.kind==1 then
  ze (qH (x.text,false)) fun y1=>
  some y1
 else
  bif x.kind==2 then
   ze (qH (x.text,false)) fun y2=>
   need (Zt y2.length ([40]:Str).length)<|
   some (y2++([40]:Str))
  else
   bif x.kind==3 then
    ze (qH (x.text,false)) fun y3=>
    need (Zt ([64]:Str).length y3.length)<|
    some (([64]:Str)++y3)
   else
    bif x.kind==4 then
     ze (qH (x.text, !x.flag)) fun y4=>
     need (Zt ([35]:Str).length y4.length)<|
     some (([35]:Str)++y4)
    else
     bif x.kind==5 then
      ze (Wq (x.text,false)) fun y5=>
      need (Zt ([34]:Str).length y5.length)<|
      need (Zt (([34]:Str)++y5).length ([34]:Str).length)<|
      some (([34]:Str)++y5++([34]:Str))
     else
      bif x.kind==7 then
       ze (Wq (x.text,true)) fun y6=>
       need (Zt ([117,114,108,40]:Str).length y6.length)<|
       need (Zt (([117,114,108,40]:Str)++y6).length ([41]:Str).length)<|
       some (([117,114,108,40]:Str)++y6++([41]:Str))
      else
       bif x.kind==9 then
        some x.text
       else
        bif x.kind==10 then
         ze (ZK (x.num, !x.flag)) fun y7=>
         some y7
        else
         bif x.kind==11 then
          ze (ZK (x.num,false)) fun y8=>
          need (Zt y8.length ([37]:Str).length)<|
          some (y8++([37]:Str))
         else
          bif x.kind==12 then
           ze (ZK (x.num, !x.flag)) fun y9=>
           ze (fu x.unit) fun y10=>
           need (Zt y9.length y10.length)<|
           some (y9++y10)
          else
           ze (geti [[32],[60,33,45,45],[45,45,62],[58],[59],[44],[91],[93],[40],[41],[123],[125]] (wu8 (x.kind - 13))) fun y11=>
           some y11
def uu(x:List zb):Option (Int×Str):=
 ze (geti x 0) fun y1=>
 bif bif y1.kind==9 then y1.text==[92]else false then
  some (2,[92,10])
 else
  ze (zt (y1.kind==2) (qG (y1.text,[117,114,108])) (default:Bool)) fun y2=>
  bif bif y1.kind==2 then y2 else false then
   ze (lm y1) fun y3=>
   Zg (fun(s4:Int×Str)=>
     ze (geti x (w64 (s4.1 - 1))) fun y5=>
     bif y5.kind != 5 then
      ze (geti x s4.1) fun y6=>
      ze (lm y6) fun y7=>
      need (Zt s4.2.length y7.length)<|
      some (LO.again (w64 (s4.1+1),s4.2++y7))
     else
      some (LO.out (s4.1,s4.2)):Int×Str->Option (LO (Int×Str) (Int×Str) _)) (1,y3) fun o8=>
   some (o8.1,o8.2)
  else
   ze (lm y1) fun y9=>
   some (1,y9)
def wm(x:Str×Int):Option Int:=
 Zg (fun(s1:Int)=>
   ze (Ti (x.1,s1,[47,42])) fun y2=>
   bif y2 then
    Zg (fun(s3:Int)=>
      ze (zt (decide (s3<(x.1.length:Int))) (Ti (x.1,s3,[42,47])) (default:Bool)) fun y4=>
      bif bif decide (s3<(x.1.length:Int))then !y4 else false then
       some (LO.again (w64 (s3+1)))
      else
       some (LO.out s3):Int->Option (LO (Int) (Int) _)) (w64 (s1+2)) fun o5=>
    some (LO.again (if w64 (o5+2)<(x.1.length:Int)then w64 (o5+2)else(x.1.length:Int)))
   else
    some (LO.out s1):Int->Option (LO (Int) (Int) _)) x.2 fun o6=>
 some o6
def Nu(x:Str):Option (List zb×List Zj):=
 ze (wm (x,0)) fun y1=>
 Zg (fun(s2:Int×List zb×List Zj)=>
   bif decide (s2.1<(x.length:Int))then
    ze (Lj (x,s2.1)) fun y3=>
    need (zQ s2.2.1.length 1 56)<|
    need (zQ s2.2.2.length 1 16)<|
    ze (wm (x,y3.2)) fun y4=>
    some (LO.again (y4,s2.2.1++[y3.1],s2.2.2++[(⟨s2.1,y3.2⟩:Zj)]))
   else
    some (LO.out (s2.2.1,s2.2.2)):Int×List zb×List Zj->Option (LO (Int×List zb×List Zj) (List zb×List Zj) _)) (y1,[],[]) fun o5=>
 some (o5.1,o5.2)
def um(x:List zb×List zb):Option Bool:=
 bif (x.1.length:Int) != (x.2.length:Int)then
  some false
 else
  Zg (fun(s1:Int)=>
    bif decide (s1<(x.1.length:Int))then
     ze (geti x.1 s1) fun y2=>
     ze (geti x.2 s1) fun y3=>
     bif !(y2.kind==y3.kind&&(y2.text==y3.text&&(y2.num==y3.num&&(y2.unit==y3.unit&&(y2.flag==y3.flag&&true)))))then
      some (LO.ret false)
     else
      some (LO.again (w64 (s1+1)))
    else
     some (LO.out ()):Int->Option (LO (Int) (Unit) _)) 0 fun o4=>
  some true
def Av(x:List zb):Option Str:=
 Zg (fun(s1:Str×Int)=>
   bif decide (s1.2<(x.length:Int))then
    need (decide (0<=s1.2)&&decide (s1.2<=(x.length:Int)))<|
    ze (uu (List.drop s1.2.toNat x)) fun y2=>
    zX (X:=Str×Int) (
      need (Zt s1.1.length y2.2.length)<|
      ze (Nu (s1.1++y2.2)) fun y3=>
      need (decide (0<=w64 (s1.2+y2.1))&&decide (w64 (s1.2+y2.1)<=(x.length:Int)))<|
      ze (um (y3.1,List.take (w64 (s1.2+y2.1)).toNat x)) fun y4=>
      bif !y4 then
       need (Zt s1.1.length ([47,42,42,47]:Str).length)<|
       some (LX.out (s1.1++([47,42,42,47]:Str),s1.2))
      else
       some (LX.out (s1.1,s1.2))) fun j5=>
    need (Zt j5.1.length y2.2.length)<|
    some (LO.again (j5.1++y2.2,w64 (j5.2+y2.1)))
   else
    some (LO.out s1.1):Str×Int->Option (LO (Str×Int) (Str) _)) ([],0) fun o6=>
 some o6
def wu(x:List zb):Option (Str×Int):=
 ze (xu x) fun y1=>
 bif y1 != 0 then
  some ([],y1)
 else
  ze (Av x) fun y2=>
  bif decide ((y2.length:Int)>4000)then
   some ([],28)
  else
   some (y2,0)
def cu(x:List zg):Option (Str×Int):=
 ze (Gn x) fun y1=>
 bif y1 != 0 then
  some ([],y1)
 else
  ze (Zk x) fun y2=>
  ze (wu y2) fun y3=>
  some (y3.1,y3.2)
def Gv(x:List zb×List zb):Option Bool:=
 bif (x.1.length:Int) != (x.2.length:Int)then
  some false
 else
  Zg (fun(s1:Int)=>
    bif decide (s1<(x.1.length:Int))then
     ze (geti x.1 s1) fun y2=>
     need (decide (0<=s1)&&decide (s1<(x.2.length:Int)))<|
     ze x.2[s1.toNat]? fun y3=>
     bif !(y2.kind==y3.kind&&(y2.text==y3.text&&(y2.num==y3.num&&(y2.unit==y3.unit&&(y2.flag==y3.flag&&true)))))then
      some (LO.ret false)
     else
      some (LO.again (w64 (s1+1)))
    else
     some (LO.out ()):Int->Option (LO (Int) (Unit) _)) 0 fun o4=>
  some true
def YA(x:List zb×List zg):Option Bool:=
 ze (zt (!(bif bif decide ((x.1.length:Int)>200)then decide ((x.1.length:Int)<1480)else false then true else decide ((x.1.length:Int)>1510))) (tu x.2) (default:Bool)) fun y1=>
 bif bif bif bif decide ((x.1.length:Int)>200)then decide ((x.1.length:Int)<1480)else false then true else decide ((x.1.length:Int)>1510)then true else y1 then
  some true
 else
  need (zQ 0 x.1.length 56)<|
  ze (parseF x.1) fun y2=>
  ze (su x.1) fun y3=>
  ze (Ru x.2) fun y4=>
  ze (eu x.2) fun y5=>
  ze (Ou x.2) fun y6=>
  ze (cu x.2) fun y7=>
  ze (QC (y2.1,y3.1)) fun y8=>
  ze (zt (bif y8 then y2.2==y3.2 else false) (um (y4.1,y5.1)) (default:Bool)) fun y9=>
  ze (zt (bif bif bif bif bif y8 then y2.2==y3.2 else false then y9 else false then y4.2==y5.2 else false then y6.1==y7.1 else false then y6.2==y7.2 else false) (Gv (x.1,x.1)) (default:Bool)) fun y10=>
  some (bif bif bif bif bif bif y8 then y2.2==y3.2 else false then y9 else false then y4.2==y5.2 else false then y6.1==y7.1 else false then y6.2==y7.2 else false then y10 else false)
end Go.Lv.VT
end
