/- Texts. -/
import Derived.Test.YtcdeccnjlkkejaaGreatDoorTy
import Derived.Test.YtcdeccnjlkkejaaGreatDoorLf
set_option linter.unusedSimpArgs false
set_option linter.unusedVariables false
namespace Go.Lv.VT
set_option maxRecDepth 100000
noncomputable def zaB(qp:List ze×Int→Option Int)(x:List ze×Int):Option Int:=
 ZP (fun(s1:Int×Int)=>
   bif bif decide (s1.2<(x.1.length:Int))then decide (s1.1≤x.2)else false then
    zb (geti x.1 s1.2) fun y2=>
    zb (geti x.1 s1.2) fun y3=>
    zb (geti x.1 s1.2) fun y4=>
    zb (qp (y4.list,w64 (x.2 - s1.1))) fun y5=>
    some (LO.again (w64 (s1.1+w64 (w64 (w64 (1+(y2.token.text.length:Int))+(y3.token.unit.length:Int))+y5)),w64 (s1.2+1)))
   else
    some (LO.out s1.1):Int×Int→Option (LO (Int×Int) (Int) _)) (0,0) fun o6=>
 some o6
noncomputable def qp:List ze×Int→Option Int:=recE (zaB)
noncomputable def qB(x:Int):Option Int:=
 bif x==19 then
  some 20
 else
  zJ (X:=Bool) (
    bif x==21 then
     some (LX.out (x==21))
    else
     some (LX.out (x==2))) fun j1=>
  bif j1 then
   some 22
  else
   bif x==23 then
    some 24
   else
    some 0
noncomputable def zcP(qo:List ze→Option Int)(x:List ze):Option Int:=
 ZP (fun(s1:Int×Int)=>
   bif decide (s1.2<(x.length:Int))then
    zJ (X:=Int×Int) (
      zb (geti x s1.2) fun y2=>
      zb (qB y2.token.kind) fun y3=>
      bif y3 != 0 then
       zb (geti x s1.2) fun y4=>
       zb (qo y4.list) fun y5=>
       some (LX.out (if w64 (1+y5)>s1.1 then w64 (1+y5)else s1.1,s1.2))
      else
       some (LX.out (s1.1,s1.2))) fun j6=>
    some (LO.again (j6.1,w64 (j6.2+1)))
   else
    some (LO.out s1.1):Int×Int→Option (LO (Int×Int) (Int) _)) (0,0) fun o7=>
 some o7
noncomputable def qo:List ze→Option Int:=recE (zcP)
noncomputable def zcA(x:List ze):Option Bool:=
 zb (qp (x,300)) fun y1=>
 zb (zB (!(decide (y1>300))) (qo x) (default:Int)) fun y2=>
 some (bif decide (y1>300)then true else decide (y2>40))
noncomputable def zbs(Z0:List ze→Option (List zf))(x:List ze):Option (List zf):=
 ZP (fun(s1:Int×List zf)=>
   bif decide (s1.1<(x.length:Int))then
    zJ (X:=Int×List zf) (
      zb (geti x s1.1) fun y2=>
      need (zz s1.2.length 1 56)<|
      zb (geti x s1.1) fun y3=>
      zb (qB y3.token.kind) fun y4=>
      bif y4 != 0 then
       zb (geti x s1.1) fun y5=>
       zb (Z0 y5.list) fun y6=>
       need (zz (s1.2++[y2.token]).length y6.length 56)<|
       need (zz (s1.2++[y2.token]++y6).length 1 56)<|
       some (LX.out (s1.1,s1.2++[y2.token]++y6++[(⟨y4,[],0,[],false⟩:zf)]))
      else
       some (LX.out (s1.1,s1.2++[y2.token]))) fun j7=>
    some (LO.again (w64 (j7.1+1),j7.2))
   else
    some (LO.out s1.2):Int×List zf→Option (LO (Int×List zf) (List zf) _)) (0,[]) fun o8=>
 some o8
noncomputable def Z0:List ze→Option (List zf):=recE (zbs)
noncomputable def zbt(Z4:List ze×Int→Option Bool)(x:List ze×Int):Option Bool:=
 ZP (fun(s1:Int)=>
   bif decide (s1<(x.1.length:Int))then
    zb (geti x.1 s1) fun y2=>
    zb (qB y2.token.kind) fun y3=>
    zb (zB (y3==0) (geti x.1 s1) (default:ze)) fun y4=>
    zb (zB (x.2 != 0&& !(bif y3==0 then decide ((y4.list.length:Int)>0)else false)) (geti x.1 s1) (default:ze)) fun y5=>
    zb (zB (y3 != 0&& !(bif bif y3==0 then decide ((y4.list.length:Int)>0)else false then true else bif x.2 != 0 then y5.token.kind==x.2 else false)) (geti x.1 s1) (default:ze)) fun y6=>
    zb (zB (y3 != 0&& !(bif bif y3==0 then decide ((y4.list.length:Int)>0)else false then true else bif x.2 != 0 then y5.token.kind==x.2 else false)) (Z4 (y6.list,y3)) (default:Bool)) fun y7=>
    bif bif bif bif y3==0 then decide ((y4.list.length:Int)>0)else false then true else bif x.2 != 0 then y5.token.kind==x.2 else false then true else bif y3 != 0 then !y7 else false then
     some (LO.ret false)
    else
     some (LO.again (w64 (s1+1)))
   else
    some (LO.out ()):Int→Option (LO (Int) (Unit) _)) 0 fun o8=>
 some true
noncomputable def Z4:List ze×Int→Option Bool:=recE (zbt)
noncomputable def zcz(x:List ze):Option Int:=
 zb (qo x) fun y1=>
 bif decide (y1>16)then
  some 20
 else
  zb (Z0 x) fun y2=>
  bif decide ((y2.length:Int)>1500)then
   some 4
  else
   zb (Z4 (x,0)) fun y3=>
   bif !y3 then
    some 8
   else
    some 0
noncomputable def stringslite_HasPrefix(x:Str×Str):Option Bool:=
 need (decide (0≤(x.2.length:Int))&&decide ((x.2.length:Int)≤(x.1.length:Int))|| !(decide ((x.1.length:Int)≥(x.2.length:Int))))<|
 some (bif decide ((x.1.length:Int)≥(x.2.length:Int))then List.take x.2.length x.1==x.2 else false)
noncomputable def strings_HasPrefix(x:Str×Str):Option Bool:=
 zb (stringslite_HasPrefix (x.1,x.2)) fun y1=>
 some y1
noncomputable def Zh(x:za):Option za:=
 ZP (fun(s1:za)=>
   need (decide (0≤s1.at_)&&decide (s1.at_≤(s1.s.length:Int)))<|
   zb (strings_HasPrefix (List.drop s1.at_.toNat s1.s,[47,42])) fun y2=>
   bif y2 then
    need (decide (0≤w64 (s1.at_+2))&&decide (w64 (s1.at_+2)≤(s1.s.length:Int)))<|
    zb (zhq (List.drop (w64 (s1.at_+2)).toNat s1.s,[42,47])) fun y3=>
    bif decide (y3<0)then
     some (LO.ret (⟨s1.s,(s1.s.length:Int)⟩:za))
    else
     some (LO.again (⟨s1.s,w64 (s1.at_+w64 (y3+4))⟩:za))
   else
    some (LO.out s1):za→Option (LO (za) (za) _)) x fun o4=>
 some o4
noncomputable def zg(x:Int×za):Option Int:=
 bif decide (w64 (x.2.at_+x.1)<(x.2.s.length:Int))then
  zb (geti x.2.s (w64 (x.2.at_+x.1))) fun y1=>
  some (w64 (y1.toNat:Int))
 else
  some (-1)
noncomputable def ZH(x:Int):Option Bool:=
 some (bif bif x==32 then true else x==9 then true else x==10)
noncomputable def zK(x:za):Option za:=
 ZP (fun(s1:za)=>
   zb (zg (0,s1)) fun y2=>
   zb (ZH y2) fun y3=>
   bif y3 then
    some (LO.again (⟨s1.s,w64 (s1.at_+1)⟩:za))
   else
    some (LO.out s1):za→Option (LO (za) (za) _)) x fun o4=>
 some o4
noncomputable def Zk(x:Int):Option (List UInt8):=
 bif decide (wu32 x≤2047)then
  zb (Zi (ibOr IntKind.u8 192 (wu8 (zbY IntKind.i32 x 6)))) fun y1=>
  zb (Zi (ibOr IntKind.u8 128 (zbX IntKind.u8 (wu8 x) 63))) fun y2=>
  need (zz 0 2 1)<|
  some [y1,y2]
 else
  zJ (X:=Bool) (
    bif decide (wu32 x<55296)then
     some (LX.out (decide (wu32 x<55296)))
    else
     some (LX.out (bif decide (57343<wu32 x)then decide (wu32 x≤65535)else false))) fun j3=>
  bif j3 then
   zb (Zi (ibOr IntKind.u8 224 (wu8 (zbY IntKind.i32 x 12)))) fun y4=>
   zb (Zi (ibOr IntKind.u8 128 (zbX IntKind.u8 (wu8 (zbY IntKind.i32 x 6)) 63))) fun y5=>
   zb (Zi (ibOr IntKind.u8 128 (zbX IntKind.u8 (wu8 x) 63))) fun y6=>
   need (zz 0 3 1)<|
   some [y4,y5,y6]
  else
   bif bif decide (wu32 x>65535)then decide (wu32 x≤1114111)else false then
    zb (Zi (ibOr IntKind.u8 240 (wu8 (zbY IntKind.i32 x 18)))) fun y7=>
    zb (Zi (ibOr IntKind.u8 128 (zbX IntKind.u8 (wu8 (zbY IntKind.i32 x 12)) 63))) fun y8=>
    zb (Zi (ibOr IntKind.u8 128 (zbX IntKind.u8 (wu8 (zbY IntKind.i32 x 6)) 63))) fun y9=>
    zb (Zi (ibOr IntKind.u8 128 (zbX IntKind.u8 (wu8 x) 63))) fun y10=>
    need (zz 0 4 1)<|
    some [y7,y8,y9,y10]
   else
    need (zz 0 3 1)<|
    some [(239:UInt8),(191:UInt8),(189:UInt8)]
noncomputable def Z7(x:Int):Option (List UInt8):=
 bif decide (wu32 x≤127)then
  zb (Zi (wu8 x)) fun y1=>
  need (zz 0 1 1)<|
  some [y1]
 else
  zb (Zk x) fun y2=>
  some y2
noncomputable def ZM(x:Int×Int×Int):Option Bool:=
 some (bif decide (x.2.1≤x.1)then decide (x.1≤x.2.2)else false)
noncomputable def Zt(x:Int):Option Bool:=
 zb (ZM (x,48,57)) fun y1=>
 some y1
noncomputable def zaZ(x:Int):Option Int:=
 zb (Zt x) fun y1=>
 bif y1 then
  some (w64 (x - 48))
 else
  zb (zB (x != (-1)) (ZM (ibOr IntKind.i64 x 32,97,102)) (default:Bool)) fun y2=>
  bif bif bif bif x != (-1)then y2 else false then decide (x>64)else false then decide (x<128)else false then
   some (w64 (w64 (ibOr IntKind.i64 x 32 - 97)+10))
  else
   some (-1)
noncomputable def Zu(x:za):Option (za×List UInt8):=
 zb (zg (0,(⟨x.s,w64 (x.at_+1)⟩:za))) fun y1=>
 bif y1==(-1)then
  zb (Z7 65533) fun y2=>
  some ((⟨x.s,w64 (x.at_+1)⟩:za),y2)
 else
  zb (zaZ y1) fun y3=>
  bif decide (y3<0)then
   zb (Zi (wu8 y1)) fun y4=>
   need (zz 0 1 1)<|
   some ((⟨x.s,w64 (w64 (x.at_+1)+1)⟩:za),[y4])
  else
   ZP (fun(s5:(Int×Int)×za)=>
     bif decide (s5.1.2<6)then
      zb (zg (0,s5.2)) fun y6=>
      zb (zaZ y6) fun y7=>
      bif decide (y7<0)then
       some (LO.out (s5.1.1,s5.2))
      else
       some (LO.again ((ibOr IntKind.i64 (zsX IntKind.i64 s5.1.1 4) y7,w64 (s5.1.2+1)),(⟨s5.2.s,w64 (s5.2.at_+1)⟩:za)))
     else
      some (LO.out (s5.1.1,s5.2)):(Int×Int)×za→Option (LO ((Int×Int)×za) (Int×za) _)) ((0,0),(⟨x.s,w64 (x.at_+1)⟩:za)) fun o8=>
   zJ (X:=Int×za) (
     zb (zg (0,o8.2)) fun y9=>
     zb (ZH y9) fun y10=>
     bif y10 then
      some (LX.out (o8.1,(⟨o8.2.s,w64 (o8.2.at_+1)⟩:za)))
     else
      some (LX.out (o8.1,o8.2))) fun j11=>
   zJ (X:=Int) (
     bif j11.1==0 then
      some (LX.out 65533)
     else
      some (LX.out j11.1)) fun j12=>
   zb (Z7 (w32 j12)) fun y13=>
   some (j11.2,y13)
noncomputable def Zl(x:Int×List UInt8):Option (List UInt8):=
 bif decide (wu32 x.1≤2047)then
  zb (Zi (ibOr IntKind.u8 192 (wu8 (zbY IntKind.i32 x.1 6)))) fun y1=>
  zb (Zi (ibOr IntKind.u8 128 (zbX IntKind.u8 (wu8 x.1) 63))) fun y2=>
  need (zz x.2.length 2 1)<|
  some (x.2++[y1,y2])
 else
  zJ (X:=Bool×List UInt8) (
    bif decide (wu32 x.1<55296)then
     some (LX.out (decide (wu32 x.1<55296),x.2))
    else
     some (LX.out (bif decide (57343<wu32 x.1)then decide (wu32 x.1≤65535)else false,x.2))) fun j3=>
  bif j3.1 then
   zb (Zi (ibOr IntKind.u8 224 (wu8 (zbY IntKind.i32 x.1 12)))) fun y4=>
   zb (Zi (ibOr IntKind.u8 128 (zbX IntKind.u8 (wu8 (zbY IntKind.i32 x.1 6)) 63))) fun y5=>
   zb (Zi (ibOr IntKind.u8 128 (zbX IntKind.u8 (wu8 x.1) 63))) fun y6=>
   need (zz j3.2.length 3 1)<|
   some (j3.2++[y4,y5,y6])
  else
   bif bif decide (wu32 x.1>65535)then decide (wu32 x.1≤1114111)else false then
    zb (Zi (ibOr IntKind.u8 240 (wu8 (zbY IntKind.i32 x.1 18)))) fun y7=>
    zb (Zi (ibOr IntKind.u8 128 (zbX IntKind.u8 (wu8 (zbY IntKind.i32 x.1 12)) 63))) fun y8=>
    zb (Zi (ibOr IntKind.u8 128 (zbX IntKind.u8 (wu8 (zbY IntKind.i32 x.1 6)) 63))) fun y9=>
    zb (Zi (ibOr IntKind.u8 128 (zbX IntKind.u8 (wu8 x.1) 63))) fun y10=>
    need (zz j3.2.length 4 1)<|
    some (j3.2++[y7,y8,y9,y10])
   else
    need (zz j3.2.length 3 1)<|
    some (j3.2++[(239:UInt8),(191:UInt8),(189:UInt8)])
noncomputable def Z8(x:Int×List UInt8):Option (List UInt8):=
 bif decide (wu32 x.1≤127)then
  zb (Zi (wu8 x.1)) fun y1=>
  need (zz x.2.length 1 1)<|
  some (x.2++[y1])
 else
  zb (Zl (x.1,x.2)) fun y2=>
  some y2
noncomputable def zD(x:za×List UInt8):Option (za×List UInt8):=
 zb (zg (0,(⟨x.1.s,w64 (x.1.at_+1)⟩:za))) fun y1=>
 bif y1==(-1)then
  zb (Z8 (65533,x.2)) fun y2=>
  some ((⟨x.1.s,w64 (x.1.at_+1)⟩:za),y2)
 else
  zb (zaZ y1) fun y3=>
  bif decide (y3<0)then
   zb (Zi (wu8 y1)) fun y4=>
   need (zz x.2.length 1 1)<|
   some ((⟨x.1.s,w64 (w64 (x.1.at_+1)+1)⟩:za),x.2++[y4])
  else
   ZP (fun(s5:(Int×Int)×za)=>
     bif decide (s5.1.2<6)then
      zb (zg (0,s5.2)) fun y6=>
      zb (zaZ y6) fun y7=>
      bif decide (y7<0)then
       some (LO.out (s5.1.1,s5.2))
      else
       some (LO.again ((ibOr IntKind.i64 (zsX IntKind.i64 s5.1.1 4) y7,w64 (s5.1.2+1)),(⟨s5.2.s,w64 (s5.2.at_+1)⟩:za)))
     else
      some (LO.out (s5.1.1,s5.2)):(Int×Int)×za→Option (LO ((Int×Int)×za) (Int×za) _)) ((0,0),(⟨x.1.s,w64 (x.1.at_+1)⟩:za)) fun o8=>
   zJ (X:=Int×za×List UInt8) (
     zb (zg (0,o8.2)) fun y9=>
     zb (ZH y9) fun y10=>
     bif y10 then
      some (LX.out (o8.1,(⟨o8.2.s,w64 (o8.2.at_+1)⟩:za),x.2))
     else
      some (LX.out (o8.1,o8.2,x.2))) fun j11=>
   zJ (X:=Int×List UInt8) (
     bif j11.1==0 then
      some (LX.out (65533,j11.2.2))
     else
      some (LX.out (j11.1,j11.2.2))) fun j12=>
   zb (Z8 (w32 j12.1,j12.2)) fun y13=>
   some (j11.2.1,y13)
noncomputable def ZW(x:za):Option (zf×za):=
 zb (zg (0,x)) fun y1=>
 ZP (fun(s2:za×zf×List UInt8)=>
   zb (zg (0,s2.1)) fun y3=>
   bif y3==(-1)then
    some (LO.out (s2.1,s2.2.1,s2.2.2))
   else
    bif y3==y1 then
     some (LO.out ((⟨s2.1.s,w64 (s2.1.at_+1)⟩:za),s2.2.1,s2.2.2))
    else
     bif y3==10 then
      some (LO.ret ((⟨6,[],0,[],false⟩:zf),s2.1))
     else
      zb (zB (y3==92) (zg (1,s2.1)) (default:Int)) fun y4=>
      zb (zB (!(y4==(-1))&&y3==92) (zg (1,s2.1)) (default:Int)) fun y5=>
      bif bif y3==92 then bif y4==(-1)then true else y5==10 else false then
       some (LO.again ((⟨s2.1.s,if(s2.1.s.length:Int)<w64 (s2.1.at_+2)then(s2.1.s.length:Int)else w64 (s2.1.at_+2)⟩:za),s2.2.1,s2.2.2))
      else
       bif y3==92 then
        zb (zD (s2.1,s2.2.2)) fun y6=>
        some (LO.again (y6.1,s2.2.1,y6.2))
       else
        zb (Zi (wu8 y3)) fun y7=>
        need (zz s2.2.2.length 1 1)<|
        some (LO.again ((⟨s2.1.s,w64 (s2.1.at_+1)⟩:za),s2.2.1,s2.2.2++[y7])):za×zf×List UInt8→Option (LO (za×zf×List UInt8) (za×zf×List UInt8) _)) ((⟨x.s,w64 (x.at_+1)⟩:za),(⟨0,[],0,[],false⟩:zf),[]) fun o8=>
 some ((⟨5,o8.2.2,0,[],false⟩:zf),o8.1)
noncomputable def QH(x:Int):Option Bool:=
 zb (ZM (ibOr IntKind.i64 x 32,97,122)) fun y1=>
 some (bif bif bif bif y1 then decide (x<128)else false then decide (x>64)else false then true else x==95 then true else decide (x≥128))
noncomputable def QI(x:Int):Option Bool:=
 zb (QH x) fun y1=>
 zb (zB (!y1) (Zt x) (default:Bool)) fun y2=>
 some (bif bif y1 then true else y2 then true else x==45)
noncomputable def zy(x:Int×za):Option Bool:=
 zb (zg (x.1,x.2)) fun y1=>
 zb (zB (y1==92) (zg (w64 (x.1+1),x.2)) (default:Int)) fun y2=>
 some (bif y1==92 then y2 != 10 else false)
noncomputable def zV(x:Int×za):Option Bool:=
 zb (zg (x.1,x.2)) fun y1=>
 bif y1 != 45 then
  zb (zg (x.1,x.2)) fun y2=>
  zb (QH y2) fun y3=>
  zb (zB (!y3) (zy (x.1,x.2)) (default:Bool)) fun y4=>
  some (bif y3 then true else y4)
 else
  zb (zg (w64 (x.1+1),x.2)) fun y5=>
  zb (QH y5) fun y6=>
  zb (zB (!y6) (zg (w64 (x.1+1),x.2)) (default:Int)) fun y7=>
  zb (zB (!(bif y6 then true else y7==45)) (zy (w64 (x.1+1),x.2)) (default:Bool)) fun y8=>
  some (bif bif y6 then true else y7==45 then true else y8)
noncomputable def zO(x:za):Option (Str×za):=
 ZP (fun(s1:za×List UInt8)=>
   zb (zg (0,s1.1)) fun y2=>
   zb (QI y2) fun y3=>
   bif y3 then
    zb (Zi (wu8 y2)) fun y4=>
    need (zz s1.2.length 1 1)<|
    some (LO.again ((⟨s1.1.s,w64 (s1.1.at_+1)⟩:za),s1.2++[y4]))
   else
    zb (zB (y2 != (-1)) (zy (0,s1.1)) (default:Bool)) fun y5=>
    bif bif y2 != (-1)then y5 else false then
     zb (zD (s1.1,s1.2)) fun y6=>
     some (LO.again (y6.1,y6.2))
    else
     some (LO.ret (s1.2,s1.1)):za×List UInt8→Option (LO (za×List UInt8) (Unit) _)) (x,[]) fun o7=>
 none
noncomputable def ZV(x:za):Option Bool:=
 zJ (X:=Int) (
   zb (zg (0,x)) fun y1=>
   bif bif y1==43 then true else y1==45 then
    some (LX.out 1)
   else
    some (LX.out 0)) fun j2=>
 zJ (X:=Int) (
   zb (zg (j2,x)) fun y3=>
   bif y3==46 then
    some (LX.out (w64 (j2+1)))
   else
    some (LX.out j2)) fun j4=>
 zb (zg (j4,x)) fun y5=>
 zb (Zt y5) fun y6=>
 some y6
noncomputable def Zb(x:za):Option za:=
 ZP (fun(s1:za)=>
   zb (zg (0,s1)) fun y2=>
   zb (Zt y2) fun y3=>
   bif y3 then
    some (LO.again (⟨s1.s,w64 (s1.at_+1)⟩:za))
   else
    some (LO.out s1):za→Option (LO (za) (za) _)) x fun o4=>
 some o4
noncomputable def ZK(x:za):Option (Bool×za):=
 zJ (X:=za) (
   zb (zg (0,x)) fun y1=>
   bif bif y1==43 then true else y1==45 then
    some (LX.out (⟨x.s,w64 (x.at_+1)⟩:za))
   else
    some (LX.out x)) fun j2=>
 zb (Zb j2) fun y3=>
 zJ (X:=Bool×za) (
   zb (zg (0,y3)) fun y4=>
   zb (zB (y4==46) (zg (1,y3)) (default:Int)) fun y5=>
   zb (zB (y4==46) (Zt y5) (default:Bool)) fun y6=>
   bif bif y4==46 then y6 else false then
    zb (Zb (⟨y3.s,w64 (y3.at_+1)⟩:za)) fun y7=>
    some (LX.out (false,y7))
   else
    some (LX.out (true,y3))) fun j8=>
 zJ (X:=Bool×za) (
   zb (zg (0,j8.2)) fun y9=>
   zb (zB (!(y9==101)) (zg (0,j8.2)) (default:Int)) fun y10=>
   bif bif y9==101 then true else y10==69 then
    zJ (X:=(Bool×Int)×za) (
      zb (zg (1,j8.2)) fun y11=>
      bif bif y11==43 then true else y11==45 then
       some (LX.out ((j8.1,2),j8.2))
      else
       some (LX.out ((j8.1,1),j8.2))) fun j12=>
    zb (zg (j12.1.2,j12.2)) fun y13=>
    zb (Zt y13) fun y14=>
    bif y14 then
     zb (Zb (⟨j12.2.s,w64 (j12.2.at_+j12.1.2)⟩:za)) fun y15=>
     some (LX.out (false,y15))
    else
     some (LX.out (j12.1.1,j12.2))
   else
    some (LX.out (j8.1,j8.2))) fun j16=>
 some (j16.1,j16.2)
noncomputable def Qb(x:Str):Option Int:=
 zb (geti x 0) fun y1=>
 zb (zjq (x,[43,45])) fun y2=>
 zJ (X:=Str×Int) (
   zb (zdh (y2,[101,69])) fun y3=>
   bif decide (y3≥0)then
    need (decide (0≤w64 (y3+1))&&decide (w64 (y3+1)≤(y2.length:Int)))<|
    zb (zjq (List.drop (w64 (y3+1)).toNat y2,[43,45])) fun y4=>
    need (decide (y4.length≤maxLen))<|
    ZP (fun(s5:Int×Int)=>
      bif decide (s5.2<(y4.length:Int))then
       need (decide (0≤s5.2)&&decide (s5.2<(y4.length:Int)))<|
       zb y4[s5.2.toNat]? fun y6=>
       some (LO.again (if 1048576<w64 (w64 (10*s5.1)+w64 (wu8 ((y6.toNat:Int) - 48)))then 1048576 else w64 (w64 (10*s5.1)+w64 (wu8 ((y6.toNat:Int) - 48))),w64 (s5.2+1)))
      else
       some (LO.out s5.1):Int×Int→Option (LO (Int×Int) (Int) _)) (0,0) fun o7=>
    zJ (X:=Str×Int×Int) (
      zb (geti y2 (w64 (y3+1))) fun y8=>
      bif (y8.toNat:Int)==45 then
       some (LX.out (y2,3,w64 (0 - o7)))
      else
       some (LX.out (y2,3,o7))) fun j9=>
    need (decide (0≤y3)&&decide (y3≤(j9.1.length:Int)))<|
    some (LX.out (List.take y3.toNat j9.1,w64 (j9.2.1+j9.2.2)))
   else
    some (LX.out (y2,3))) fun j10=>
 zb (cutF (j10.1,[46])) fun y11=>
 need (zlR y11.1.length y11.2.1.length)<|
 zJ (X:=Str×Int) (
   bif decide (w64 (j10.2 - (y11.2.1.length:Int))<0)then
    need (decide (0≤(if w64 (((y11.1++y11.2.1).length:Int)+w64 (j10.2 - (y11.2.1.length:Int)))>0 then w64 (((y11.1++y11.2.1).length:Int)+w64 (j10.2 - (y11.2.1.length:Int)))else 0))&&decide ((if w64 (((y11.1++y11.2.1).length:Int)+w64 (j10.2 - (y11.2.1.length:Int)))>0 then w64 (((y11.1++y11.2.1).length:Int)+w64 (j10.2 - (y11.2.1.length:Int)))else 0)≤((y11.1++y11.2.1).length:Int)))<|
    some (LX.out (List.take (if w64 (((y11.1++y11.2.1).length:Int)+w64 (j10.2 - (y11.2.1.length:Int)))>0 then w64 (((y11.1++y11.2.1).length:Int)+w64 (j10.2 - (y11.2.1.length:Int)))else 0).toNat (y11.1++y11.2.1),w64 (j10.2 - (y11.2.1.length:Int))))
   else
    some (LX.out (y11.1++y11.2.1,w64 (j10.2 - (y11.2.1.length:Int))))) fun j12=>
 need (decide (j12.1.length≤maxLen))<|
 ZP (fun(s13:Int×Int)=>
   bif decide (s13.2<(j12.1.length:Int))then
    need (decide (0≤s13.2)&&decide (s13.2<(j12.1.length:Int)))<|
    zb j12.1[s13.2.toNat]? fun y14=>
    some (LO.again (if 1000000000000<w64 (w64 (10*s13.1)+w64 (wu8 ((y14.toNat:Int) - 48)))then 1000000000000 else w64 (w64 (10*s13.1)+w64 (wu8 ((y14.toNat:Int) - 48))),w64 (s13.2+1)))
   else
    some (LO.out s13.1):Int×Int→Option (LO (Int×Int) (Int) _)) (0,0) fun o15=>
 ZP (fun(s16:Int×Int)=>
   bif bif bif decide (s16.1>0)then decide (s16.2>0)else false then decide (s16.2<1000000000000)else false then
    some (LO.again (w64 (s16.1 - 1),if 1000000000000<w64 (10*s16.2)then 1000000000000 else w64 (10*s16.2)))
   else
    some (LO.out s16.2):Int×Int→Option (LO (Int×Int) (Int) _)) (j12.2,o15) fun o17=>
 zJ (X:=Int) (
   bif (y1.toNat:Int)==45 then
    some (LX.out (w64 (0 - o17)))
   else
    some (LX.out o17)) fun j18=>
 some j18
noncomputable def ZL(x:za):Option (zf×za):=
 zb (ZK x) fun y1=>
 need (decide (0≤x.at_)&&(decide (x.at_≤y1.2.at_)&&decide (y1.2.at_≤(y1.2.s.length:Int))))<|
 zb (Qb (List.drop x.at_.toNat (List.take y1.2.at_.toNat y1.2.s))) fun y2=>
 zJ (X:=za×zf×zf) (
   zb (zV (0,y1.2)) fun y3=>
   bif y3 then
    zb (zO y1.2) fun y4=>
    some (LX.out (y4.2,(⟨0,[],0,[],false⟩:zf),(⟨12,[],y2,y4.1,y1.1⟩:zf)))
   else
    zb (zg (0,y1.2)) fun y5=>
    bif y5==37 then
     some (LX.out ((⟨y1.2.s,w64 (y1.2.at_+1)⟩:za),(⟨0,[],0,[],false⟩:zf),(⟨11,[],y2,[],false⟩:zf)))
    else
     some (LX.out (y1.2,(⟨0,[],0,[],false⟩:zf),(⟨10,[],y2,[],y1.1⟩:zf)))) fun j6=>
 some (j6.2.2,j6.1)
noncomputable def zbd(x:Str):Option Str:=
 need (decide (x.length≤maxLen))<|
 ZP (fun(s1:Int×List UInt8)=>
   bif decide (s1.1<(x.length:Int))then
    zJ (X:=Int×List UInt8) (
      need (decide (0≤s1.1)&&decide (s1.1<(s1.2.length:Int)))<|
      zb s1.2[s1.1.toNat]? fun y2=>
      bif bif decide (65≤(y2.toNat:Int))then decide ((y2.toNat:Int)≤90)else false then
       need (decide (0≤s1.1)&&decide (s1.1<(s1.2.length:Int)))<|
       zb s1.2[s1.1.toNat]? fun y3=>
       need (decide (0≤s1.1)&&decide (s1.1<(s1.2.length:Int)))<|
       zb s1.2[s1.1.toNat]? fun y4=>
       zb (Zi (ibOr IntKind.u8 (y3.toNat:Int) 32)) fun y5=>
       some (LX.out (s1.1,List.set s1.2 s1.1.toNat y5))
      else
       some (LX.out (s1.1,s1.2))) fun j6=>
    some (LO.again (w64 (j6.1+1),j6.2))
   else
    some (LO.out s1.2):Int×List UInt8→Option (LO (Int×List UInt8) (List UInt8) _)) (0,x) fun o7=>
 some o7
noncomputable def zam(x:Str×Str):Option Bool:=
 zb (zbd x.1) fun y1=>
 zb (zbd x.2) fun y2=>
 some (y1==y2)
noncomputable def ZG(x:za):Option (zf×za):=
 ZP (fun(s1:za×zf)=>
   zb (zg (0,s1.1)) fun y2=>
   bif y2==(-1)then
    some (LO.ret ((⟨8,[],0,[],false⟩:zf),s1.1))
   else
    zb (zy (0,s1.1)) fun y3=>
    bif y3 then
     zb (Zu s1.1) fun y4=>
     some (LO.again (y4.1,s1.2))
    else
     zb (geti s1.1.s (w64 (w64 (s1.1.at_+1) - 1))) fun y5=>
     bif (y5.toNat:Int)==41 then
      some (LO.ret ((⟨8,[],0,[],false⟩:zf),(⟨s1.1.s,w64 (s1.1.at_+1)⟩:za)))
     else
      some (LO.again ((⟨s1.1.s,w64 (s1.1.at_+1)⟩:za),s1.2)):za×zf→Option (LO (za×zf) (Unit) _)) (x,(⟨0,[],0,[],false⟩:zf)) fun o6=>
 none
noncomputable def Qa(x:za):Option (zf×za):=
 zb (zK x) fun y1=>
 ZP (fun(s2:za×zf×List UInt8)=>
   zb (zg (0,s2.1)) fun y3=>
   zJ (X:=Int×za×zf×List UInt8) (
     zb (ZH y3) fun y4=>
     bif y4 then
      zb (zK s2.1) fun y5=>
      zb (zg (0,y5)) fun y6=>
      bif bif y6 != 41 then y6 != (-1)else false then
       zb (ZG y5) fun y7=>
       some (LX.ret (LO.ret (y7.1,y7.2)))
      else
       some (LX.out (y6,y5,s2.2.1,s2.2.2))
     else
      some (LX.out (y3,s2.1,s2.2.1,s2.2.2))) fun j8=>
   bif j8.1==(-1)then
    some (LO.ret ((⟨7,j8.2.2.2,0,[],false⟩:zf),j8.2.1))
   else
    bif j8.1==41 then
     some (LO.ret ((⟨7,j8.2.2.2,0,[],false⟩:zf),(⟨j8.2.1.s,w64 (j8.2.1.at_+1)⟩:za)))
    else
     zb (zB (!(bif bif bif bif j8.1==34 then true else j8.1==39 then true else j8.1==40 then true else decide (j8.1≤8)then true else j8.1==11)) (ZM (j8.1,14,31)) (default:Bool)) fun y9=>
     bif bif bif bif bif bif bif j8.1==34 then true else j8.1==39 then true else j8.1==40 then true else decide (j8.1≤8)then true else j8.1==11 then true else y9 then true else j8.1==127 then
      zb (ZG j8.2.1) fun y10=>
      some (LO.ret (y10.1,y10.2))
     else
      bif j8.1 != 92 then
       zb (Zi (wu8 j8.1)) fun y11=>
       need (zz j8.2.2.2.length 1 1)<|
       some (LO.again ((⟨j8.2.1.s,w64 (j8.2.1.at_+1)⟩:za),j8.2.2.1,j8.2.2.2++[y11]))
      else
       zb (zy (0,j8.2.1)) fun y12=>
       bif y12 then
        zb (zD (j8.2.1,j8.2.2.2)) fun y13=>
        some (LO.again (y13.1,j8.2.2.1,y13.2))
       else
        zb (ZG j8.2.1) fun y14=>
        some (LO.ret (y14.1,y14.2)):za×zf×List UInt8→Option (LO (za×zf×List UInt8) (Unit) _)) (y1,(⟨0,[],0,[],false⟩:zf),[]) fun o15=>
 none
noncomputable def qb(x:za):Option (zf×za):=
 zb (zO x) fun y1=>
 zb (zg (0,y1.2)) fun y2=>
 bif y2 != 40 then
  some ((⟨1,y1.1,0,[],false⟩:zf),y1.2)
 else
  zJ (X:=za×zf) (
    zb (zam (y1.1,[117,114,108])) fun y3=>
    bif y3 then
     zb (zK (⟨y1.2.s,w64 (y1.2.at_+1)⟩:za)) fun y4=>
     zb (zg (0,y4)) fun y5=>
     bif bif y5 != 34 then y5 != 39 else false then
      zb (Qa (⟨y1.2.s,w64 (y1.2.at_+1)⟩:za)) fun y6=>
      some (LX.ret (y6.1,y6.2))
     else
      some (LX.out ((⟨y1.2.s,w64 (y1.2.at_+1)⟩:za),(⟨0,[],0,[],false⟩:zf)))
    else
     some (LX.out ((⟨y1.2.s,w64 (y1.2.at_+1)⟩:za),(⟨0,[],0,[],false⟩:zf)))) fun j7=>
  some ((⟨2,y1.1,0,[],false⟩:zf),j7.1)
noncomputable def strings_IndexByte(x:Str×Int):Option Int:=
 zb (zfw (x.1,x.2)) fun y1=>
 some y1
noncomputable def qG(x:za):Option (zf×za):=
 zb (zg (0,x)) fun y1=>
 need (decide (0≤x.at_)&&decide (x.at_≤(x.s.length:Int)))<|
 zb (ZH y1) fun y2=>
 bif y2 then
  zb (zK x) fun y3=>
  some ((⟨13,[],0,[],false⟩:zf),y3)
 else
  bif bif y1==34 then true else y1==39 then
   zb (ZW x) fun y4=>
   some (y4.1,y4.2)
  else
   zb (zB (y1==35) (zg (1,x)) (default:Int)) fun y5=>
   zb (zB (y1==35) (QI y5) (default:Bool)) fun y6=>
   zb (zB (!y6&&y1==35) (zy (1,x)) (default:Bool)) fun y7=>
   bif bif y1==35 then bif y6 then true else y7 else false then
    zb (zV (1,x)) fun y8=>
    zb (zO (⟨x.s,w64 (x.at_+1)⟩:za)) fun y9=>
    some ((⟨4,y9.1,0,[],y8⟩:zf),y9.2)
   else
    zb (ZV x) fun y10=>
    bif y10 then
     zb (ZL x) fun y11=>
     some (y11.1,y11.2)
    else
     zb (strings_HasPrefix (List.drop x.at_.toNat x.s,[45,45,62])) fun y12=>
     bif y12 then
      some ((⟨15,[],0,[],false⟩:zf),(⟨x.s,w64 (x.at_+3)⟩:za))
     else
      zb (strings_HasPrefix (List.drop x.at_.toNat x.s,[60,33,45,45])) fun y13=>
      bif y13 then
       some ((⟨14,[],0,[],false⟩:zf),(⟨x.s,w64 (x.at_+4)⟩:za))
      else
       zb (zB (y1==64) (zV (1,x)) (default:Bool)) fun y14=>
       bif bif y1==64 then y14 else false then
        zb (zO (⟨x.s,w64 (x.at_+1)⟩:za)) fun y15=>
        some ((⟨3,y15.1,0,[],false⟩:zf),y15.2)
       else
        zb (zV (0,x)) fun y16=>
        bif y16 then
         zb (qb x) fun y17=>
         some (y17.1,y17.2)
        else
         zb (strings_IndexByte ([58,59,44,91,93,40,41,123,125],wu8 y1)) fun y18=>
         bif decide (y18≥0)then
          some ((⟨wu8 (16+wu8 y18),[],0,[],false⟩:zf),(⟨x.s,w64 (x.at_+1)⟩:za))
         else
          need (decide (1≤((List.drop x.at_.toNat x.s).length:Int)))<|
          some ((⟨9,List.take 1 (List.drop x.at_.toNat x.s),0,[],false⟩:zf),(⟨x.s,w64 (x.at_+1)⟩:za))
noncomputable def Qr(x:(zf×Int×Int)×List zf):Option (List zf):=
 need (zz x.2.length 1 56)<|
 some (x.2++[x.1.1])
noncomputable def zbH(x:Str):Option (Int×List zf):=
 zb (zik x) fun y1=>
 bif y1.2 != 0 then
  some (y1.2,[])
 else
  zb (Zh (⟨y1.1,0⟩:za)) fun y2=>
  ZP (fun(s3:Int×List zf×za)=>
    bif decide (s3.2.2.at_<(y1.1.length:Int))then
     bif decide (w64 (s3.1+1)>1500)then
      some (LO.ret (4,s3.2.1))
     else
      zb (qG s3.2.2) fun y4=>
      zb (Qr ((y4.1,s3.2.2.at_,y4.2.at_),s3.2.1)) fun y5=>
      zb (Zh y4.2) fun y6=>
      some (LO.again (w64 (s3.1+1),y5,y6))
    else
     some (LO.out (s3.2.1,s3.2.2)):Int×List zf×za→Option (LO (Int×List zf×za) (List zf×za) _)) (0,[],y2) fun o7=>
  some (0,o7.1)
noncomputable def qE(x:Str):Option (List zf×Int):=
 zb (zbH x) fun y1=>
 bif y1.1 != 0 then
  some ([],y1.1)
 else
  some (y1.2,0)
noncomputable def Zq(x:Int):Option Int:=
 bif x==2 then
  some 22
 else
  zJ (X:=Bool) (
    bif x==19 then
     some (LX.out (x==19))
    else
     bif x==21 then
      some (LX.out (x==21))
     else
      some (LX.out (x==23))) fun j1=>
  bif j1 then
   some (wu8 (x+1))
  else
   some 0
noncomputable def zbj(ZA:List ze×Int→Option zo)(x:List ze×Int):Option zo:=
 ZP (fun(s1:Int×zo)=>
   bif decide (s1.1<(x.1.length:Int))then
    zJ (X:=Int×zo) (
      zb (geti x.1 s1.1) fun y2=>
      zb (Zq y2.token.kind) fun y3=>
      zJ (X:=zo) (
        bif bif bif x.2 != 0 then y2.token.kind==x.2 else false then true else bif y3==0 then decide ((y2.list.length:Int)>0)else false then
         some (LX.out (⟨s1.2.depth,w64 (s1.2.tokens+1),true⟩:zo))
        else
         some (LX.out (⟨s1.2.depth,w64 (s1.2.tokens+1),s1.2.bad⟩:zo))) fun j4=>
      bif y3==0 then
       some (LX.out (s1.1,j4))
      else
       zb (ZA (y2.list,y3)) fun y5=>
       some (LX.out (s1.1,(⟨if w64 (y5.depth+1)>j4.depth then w64 (y5.depth+1)else j4.depth,w64 (w64 (j4.tokens+y5.tokens)+1),bif j4.bad then true else y5.bad⟩:zo)))) fun j6=>
    some (LO.again (w64 (j6.1+1),j6.2))
   else
    some (LO.out s1.2):Int×zo→Option (LO (Int×zo) (zo) _)) (0,(⟨0,0,false⟩:zo)) fun o7=>
 some o7
noncomputable def ZA:List ze×Int→Option zo:=recE (zbj)
noncomputable def Z5(x:List ze):Option Int:=
 zb (ZA (x,0)) fun y1=>
 bif decide (y1.depth>16)then
  some 20
 else
  bif decide (y1.tokens>1500)then
   some 4
  else
   bif y1.bad then
    some 8
   else
    some 0
noncomputable def zaP(Zm:List ze×List zf→Option (List zf))(x:List ze×List zf):Option (List zf):=
 ZP (fun(s1:Int×List zf)=>
   bif decide (s1.1<(x.1.length:Int))then
    zJ (X:=Int×List zf) (
      zb (geti x.1 s1.1) fun y2=>
      need (zz s1.2.length 1 56)<|
      zb (Zq y2.token.kind) fun y3=>
      bif y3 != 0 then
       zb (Zm (y2.list,s1.2++[y2.token])) fun y4=>
       need (zz y4.length 1 56)<|
       some (LX.out (s1.1,y4++[(⟨y3,[],0,[],false⟩:zf)]))
      else
       some (LX.out (s1.1,s1.2++[y2.token]))) fun j5=>
    some (LO.again (w64 (j5.1+1),j5.2))
   else
    some (LO.out s1.2):Int×List zf→Option (LO (Int×List zf) (List zf) _)) (0,x.2) fun o6=>
 some o6
noncomputable def Zm:List ze×List zf→Option (List zf):=recE (zaP)
noncomputable def zbi(x:List ze):Option (List zf):=
 ZP (fun(s1:Int×List zf)=>
   bif decide (s1.1<(x.length:Int))then
    zJ (X:=Int×List zf) (
      zb (geti x s1.1) fun y2=>
      need (zz s1.2.length 1 56)<|
      zb (Zq y2.token.kind) fun y3=>
      bif y3 != 0 then
       zb (Zm (y2.list,s1.2++[y2.token])) fun y4=>
       need (zz y4.length 1 56)<|
       some (LX.out (s1.1,y4++[(⟨y3,[],0,[],false⟩:zf)]))
      else
       some (LX.out (s1.1,s1.2++[y2.token]))) fun j5=>
    some (LO.again (w64 (j5.1+1),j5.2))
   else
    some (LO.out s1.2):Int×List zf→Option (LO (Int×List zf) (List zf) _)) (0,[]) fun o6=>
 some o6
noncomputable def stringslite_TrimPrefix(x:Str×Str):Option Str:=
 zb (stringslite_HasPrefix (x.1,x.2)) fun y1=>
 bif y1 then
  need (decide (0≤(x.2.length:Int))&&decide ((x.2.length:Int)≤(x.1.length:Int)))<|
  some (List.drop x.2.length x.1)
 else
  some x.1
noncomputable def strings_TrimPrefix(x:Str×Str):Option Str:=
 zb (stringslite_TrimPrefix (x.1,x.2)) fun y1=>
 some y1
noncomputable def qP(x:Int):Option Bool:=
 some (bif decide (48≤x)then decide (x≤57)else false)
noncomputable def QD(x:Str):Option Bool:=
 zb (strings_TrimPrefix (x,[45])) fun y1=>
 zb (zB (!(y1==[])) (geti y1 0) 0) fun y2=>
 zb (zB (!(y1==[])) (qP (y2.toNat:Int)) (default:Bool)) fun y3=>
 some (bif !(y1==[])then y3 else false)
noncomputable def zal(x:Int):Option Bool:=
 some (bif bif decide (97≤ibOr IntKind.u8 x 32)then decide (ibOr IntKind.u8 x 32≤122)else false then decide (x<128)else false)
noncomputable def zbb(x:Int):Option Bool:=
 zb (zal x) fun y1=>
 zb (zB (!y1) (qP x) (default:Bool)) fun y2=>
 some (bif bif bif bif y1 then true else y2 then true else x==95 then true else x==45 then true else decide (x≥128))
noncomputable def strings_Contains(x:Str×Str):Option Bool:=
 zb (zhq (x.1,x.2)) fun y1=>
 some (decide (y1≥0))
noncomputable def zee(x:zf):Option Bool:=
 need (zlR x.text.length x.unit.length)<|
 zb (strings_IndexByte (x.text++x.unit,0)) fun y1=>
 zJ (X:=Bool×Bool×Bool×Bool×Bool) (
   zJ (X:=Bool×Bool×Bool×Bool×Bool×Bool) (
     bif x.kind==1 then
      some (LX.out (false,false,false,false,decide (y1<0),x.kind==1))
     else
      bif x.kind==2 then
       some (LX.out (false,false,false,false,decide (y1<0),x.kind==2))
      else
       some (LX.out (false,false,false,false,decide (y1<0),x.kind==3))) fun j2=>
   bif j2.2.2.2.2.2 then
    some (LX.out (true,j2.2.1,j2.2.2.1,j2.2.2.2.1,bif j2.2.2.2.2.1 then !(x.text==[])else false))
   else
    bif x.kind==4 then
     zb (zB (!x.flag&&(bif j2.2.2.2.2.1 then !(x.text==[])else false)) (QD x.text) (default:Bool)) fun y3=>
     zb (zB (y3&&(!x.flag&&(bif j2.2.2.2.2.1 then !(x.text==[])else false))) (strings_HasPrefix (x.text,[45,45])) (default:Bool)) fun y4=>
     some (LX.out (true,j2.2.1,j2.2.2.1,true,bif bif j2.2.2.2.2.1 then !(x.text==[])else false then bif bif x.flag then true else bif y3 then !y4 else false then true else x.text==[45]else false))
    else
     zJ (X:=Bool×Bool×Bool×Bool×Bool×Bool) (
       bif x.kind==5 then
        some (LX.out (j2.1,j2.2.1,j2.2.2.1,j2.2.2.2.1,j2.2.2.2.2.1,x.kind==5))
       else
        some (LX.out (j2.1,j2.2.1,j2.2.2.1,j2.2.2.2.1,j2.2.2.2.2.1,x.kind==7))) fun j5=>
     bif j5.2.2.2.2.2 then
      some (LX.out (true,j5.2.1,j5.2.2.1,j5.2.2.2.1,j5.2.2.2.2.1))
     else
      bif x.kind==9 then
       zb (zB (bif j5.2.2.2.2.1 then(x.text.length:Int)==1 else false) (geti x.text 0) 0) fun y6=>
       zb (zB (bif j5.2.2.2.2.1 then(x.text.length:Int)==1 else false) (zbb (y6.toNat:Int)) (default:Bool)) fun y7=>
       zb (zB (bif bif bif j5.2.2.2.2.1 then(x.text.length:Int)==1 else false then !y7 else false then true else x.text==[45]) (strings_Contains ([32,9,10,12,13,34,39,58,59,44,91,93,40,41,123,125],x.text)) (default:Bool)) fun y8=>
       some (LX.out (true,j5.2.1,j5.2.2.1,j5.2.2.2.1,bif bif bif bif j5.2.2.2.2.1 then(x.text.length:Int)==1 else false then !y7 else false then true else x.text==[45]then !y8 else false))
      else
       zJ (X:=Bool×Bool×Bool×Bool×Bool) (
         bif x.kind==10 then
          some (LX.out (j5.2.1,j5.2.2.1,j5.2.2.2.1,j5.2.2.2.2.1,x.kind==10))
         else
          bif x.kind==11 then
           some (LX.out (j5.2.1,j5.2.2.1,j5.2.2.2.1,j5.2.2.2.2.1,x.kind==11))
          else
           some (LX.out (j5.2.1,j5.2.2.1,j5.2.2.2.1,j5.2.2.2.2.1,x.kind==12))) fun j9=>
       bif j9.2.2.2.2 then
        some (LX.out (j5.1,x.kind==12,true,x.kind != 11,bif bif bif bif j9.2.2.2.1 then decide (x.num≥(-1000000000000))else false then decide (x.num≤1000000000000)else false then bif !x.flag then true else Int.tmod x.num 1000==0 else false then bif !(x.kind==12)then true else !(x.unit==[])else false))
       else
        some (LX.out (j5.1,j9.1,j9.2.1,j9.2.2.1,bif decide (x.kind≥13)then decide (x.kind≤24)else false))) fun j10=>
 some (bif bif bif bif j10.2.2.2.2 then bif j10.1 then true else x.text==[]else false then bif j10.2.1 then true else x.unit==[]else false then bif j10.2.2.1 then true else x.num==0 else false then bif j10.2.2.2.1 then true else !x.flag else false)
noncomputable def QE(x:(Int×Int)×List zf):Option Bool:=
 zb (zB (decide (x.1.1<(x.2.length:Int))) (geti x.2 x.1.1) (default:zf)) fun y1=>
 some (bif decide (x.1.1<(x.2.length:Int))then y1.kind==x.1.2 else false)
noncomputable def zbc(x:List zf):Option Int:=
 zb (geti x 0) fun y1=>
 bif bif y1.kind==9 then y1.text==[92]else false then
  zb (QE ((1,13),x)) fun y2=>
  bif !y2 then
   some 0
  else
   some 2
 else
  zb (zB (y1.kind==2) (zam (y1.text,[117,114,108])) (default:Bool)) fun y3=>
  bif bif y1.kind==2 then y3 else false then
   zJ (X:=Int) (
     zb (QE ((1,13),x)) fun y4=>
     bif y4 then
      some (LX.out 2)
     else
      some (LX.out 1)) fun j5=>
   zb (QE ((j5,5),x)) fun y6=>
   bif !y6 then
    some 0
   else
    some (w64 (j5+1))
  else
   some 1
noncomputable def zdc(x:List zf):Option Int:=
 bif decide ((x.length:Int)>1500)then
  some 4
 else
  ZP (fun(s1:Int)=>
    bif decide (s1<(x.length:Int))then
     zb (geti x s1) fun y2=>
     zb (zee y2) fun y3=>
     need (decide (0≤s1)&&decide (s1≤(x.length:Int))|| !(!(!y3)))<|
     zb (zB (!(!y3)) (zbc (List.drop s1.toNat x)) (default:Int)) fun y4=>
     bif bif !y3 then true else y4==0 then
      some (LO.ret 8)
     else
      some (LO.again (w64 (s1+1)))
    else
     some (LO.out ()):Int→Option (LO (Int) (Unit) _)) 0 fun o5=>
  some 0
noncomputable def QO(x:Str):Option Int:=
 zb (strings_HasPrefix (x,[45])) fun y1=>
 bif y1 then
  some 2
 else
  some 1
noncomputable def ZY(x:Int×List UInt8):Option (List UInt8):=
 zb (zB (bif decide (x.1>32)then decide (x.1<127)else false) (qP x.1) (default:Bool)) fun y1=>
 zb (zB (bif bif decide (x.1>32)then decide (x.1<127)else false then !y1 else false) (zal x.1) (default:Bool)) fun y2=>
 bif bif bif bif decide (x.1>32)then decide (x.1<127)else false then !y1 else false then !y2 else false then
  zb (Zi x.1) fun y3=>
  need (zz x.2.length 2 1)<|
  some (x.2++[(92:UInt8),y3])
 else
  need (zz x.2.length 1 1)<|
  zb (zeI ((wu64 x.1,16),x.2++[(92:UInt8)])) fun y4=>
  need (zz y4.length 1 1)<|
  some (y4++[(32:UInt8)])
noncomputable def qJ(x:(Str×Int)×List UInt8):Option (List UInt8):=
 ZP (fun(s1:Int×List UInt8)=>
   bif decide (s1.1<(x.1.1.length:Int))then
    zJ (X:=Int×List UInt8) (
      zb (geti x.1.1 s1.1) fun y2=>
      zb (zbb (y2.toNat:Int)) fun y3=>
      zb (zB (!(decide (s1.1≥x.1.2))&&y3) (qP (y2.toNat:Int)) (default:Bool)) fun y4=>
      bif bif bif y3 then bif decide (s1.1≥x.1.2)then true else !y4 else false then bif x.1.2==0 then true else !(x.1.1==[45])else false then
       zb (Zi (y2.toNat:Int)) fun y5=>
       need (zz s1.2.length 1 1)<|
       some (LX.out (s1.1,s1.2++[y5]))
      else
       zb (ZY ((y2.toNat:Int),s1.2)) fun y6=>
       some (LX.out (s1.1,y6))) fun j7=>
    some (LO.again (w64 (j7.1+1),j7.2))
   else
    some (LO.out s1.2):Int×List UInt8→Option (LO (Int×List UInt8) (List UInt8) _)) (0,x.2) fun o8=>
 some o8
noncomputable def zde(x:Unit):Option qm:=
 some (⟨[32],[60,33,45,45],[45,45,62],[58],[59],[44],[91],[93],[40],[41],[123],[125]⟩:qm)
noncomputable def Qi(x:(Int×Bool)×List UInt8):Option (List UInt8):=
 zJ (X:=Int×List UInt8) (
   bif decide (x.1.1<0)then
    need (zz x.2.length 1 1)<|
    some (LX.out (w64 (0 - x.1.1),x.2++[(45:UInt8)]))
   else
    some (LX.out (x.1.1,x.2))) fun j1=>
 zb (zeH ((w64 (Int.tdiv j1.1 1000),10),j1.2)) fun y2=>
 zb (zgN (w64 (1000+Int.tmod j1.1 1000),10)) fun y3=>
 need (decide (1≤(y3.length:Int)))<|
 zb (zhv (List.drop 1 y3,[48])) fun y4=>
 zJ (X:=List UInt8) (
   bif !(y4==[])then
    need (zz y2.length 1 1)<|
    need (zz (y2++[(46:UInt8)]).length y4.length 1)<|
    some (LX.out (y2++[(46:UInt8)]++y4))
   else
    bif x.1.2 then
     need (zz y2.length ([46,48]:Str).length 1)<|
     some (LX.out (y2++([46,48]:Str)))
    else
     some (LX.out y2)) fun j5=>
 some j5
noncomputable def zcp(x:zf×List UInt8):Option (List UInt8):=
 bif x.1.kind==1 then
  zb (QO x.1.text) fun y1=>
  zb (qJ ((x.1.text,y1),x.2)) fun y2=>
  some y2
 else
  bif x.1.kind==2 then
   zb (QO x.1.text) fun y3=>
   zb (qJ ((x.1.text,y3),x.2)) fun y4=>
   need (zz y4.length 1 1)<|
   some (y4++[(40:UInt8)])
  else
   bif x.1.kind==3 then
    need (zz x.2.length 1 1)<|
    zb (QO x.1.text) fun y5=>
    zb (qJ ((x.1.text,y5),x.2++[(64:UInt8)])) fun y6=>
    some y6
   else
    bif x.1.kind==4 then
     zJ (X:=Int×List UInt8) (
       bif x.1.flag then
        zb (QO x.1.text) fun y7=>
        some (LX.out (y7,x.2))
       else
        some (LX.out (0,x.2))) fun j8=>
     need (zz j8.2.length 1 1)<|
     zb (qJ ((x.1.text,j8.1),j8.2++[(35:UInt8)])) fun y9=>
     some y9
    else
     bif x.1.kind==5 then
      need (zz x.2.length 1 1)<|
      need (decide (x.1.text.length≤maxLen))<|
      ZP (fun(s10:Int×List UInt8)=>
        bif decide (s10.1<(x.1.text.length:Int))then
         zJ (X:=Int×List UInt8) (
           need (decide (0≤s10.1)&&decide (s10.1<(x.1.text.length:Int)))<|
           zb x.1.text[s10.1.toNat]? fun y11=>
           zb (strings_IndexByte ([10,12,13,34,92],(y11.toNat:Int))) fun y12=>
           bif decide (y12≥0)then
            zb (ZY ((y11.toNat:Int),s10.2)) fun y13=>
            some (LX.out (s10.1,y13))
           else
            zb (Zi (y11.toNat:Int)) fun y14=>
            need (zz s10.2.length 1 1)<|
            some (LX.out (s10.1,s10.2++[y14]))) fun j15=>
         some (LO.again (w64 (j15.1+1),j15.2))
        else
         some (LO.out s10.2):Int×List UInt8→Option (LO (Int×List UInt8) (List UInt8) _)) (0,x.2++[(34:UInt8)]) fun o16=>
      need (zz o16.length 1 1)<|
      some (o16++[(34:UInt8)])
     else
      bif x.1.kind==7 then
       need (zz x.2.length ([117,114,108,40]:Str).length 1)<|
       need (decide (x.1.text.length≤maxLen))<|
       ZP (fun(s17:Int×List UInt8)=>
         bif decide (s17.1<(x.1.text.length:Int))then
          zJ (X:=Int×List UInt8) (
            need (decide (0≤s17.1)&&decide (s17.1<(x.1.text.length:Int)))<|
            zb x.1.text[s17.1.toNat]? fun y18=>
            zb (zB (!(decide ((y18.toNat:Int)≤32))) (strings_IndexByte ([34,39,40,41,92,127],(y18.toNat:Int))) (default:Int)) fun y19=>
            bif bif decide ((y18.toNat:Int)≤32)then true else decide (y19≥0)then
             zb (ZY ((y18.toNat:Int),s17.2)) fun y20=>
             some (LX.out (s17.1,y20))
            else
             zb (Zi (y18.toNat:Int)) fun y21=>
             need (zz s17.2.length 1 1)<|
             some (LX.out (s17.1,s17.2++[y21]))) fun j22=>
          some (LO.again (w64 (j22.1+1),j22.2))
         else
          some (LO.out s17.2):Int×List UInt8→Option (LO (Int×List UInt8) (List UInt8) _)) (0,x.2++([117,114,108,40]:Str)) fun o23=>
       need (zz o23.length 1 1)<|
       some (o23++[(41:UInt8)])
      else
       bif x.1.kind==9 then
        need (zz x.2.length x.1.text.length 1)<|
        some (x.2++x.1.text)
       else
        bif x.1.kind==10 then
         zb (Qi ((x.1.num, !x.1.flag),x.2)) fun y24=>
         some y24
        else
         bif x.1.kind==11 then
          zb (Qi ((x.1.num,false),x.2)) fun y25=>
          need (zz y25.length 1 1)<|
          some (y25++[(37:UInt8)])
         else
          bif x.1.kind==12 then
           zb (Qi ((x.1.num, !x.1.flag),x.2)) fun y26=>
           zb (geti x.1.unit 0) fun y27=>
           need (decide (1≤(x.1.unit.length:Int))|| !(ibOr IntKind.u8 (y27.toNat:Int) 32==101))<|
           zb (zB (ibOr IntKind.u8 (y27.toNat:Int) 32==101) (QD (List.drop 1 x.1.unit)) (default:Bool)) fun y28=>
           need (decide (1≤(x.1.unit.length:Int))|| !(bif ibOr IntKind.u8 (y27.toNat:Int) 32==101 then y28 else false))<|
           zb (zB (bif ibOr IntKind.u8 (y27.toNat:Int) 32==101 then y28 else false) (strings_HasPrefix (List.drop 1 x.1.unit,[45,45])) (default:Bool)) fun y29=>
           bif bif bif ibOr IntKind.u8 (y27.toNat:Int) 32==101 then y28 else false then !y29 else false then
            zb (geti x.1.unit 0) fun y30=>
            zb (ZY ((y30.toNat:Int),y26)) fun y31=>
            need (decide (1≤(x.1.unit.length:Int)))<|
            zb (qJ ((List.drop 1 x.1.unit,0),y31)) fun y32=>
            some y32
           else
            zb (QO x.1.unit) fun y33=>
            zb (qJ ((x.1.unit,y33),y26)) fun y34=>
            some y34
          else
           zb (zde ()) fun y35=>
           zb (geti [y35.e0,y35.e1,y35.e2,y35.e3,y35.e4,y35.e5,y35.e6,y35.e7,y35.e8,y35.e9,y35.e10,y35.e11] (wu8 (x.1.kind - 13))) fun y36=>
           need (zz x.2.length y36.length 1)<|
           some (x.2++y36)
noncomputable def qD(x:List zf×List zf):Option Bool:=
 bif (x.1.length:Int) != (x.2.length:Int)then
  some false
 else
  ZP (fun(s1:Int)=>
    bif decide (s1<(x.1.length:Int))then
     zb (geti x.1 s1) fun y2=>
     zb (geti x.2 s1) fun y3=>
     bif !(y2.kind==y3.kind&&(y2.text==y3.text&&(y2.num==y3.num&&(y2.unit==y3.unit&&(y2.flag==y3.flag&&true)))))then
      some (LO.ret false)
     else
      some (LO.again (w64 (s1+1)))
    else
     some (LO.out ()):Int→Option (LO (Int) (Unit) _)) 0 fun o4=>
  some true
noncomputable def zdd(x:List zf):Option (Str×Int):=
 zb (zdc x) fun y1=>
 bif y1 != 0 then
  some ([],y1)
 else
  ZP (fun(s2:Int×List UInt8×List zw)=>
    bif decide (s2.1<(x.length:Int))then
     need (decide (0≤s2.1)&&decide (s2.1≤(x.length:Int)))<|
     zb (zbc (List.drop s2.1.toNat x)) fun y3=>
     need (decide (0≤s2.1)&&(decide (s2.1≤w64 (s2.1+y3))&&decide (w64 (s2.1+y3)≤(x.length:Int))))<|
     ZP (fun(s4:Int×List UInt8)=>
       bif decide (s4.1<((List.drop s2.1.toNat (List.take (w64 (s2.1+y3)).toNat x)).length:Int))then
        zb (geti (List.drop s2.1.toNat (List.take (w64 (s2.1+y3)).toNat x)) s4.1) fun y5=>
        zb (zcp (y5,s4.2)) fun y6=>
        some (LO.again (w64 (s4.1+1),y6))
       else
        some (LO.out s4.2):Int×List UInt8→Option (LO (Int×List UInt8) (List UInt8) _)) (0,[]) fun o7=>
     zJ (X:=Int×List UInt8×List zw×List UInt8) (
       zb (geti x s2.1) fun y8=>
       bif bif y8.kind==9 then y3==2 else false then
        some (LX.out (s2.1,s2.2.1,s2.2.2,[(92:UInt8),(10:UInt8)]))
       else
        some (LX.out (s2.1,s2.2.1,s2.2.2,o7))) fun j9=>
     zJ (X:=Int×List UInt8×List zw×zw) (
       bif decide (w64 ((j9.2.2.1.length:Int) - 4)≥0)then
        need (decide (0≤w64 ((j9.2.2.1.length:Int) - 4))&&decide (w64 ((j9.2.2.1.length:Int) - 4)<(j9.2.2.1.length:Int)))<|
        zb (j9.2.2.1[(w64 ((j9.2.2.1.length:Int) - 4)).toNat]?) fun y10=>
        some (LX.out (j9.1,j9.2.1,j9.2.2.1,y10))
       else
        some (LX.out (j9.1,j9.2.1,j9.2.2.1,(⟨0,0⟩:zw)))) fun j11=>
     need (decide (0≤j11.2.2.2.at_)&&decide (j11.2.2.2.at_≤(j11.2.1.length:Int)))<|
     need (decide (j11.2.2.2.at_.toNat+(j11.2.1.length - j11.2.2.2.at_.toNat)≤j11.2.1.length))<|
     need (zlR (List.take (j11.2.1.length - j11.2.2.2.at_.toNat) (List.drop j11.2.2.2.at_.toNat j11.2.1)).length j9.2.2.2.length)<|
     zb (qE (List.take (j11.2.1.length - j11.2.2.2.at_.toNat) (List.drop j11.2.2.2.at_.toNat j11.2.1)++j9.2.2.2)) fun y12=>
     zJ (X:=Int×List zw×List UInt8) (
       need (decide (0≤j11.2.2.2.token)&&(decide (j11.2.2.2.token≤w64 (j11.1+y3))&&decide (w64 (j11.1+y3)≤(x.length:Int)))|| !(!(y12.2 != 0)))<|
       zb (zB (!(y12.2 != 0)) (qD (y12.1,List.drop j11.2.2.2.token.toNat (List.take (w64 (j11.1+y3)).toNat x))) (default:Bool)) fun y13=>
       bif bif y12.2 != 0 then true else !y13 then
        need (zz j11.2.1.length ([47,42,42,47]:Str).length 1)<|
        some (LX.out (j11.1,j11.2.2.1,j11.2.1++([47,42,42,47]:Str)))
       else
        some (LX.out (j11.1,j11.2.2.1,j11.2.1))) fun j14=>
     need (zz j14.2.1.length 1 16)<|
     need (zz j14.2.2.length j9.2.2.2.length 1)<|
     bif decide (((j14.2.2++j9.2.2.2).length:Int)>4000)then
      some (LO.ret ([],28))
     else
      some (LO.again (w64 (j14.1+y3),j14.2.2++j9.2.2.2,j14.2.1++[(⟨j14.1,(j14.2.2.length:Int)⟩:zw)]))
    else
     some (LO.out s2.2.1):Int×List UInt8×List zw→Option (LO (Int×List UInt8×List zw) (List UInt8) _)) (0,[],[]) fun o15=>
  some (o15,0)
noncomputable def zep(x:List ze):Option (Str×Int):=
 zb (Z5 x) fun y1=>
 bif y1 != 0 then
  some ([],y1)
 else
  zb (zbi x) fun y2=>
  zb (zdd y2) fun y3=>
  some (y3.1,y3.2)
noncomputable def zdn(x:List ze):Option (Int×Int):=
 zb (Z5 x) fun y1=>
 bif y1 != 0 then
  some (0,y1)
 else
  zb (ZA (x,0)) fun y2=>
  some (y2.depth,0)
noncomputable def zcr(x:Str):Option (Str×Int×Bool):=
 zb (qE x) fun y1=>
 zb (parseF y1.1) fun y2=>
 zb (zep y2.1) fun y3=>
 zb (zdn y2.1) fun y4=>
 some (y3.1,y4.1,bif bif bif y1.2==0 then y2.2==0 else false then y3.2==0 else false then y4.2==0 else false)
noncomputable def zao(x:Unit):Option Bool:=
 zb (zcr [97,40,98,91,99,41,100]) fun y1=>
 zb (qE [97,40,98,91,99,41,100]) fun y2=>
 zb (parseF y2.1) fun y3=>
 zb (zB (bif bif bif bif bif y1.2.2 then y1.1==[97,40,98,91,99,41,100,93,41]else false then y1.2.1==2 else false then y2.2==0 else false then y3.2==0 else false then(y3.1.length:Int)==1 else false) (geti y3.1 0) (default:ze)) fun y4=>
 zb (zB (bif bif bif bif bif bif y1.2.2 then y1.1==[97,40,98,91,99,41,100,93,41]else false then y1.2.1==2 else false then y2.2==0 else false then y3.2==0 else false then(y3.1.length:Int)==1 else false then(y4.list.length:Int)==2 else false) (geti y3.1 0) (default:ze)) fun y5=>
 zb (zB (bif bif bif bif bif bif y1.2.2 then y1.1==[97,40,98,91,99,41,100,93,41]else false then y1.2.1==2 else false then y2.2==0 else false then y3.2==0 else false then(y3.1.length:Int)==1 else false then(y4.list.length:Int)==2 else false) (geti y5.list 1) (default:ze)) fun y6=>
 some (bif bif bif bif bif bif bif y1.2.2 then y1.1==[97,40,98,91,99,41,100,93,41]else false then y1.2.1==2 else false then y2.2==0 else false then y3.2==0 else false then(y3.1.length:Int)==1 else false then(y4.list.length:Int)==2 else false then(y6.list.length:Int)==3 else false)
noncomputable def qC(x:List ze):Option (List ze):=
 bif x.isEmpty then
  both (
    some []) (
    need (zz 0 x.length 80)<|
    some x)
 else
  need (zz 0 x.length 80)<|
  some x
noncomputable def zdO(qW:List ze→Option (List ze))(x:List ze):Option (List ze):=
 zb (qC x) fun y1=>
 ZP (fun(s2:Int×List ze)=>
   bif decide (s2.1<(y1.length:Int))then
    need (decide (0≤s2.1)&&decide (s2.1<(s2.2.length:Int)))<|
    zb s2.2[s2.1.toNat]? fun y3=>
    zb (qW y3.list) fun y4=>
    need (decide (0≤s2.1)&&decide (s2.1<(s2.2.length:Int)))<|
    zb s2.2[s2.1.toNat]? fun y5=>
    some (LO.again (w64 (s2.1+1),List.set s2.2 s2.1.toNat (⟨y5.token,y4⟩:ze)))
   else
    some (LO.out s2.2):Int×List ze→Option (LO (Int×List ze) (List ze) _)) (0,y1) fun o6=>
 some o6
noncomputable def qW:List ze→Option (List ze):=recE (zdO)
noncomputable def zcc(x:List ze×Int):Option (List (List ze)×Int):=
 zb (Z5 x.1) fun y1=>
 bif y1 != 0 then
  some ([],y1)
 else
  bif bif decide (x.2<1)then true else decide (x.2>24)then
   some ([],2)
  else
   ZP (fun(s2:(Int×Int)×List (List ze))=>
     bif decide (s2.1.2<(x.1.length:Int))then
      zJ (X:=(Int×Int)×List (List ze)) (
        zb (geti x.1 s2.1.2) fun y3=>
        bif y3.token.kind==x.2 then
         need (decide (0≤s2.1.1)&&(decide (s2.1.1≤s2.1.2)&&(decide (s2.1.2≤s2.1.2)&&decide (s2.1.2≤(x.1.length:Int))))&&decide (s2.1.2=s2.1.2))<|
         zb (qW (List.drop s2.1.1.toNat (List.take s2.1.2.toNat x.1))) fun y4=>
         need (zz s2.2.length 1 24)<|
         some (LX.out ((w64 (s2.1.2+1),s2.1.2),s2.2++[y4]))
        else
         some (LX.out ((s2.1.1,s2.1.2),s2.2))) fun j5=>
      some (LO.again ((j5.1.1,w64 (j5.1.2+1)),j5.2))
     else
      some (LO.out (s2.1.1,s2.2)):(Int×Int)×List (List ze)→Option (LO ((Int×Int)×List (List ze)) (Int×List (List ze)) _)) ((0,0),[]) fun o6=>
   need (decide (0≤o6.1)&&decide (o6.1≤(x.1.length:Int)))<|
   zb (qW (List.drop o6.1.toNat x.1)) fun y7=>
   need (zz o6.2.length 1 24)<|
   some (o6.2++[y7],0)
noncomputable def zcQ(ZE:List ze×List ze→Option Bool)(x:List ze×List ze):Option Bool:=
 bif (x.1.length:Int) != (x.2.length:Int)then
  some false
 else
  ZP (fun(s1:Int)=>
    bif decide (s1<(x.1.length:Int))then
     zb (geti x.1 s1) fun y2=>
     zb (geti x.2 s1) fun y3=>
     zb (zB (!(!(y2.token.kind==y3.token.kind&&(y2.token.text==y3.token.text&&(y2.token.num==y3.token.num&&(y2.token.unit==y3.token.unit&&(y2.token.flag==y3.token.flag&&true))))))) (geti x.1 s1) (default:ze)) fun y4=>
     zb (zB (!(!(y2.token.kind==y3.token.kind&&(y2.token.text==y3.token.text&&(y2.token.num==y3.token.num&&(y2.token.unit==y3.token.unit&&(y2.token.flag==y3.token.flag&&true))))))) (geti x.2 s1) (default:ze)) fun y5=>
     zb (zB (!(!(y2.token.kind==y3.token.kind&&(y2.token.text==y3.token.text&&(y2.token.num==y3.token.num&&(y2.token.unit==y3.token.unit&&(y2.token.flag==y3.token.flag&&true))))))) (ZE (y4.list,y5.list)) (default:Bool)) fun y6=>
     bif bif !(y2.token.kind==y3.token.kind&&(y2.token.text==y3.token.text&&(y2.token.num==y3.token.num&&(y2.token.unit==y3.token.unit&&(y2.token.flag==y3.token.flag&&true)))))then true else !y6 then
      some (LO.ret false)
     else
      some (LO.again (w64 (s1+1)))
    else
     some (LO.out ()):Int→Option (LO (Int) (Unit) _)) 0 fun o7=>
  some true
noncomputable def ZE:List ze×List ze→Option Bool:=recE (zcQ)
noncomputable def zbh(x:Int×List ze):Option Bool:=
 zb (geti x.2 x.1) fun y1=>
 some (y1.token.kind==13)
noncomputable def zdo(x:List ze):Option (List ze×Int):=
 zb (Z5 x) fun y1=>
 bif y1 != 0 then
  some ([],y1)
 else
  ZP (fun(s2:Int)=>
    zb (zB (decide (s2<(x.length:Int))) (zbh (s2,x)) (default:Bool)) fun y3=>
    bif bif decide (s2<(x.length:Int))then y3 else false then
     some (LO.again (w64 (s2+1)))
    else
     some (LO.out s2):Int→Option (LO (Int) (Int) _)) 0 fun o4=>
  ZP (fun(s5:Int)=>
    zb (zB (decide (o4<s5)) (zbh (w64 (s5 - 1),x)) (default:Bool)) fun y6=>
    bif bif decide (o4<s5)then y6 else false then
     some (LO.again (w64 (s5 - 1)))
    else
     some (LO.out s5):Int→Option (LO (Int) (Int) _)) (x.length:Int) fun o7=>
  need (decide (0≤o4)&&(decide (o4≤o7)&&(decide (o7≤o7)&&decide (o7≤(x.length:Int))))&&decide (o7=o7))<|
  zb (qW (List.drop o4.toNat (List.take o7.toNat x))) fun y8=>
  some (y8,0)
noncomputable def zaJ(x:List ze×Int):Option Bool:=
 zb (zcA x.1) fun y1=>
 zb (zB (!y1) (zcz x.1) (default:Int)) fun y2=>
 bif bif bif bif y1 then true else y2 != 0 then true else decide (x.2<1)then true else decide (x.2>24)then
  zb (zao ()) fun y3=>
  some y3
 else
  zb (zcc (x.1,x.2)) fun y4=>
  bif bif y4.2 != 0 then true else decide ((y4.1.length:Int)<1)then
   some false
  else
   ZP (fun(s5:Int×Int)=>
     bif decide (s5.2<(y4.1.length:Int))then
      zJ (X:=Int) (
        bif decide (s5.2>0)then
         zb (zB (!(decide (s5.1≥(x.1.length:Int)))) (geti x.1 s5.1) (default:ze)) fun y6=>
         bif bif decide (s5.1≥(x.1.length:Int))then true else y6.token.kind != x.2 then
          some (LX.ret (LO.ret false))
         else
          some (LX.out (w64 (s5.1+1)))
        else
         some (LX.out s5.1)) fun j7=>
      ZP (fun(s8:Int×Int)=>
        zb (geti y4.1 s5.2) fun y9=>
        bif decide (s8.2<(y9.length:Int))then
         zb (geti y4.1 s5.2) fun y10=>
         zb (geti y10 s8.2) fun y11=>
         zb (zB (!(bif y11.token.kind==x.2 then true else decide (s8.1≥(x.1.length:Int)))) (geti y4.1 s5.2) (default:List ze)) fun y12=>
         need (decide (0≤s8.2)&&(decide (s8.2≤w64 (s8.2+1))&&decide (w64 (s8.2+1)≤(y12.length:Int)))|| !(!(bif y11.token.kind==x.2 then true else decide (s8.1≥(x.1.length:Int)))))<|
         need (decide (0≤s8.1)&&(decide (s8.1≤w64 (s8.1+1))&&decide (w64 (s8.1+1)≤(x.1.length:Int)))|| !(!(bif y11.token.kind==x.2 then true else decide (s8.1≥(x.1.length:Int)))))<|
         zb (zB (!(bif y11.token.kind==x.2 then true else decide (s8.1≥(x.1.length:Int)))) (ZE (List.drop s8.2.toNat (List.take (w64 (s8.2+1)).toNat y12),List.drop s8.1.toNat (List.take (w64 (s8.1+1)).toNat x.1))) (default:Bool)) fun y13=>
         bif bif bif y11.token.kind==x.2 then true else decide (s8.1≥(x.1.length:Int))then true else !y13 then
          some (LO.ret (LO.ret false))
         else
          some (LO.again (w64 (s8.1+1),w64 (s8.2+1)))
        else
         some (LO.out s8.1):Int×Int→Option (LO (Int×Int) (Int) _)) (j7,0) fun o14=>
      some (LO.again (o14,w64 (s5.2+1)))
     else
      some (LO.out s5.1):Int×Int→Option (LO (Int×Int) (Int) _)) (0,0) fun o15=>
   bif o15 != (x.1.length:Int)then
    some false
   else
    zb (zdo x.1) fun y16=>
    zb (zdo y16.1) fun y17=>
    zb (zB (!(bif y16.2 != 0 then true else y17.2 != 0)) (ZE (y16.1,y17.1)) (default:Bool)) fun y18=>
    bif bif bif y16.2 != 0 then true else y17.2 != 0 then true else !y18 then
     some false
    else
     ZP (fun(s19:Int)=>
       zb (zB (decide (s19<(x.1.length:Int))) (geti x.1 s19) (default:ze)) fun y20=>
       bif bif decide (s19<(x.1.length:Int))then y20.token.kind==13 else false then
        some (LO.again (w64 (s19+1)))
       else
        some (LO.out s19):Int→Option (LO (Int) (Int) _)) 0 fun o21=>
     need (decide (0≤o21)&&(decide (o21≤w64 (o21+(y16.1.length:Int)))&&decide (w64 (o21+(y16.1.length:Int))≤(x.1.length:Int)))|| !(!(decide ((y16.1.length:Int)>w64 ((x.1.length:Int) - o21)))))<|
     zb (zB (!(decide ((y16.1.length:Int)>w64 ((x.1.length:Int) - o21)))) (ZE (y16.1,List.drop o21.toNat (List.take (w64 (o21+(y16.1.length:Int))).toNat x.1))) (default:Bool)) fun y22=>
     bif bif decide ((y16.1.length:Int)>w64 ((x.1.length:Int) - o21))then true else !y22 then
      some false
     else
      ZP (fun(s23:Int)=>
        bif decide (s23<(x.1.length:Int))then
         zb (geti x.1 s23) fun y24=>
         bif y24.token.kind != 13 then
          some (LO.ret false)
         else
          some (LO.again (w64 (s23+1)))
        else
         some (LO.out ()):Int→Option (LO (Int) (Unit) _)) (w64 (o21+(y16.1.length:Int))) fun o25=>
      zb (zB (!((y16.1.length:Int)==0)) (geti y16.1 (w64 ((y16.1.length:Int) - 1))) (default:ze)) fun y26=>
      zb (zB (bif (y16.1.length:Int)==0 then true else y26.token.kind != 13) (zao ()) (default:Bool)) fun y27=>
      some (bif bif (y16.1.length:Int)==0 then true else y26.token.kind != 13 then y27 else false)
end Go.Lv.VT
