/- Texts. -/
import Derived.Test.YtcdeccnjlkkejaaGreatDoorTy
import Derived.Test.YtcdeccnjlkkejaaGreatDoorLf
noncomputable section
set_option linter.unusedSimpArgs false
set_option linter.unusedVariables false
namespace Go.Lv.VT
set_option maxRecDepth 100000
def Dt(qV:List zf×Int->Option Int)(x:List zf×Int):Option Int:=
 Zf (fun(s1:Int×Int)=>
   bif bif decide (s1.2<(x.1.length:Int))then decide (s1.1<=x.2)else false then
    zb (geti x.1 s1.2) fun y2=>
    zb (geti x.1 s1.2) fun y3=>
    zb (geti x.1 s1.2) fun y4=>
    zb (qV (y4.list,w64 (x.2 - s1.1))) fun y5=>
    some (LO.again (w64 (s1.1+w64 (w64 (w64 (1+(y2.token.text.length:Int))+(y3.token.unit.length:Int))+y5)),w64 (s1.2+1)))
   else
    some (LO.out s1.1):Int×Int->Option (LO (Int×Int) (Int) _)) (0,0) fun o6=>
 some o6
def qV:List zf×Int->Option Int:=recE (Dt)
def Qv(x:Int):Option Int:=
 bif x==19 then
  some 20
 else
  zM (X:=Bool) (
    bif x==21 then
     some (LX.out (x==21))
    else
     some (LX.out (x==2))) fun j1=>
  bif j1 then
   some 22
  else
   bif x==23 then
    some 24
   else
    some 0
def bB(Qk:List zf->Option Int)(x:List zf):Option Int:=
 Zf (fun(s1:Int×Int)=>
   bif decide (s1.2<(x.length:Int))then
    zM (X:=Int×Int) (
      zb (geti x s1.2) fun y2=>
      zb (Qv y2.token.kind) fun y3=>
      bif y3 != 0 then
       zb (geti x s1.2) fun y4=>
       zb (Qk y4.list) fun y5=>
       some (LX.out (if w64 (1+y5)>s1.1 then w64 (1+y5)else s1.1,s1.2))
      else
       some (LX.out (s1.1,s1.2))) fun j6=>
    some (LO.again (j6.1,w64 (j6.2+1)))
   else
    some (LO.out s1.1):Int×Int->Option (LO (Int×Int) (Int) _)) (0,0) fun o7=>
 some o7
def Qk:List zf->Option Int:=recE (bB)
def ww(x:List zJ):Option Bool:=
 bif decide ((x.length:Int)>40)then
  some true
 else
  Zf (fun(s1:Int×Int)=>
    bif decide (s1.2<(x.length:Int))then
     zb (geti x s1.2) fun y2=>
     zb (geti x s1.2) fun y3=>
     zb (qV (y3.value,300)) fun y4=>
     zb (zo (!(decide (w64 (s1.1+w64 ((y2.name.length:Int)+y4))>300))) (geti x s1.2) (default:zJ)) fun y5=>
     zb (zo (!(decide (w64 (s1.1+w64 ((y2.name.length:Int)+y4))>300))) (Qk y5.value) (default:Int)) fun y6=>
     bif bif decide (w64 (s1.1+w64 ((y2.name.length:Int)+y4))>300)then true else decide (y6>40)then
      some (LO.ret true)
     else
      some (LO.again (w64 (s1.1+w64 ((y2.name.length:Int)+y4)),w64 (s1.2+1)))
    else
     some (LO.out ()):Int×Int->Option (LO (Int×Int) (Unit) _)) (0,0) fun o7=>
  some false
def QG(x:Int):Option Int:=
 bif bif decide (x>=65)then decide (x<=90)else false then
  some (wu8 (wu8 (x - 65)+97))
 else
  some x
def qY(x:Str):Option Str:=
 need (decide (x.length<=maxLen))<|
 Zf (fun(s1:Int×List UInt8)=>
   bif decide (s1.1<(s1.2.length:Int))then
    need (decide (0<=s1.1)&&decide (s1.1<(s1.2.length:Int)))<|
    zb s1.2[s1.1.toNat]? fun y2=>
    zb (QG (y2.toNat:Int)) fun y3=>
    need (decide (0<=s1.1)&&decide (s1.1<(s1.2.length:Int)))<|
    zb s1.2[s1.1.toNat]? fun y4=>
    zb (ZF y3) fun y5=>
    some (LO.again (w64 (s1.1+1),List.set s1.2 s1.1.toNat y5))
   else
    some (LO.out s1.2):Int×List UInt8->Option (LO (Int×List UInt8) (List UInt8) _)) (0,x) fun o6=>
 some o6
def uw(x:Str):Option Bool:=
 bif bif decide ((x.length:Int)<1)then true else decide ((x.length:Int)>64)then
  some false
 else
  Zf (fun(s1:Int)=>
    bif decide (s1<(x.length:Int))then
     zb (geti x s1) fun y2=>
     bif (y2.toNat:Int)==0 then
      some (LO.ret false)
     else
      some (LO.again (w64 (s1+1)))
    else
     some (LO.out ()):Int->Option (LO (Int) (Unit) _)) 0 fun o3=>
  need (decide (2<=(x.length:Int))|| !(decide ((x.length:Int)>=2)))<|
  bif bif decide ((x.length:Int)>=2)then List.take 2 x==[45,45]else false then
   some (decide ((x.length:Int)>2))
  else
   zb (qY x) fun y4=>
   some (x==y4)
def OC(qc:List zf->Option (List ze))(x:List zf):Option (List ze):=
 Zf (fun(s1:Int×List ze)=>
   bif decide (s1.1<(x.length:Int))then
    zM (X:=Int×List ze) (
      zb (geti x s1.1) fun y2=>
      need (zH s1.2.length 1 56)<|
      zb (geti x s1.1) fun y3=>
      zb (Qv y3.token.kind) fun y4=>
      bif y4 != 0 then
       zb (geti x s1.1) fun y5=>
       zb (qc y5.list) fun y6=>
       need (zH (s1.2++[y2.token]).length y6.length 56)<|
       need (zH (s1.2++[y2.token]++y6).length 1 56)<|
       some (LX.out (s1.1,s1.2++[y2.token]++y6++[(⟨y4,[],0,[],false⟩:ze)]))
      else
       some (LX.out (s1.1,s1.2++[y2.token]))) fun j7=>
    some (LO.again (w64 (j7.1+1),j7.2))
   else
    some (LO.out s1.2):Int×List ze->Option (LO (Int×List ze) (List ze) _)) (0,[]) fun o8=>
 some o8
def qc:List zf->Option (List ze):=recE (OC)
def NC(qQ:List zf×Int->Option Bool)(x:List zf×Int):Option Bool:=
 Zf (fun(s1:Int)=>
   bif decide (s1<(x.1.length:Int))then
    zb (geti x.1 s1) fun y2=>
    zb (Qv y2.token.kind) fun y3=>
    zb (zo (y3==0) (geti x.1 s1) (default:zf)) fun y4=>
    zb (zo (x.2 != 0&& !(bif y3==0 then decide ((y4.list.length:Int)>0)else false)) (geti x.1 s1) (default:zf)) fun y5=>
    zb (zo (y3 != 0&& !(bif bif y3==0 then decide ((y4.list.length:Int)>0)else false then true else bif x.2 != 0 then y5.token.kind==x.2 else false)) (geti x.1 s1) (default:zf)) fun y6=>
    zb (zo (y3 != 0&& !(bif bif y3==0 then decide ((y4.list.length:Int)>0)else false then true else bif x.2 != 0 then y5.token.kind==x.2 else false)) (qQ (y6.list,y3)) (default:Bool)) fun y7=>
    bif bif bif bif y3==0 then decide ((y4.list.length:Int)>0)else false then true else bif x.2 != 0 then y5.token.kind==x.2 else false then true else bif y3 != 0 then !y7 else false then
     some (LO.ret false)
    else
     some (LO.again (w64 (s1+1)))
   else
    some (LO.out ()):Int->Option (LO (Int) (Unit) _)) 0 fun o8=>
 some true
def qQ:List zf×Int->Option Bool:=recE (NC)
def yw(x:List zf):Option Int:=
 zb (Qk x) fun y1=>
 bif decide (y1>16)then
  some 20
 else
  zb (qc x) fun y2=>
  bif decide ((y2.length:Int)>1500)then
   some 4
  else
   zb (qQ (x,0)) fun y3=>
   bif !y3 then
    some 8
   else
    some 0
def Om(x:Str):Option Bool:=
 Zf (fun(s1:Int)=>
   bif decide (s1<(x.length:Int))then
    zb (geti x s1) fun y2=>
    bif (y2.toNat:Int)==0 then
     some (LO.ret false)
    else
     some (LO.again (w64 (s1+1)))
   else
    some (LO.out ()):Int->Option (LO (Int) (Unit) _)) 0 fun o3=>
 some true
def zY(x:Int):Option Bool:=
 some (bif decide (x>=48)then decide (x<=57)else false)
def jw(x:Str):Option Bool:=
 bif x==[]then
  some false
 else
  zb (geti x 0) fun y1=>
  zb (zY (y1.toNat:Int)) fun y2=>
  zb (zo (!(bif y2 then true else x==[45])) (geti x 0) 0) fun y3=>
  zb (zo ((y3.toNat:Int)==45&& !(bif y2 then true else x==[45])) (geti x 1) 0) fun y4=>
  zb (zo ((y3.toNat:Int)==45&& !(bif y2 then true else x==[45])) (zY (y4.toNat:Int)) (default:Bool)) fun y5=>
  some (bif bif y2 then true else x==[45]then true else bif (y3.toNat:Int)==45 then y5 else false)
def qm(x:Int):Option Bool:=
 some (bif bif x==10 then true else x==9 then true else x==32)
def zO(x:Str×Int):Option Int:=
 bif decide (x.2<(x.1.length:Int))then
  zb (geti x.1 x.2) fun y1=>
  some (y1.toNat:Int)
 else
  some 0
def qP(x:Str×Int):Option Int:=
 Zf (fun(s1:Int)=>
   zb (zO (x.1,s1)) fun y2=>
   zb (qm y2) fun y3=>
   bif y3 then
    some (LO.again (w64 (s1+1)))
   else
    some (LO.out s1):Int->Option (LO (Int) (Int) _)) x.2 fun o4=>
 some o4
def Gs(x:Unit):Option Str:=
 some [(239:UInt8),(191:UInt8),(189:UInt8)]
def Gm(x:Int):Option Int:=
 zb (zY x) fun y1=>
 bif y1 then
  some (w64 (wu8 (x - 48)))
 else
  zb (QG x) fun y2=>
  bif bif decide (y2>=97)then decide (y2<=102)else false then
   some (w64 (w64 (wu8 (y2 - 97))+10))
  else
   some (-1)
def LB(x:Int):Option Str:=
 bif bif bif x==0 then true else bif decide (x>=55296)then decide (x<=57343)else false then true else decide (x>1114111)then
  zb (Gs ()) fun y1=>
  some y1
 else
  bif decide (x<128)then
   zb (ZF (wu8 x)) fun y2=>
   some [y2]
  else
   bif decide (x<2048)then
    zb (ZF (wu8 (w64 (192+w64 (Int.tdiv x 64))))) fun y3=>
    zb (ZF (wu8 (w64 (128+Int.tmod x 64)))) fun y4=>
    some [y3,y4]
   else
    bif decide (x<65536)then
     zb (ZF (wu8 (w64 (224+w64 (Int.tdiv x 4096))))) fun y5=>
     zb (ZF (wu8 (w64 (128+Int.tmod (w64 (Int.tdiv x 64)) 64)))) fun y6=>
     zb (ZF (wu8 (w64 (128+Int.tmod x 64)))) fun y7=>
     some [y5,y6,y7]
    else
     zb (ZF (wu8 (w64 (240+w64 (Int.tdiv x 262144))))) fun y8=>
     zb (ZF (wu8 (w64 (128+Int.tmod (w64 (Int.tdiv x 4096)) 64)))) fun y9=>
     zb (ZF (wu8 (w64 (128+Int.tmod (w64 (Int.tdiv x 64)) 64)))) fun y10=>
     zb (ZF (wu8 (w64 (128+Int.tmod x 64)))) fun y11=>
     some [y8,y9,y10,y11]
def Z7(x:Str×Int):Option (Str×Int):=
 bif decide (w64 (x.2+1)>=(x.1.length:Int))then
  zb (Gs ()) fun y1=>
  some (y1,w64 (x.2+1))
 else
  zb (geti x.1 (w64 (x.2+1))) fun y2=>
  zb (Gm (y2.toNat:Int)) fun y3=>
  bif decide (y3<0)then
   need (decide (0<=w64 (x.2+1))&&(decide (w64 (x.2+1)<=w64 (w64 (x.2+1)+1))&&decide (w64 (w64 (x.2+1)+1)<=(x.1.length:Int))))<|
   some (List.drop (w64 (x.2+1)).toNat (List.take (w64 (w64 (x.2+1)+1)).toNat x.1),w64 (w64 (x.2+1)+1))
  else
   Zf (fun(s4:Int×Int)=>
     zb (zo (bif decide (s4.2<(x.1.length:Int))then decide (s4.2<w64 (w64 (x.2+1)+6))else false) (geti x.1 s4.2) 0) fun y5=>
     zb (zo (bif decide (s4.2<(x.1.length:Int))then decide (s4.2<w64 (w64 (x.2+1)+6))else false) (Gm (y5.toNat:Int)) (default:Int)) fun y6=>
     bif bif bif decide (s4.2<(x.1.length:Int))then decide (s4.2<w64 (w64 (x.2+1)+6))else false then decide (y6>=0)else false then
      zb (geti x.1 s4.2) fun y7=>
      zb (Gm (y7.toNat:Int)) fun y8=>
      some (LO.again (w64 (w64 (16*s4.1)+y8),w64 (s4.2+1)))
     else
      some (LO.out (s4.1,s4.2)):Int×Int->Option (LO (Int×Int) (Int×Int) _)) (0,w64 (x.2+1)) fun o9=>
   zM (X:=Int) (
     zb (zO (x.1,o9.2)) fun y10=>
     zb (qm y10) fun y11=>
     bif y11 then
      some (LX.out (w64 (o9.2+1)))
     else
      some (LX.out o9.2)) fun j12=>
   zb (LB o9.1) fun y13=>
   some (y13,j12)
def Fx(x:Str×Int):Option (ze×Int):=
 zb (geti x.1 x.2) fun y1=>
 Zf (fun(s2:Int×ze×ze)=>
   bif decide (s2.1<(x.1.length:Int))then
    zb (geti x.1 s2.1) fun y3=>
    bif (y3.toNat:Int)==(y1.toNat:Int)then
     some (LO.ret (s2.2.2,w64 (s2.1+1)))
    else
     zb (geti x.1 s2.1) fun y4=>
     bif (y4.toNat:Int)==10 then
      some (LO.ret ((⟨6,[],0,[],false⟩:ze),s2.1))
     else
      zb (geti x.1 s2.1) fun y5=>
      bif bif (y5.toNat:Int)==92 then w64 (s2.1+1)==(x.1.length:Int)else false then
       some (LO.again (w64 (s2.1+1),s2.2.1,s2.2.2))
      else
       zb (geti x.1 s2.1) fun y6=>
       zb (zo ((y6.toNat:Int)==92) (geti x.1 (w64 (s2.1+1))) 0) fun y7=>
       bif bif (y6.toNat:Int)==92 then(y7.toNat:Int)==10 else false then
        some (LO.again (w64 (s2.1+2),s2.2.1,s2.2.2))
       else
        zb (geti x.1 s2.1) fun y8=>
        bif (y8.toNat:Int)==92 then
         zb (Z7 (x.1,s2.1)) fun y9=>
         need (QU s2.2.2.text.length y9.1.length)<|
         some (LO.again (y9.2,s2.2.1,(⟨s2.2.2.kind,s2.2.2.text++y9.1,s2.2.2.num,s2.2.2.unit,s2.2.2.flag⟩:ze)))
        else
         need (decide (0<=s2.1)&&(decide (s2.1<=w64 (s2.1+1))&&decide (w64 (s2.1+1)<=(x.1.length:Int))))<|
         need (QU s2.2.2.text.length (List.drop s2.1.toNat (List.take (w64 (s2.1+1)).toNat x.1)).length)<|
         some (LO.again (w64 (s2.1+1),s2.2.1,(⟨s2.2.2.kind,s2.2.2.text++List.drop s2.1.toNat (List.take (w64 (s2.1+1)).toNat x.1),s2.2.2.num,s2.2.2.unit,s2.2.2.flag⟩:ze)))
   else
    some (LO.out (s2.1,s2.2.1,s2.2.2)):Int×ze×ze->Option (LO (Int×ze×ze) (Int×ze×ze) _)) (w64 (x.2+1),(⟨0,[],0,[],false⟩:ze),(⟨5,[],0,[],false⟩:ze)) fun o10=>
 some (o10.2.2,o10.1)
def Et(x:Int):Option Bool:=
 zb (QG x) fun y1=>
 some (bif bif bif decide (y1>=97)then decide (y1<=122)else false then true else x==95 then true else decide (x>=128))
def Lp(x:Int):Option Bool:=
 zb (Et x) fun y1=>
 zb (zo (!y1) (zY x) (default:Bool)) fun y2=>
 some (bif bif y1 then true else y2 then true else x==45)
def Zu(x:Str×Int):Option Bool:=
 zb (zO (x.1,x.2)) fun y1=>
 zb (zo (y1==92) (zO (x.1,w64 (x.2+1))) (default:Int)) fun y2=>
 some (bif y1==92 then y2 != 10 else false)
def QH(x:Str×Int):Option (Str×Int):=
 Zf (fun(s1:Int×Str)=>
   zb (zo (decide (s1.1<(x.1.length:Int))) (geti x.1 s1.1) 0) fun y2=>
   zb (zo (decide (s1.1<(x.1.length:Int))) (Lp (y2.toNat:Int)) (default:Bool)) fun y3=>
   bif bif decide (s1.1<(x.1.length:Int))then y3 else false then
    need (decide (0<=s1.1)&&(decide (s1.1<=w64 (s1.1+1))&&decide (w64 (s1.1+1)<=(x.1.length:Int))))<|
    need (QU s1.2.length (List.drop s1.1.toNat (List.take (w64 (s1.1+1)).toNat x.1)).length)<|
    some (LO.again (w64 (s1.1+1),s1.2++List.drop s1.1.toNat (List.take (w64 (s1.1+1)).toNat x.1)))
   else
    zb (zo (decide (s1.1<(x.1.length:Int))) (Zu (x.1,s1.1)) (default:Bool)) fun y4=>
    bif bif decide (s1.1<(x.1.length:Int))then y4 else false then
     zb (Z7 (x.1,s1.1)) fun y5=>
     need (QU s1.2.length y5.1.length)<|
     some (LO.again (y5.2,s1.2++y5.1))
    else
     some (LO.ret (s1.2,s1.1)):Int×Str->Option (LO (Int×Str) (Unit) _)) (x.2,[]) fun o6=>
 none
def qD(x:Str×Int):Option Bool:=
 zb (zO (x.1,x.2)) fun y1=>
 bif y1==45 then
  zb (zO (x.1,w64 (x.2+1))) fun y2=>
  zb (Et y2) fun y3=>
  zb (zo (!y3) (zO (x.1,w64 (x.2+1))) (default:Int)) fun y4=>
  zb (zo (!(bif y3 then true else y4==45)) (Zu (x.1,w64 (x.2+1))) (default:Bool)) fun y5=>
  some (bif bif y3 then true else y4==45 then true else y5)
 else
  zb (zO (x.1,x.2)) fun y6=>
  zb (Et y6) fun y7=>
  zb (zo (!y7) (Zu (x.1,x.2)) (default:Bool)) fun y8=>
  some (bif y7 then true else y8)
def DC(x:Str×Int):Option Bool:=
 zM (X:=Int) (
   zb (zO (x.1,x.2)) fun y1=>
   bif bif y1==43 then true else y1==45 then
    some (LX.out (w64 (x.2+1)))
   else
    some (LX.out x.2)) fun j2=>
 zM (X:=Int) (
   zb (zO (x.1,j2)) fun y3=>
   bif y3==46 then
    some (LX.out (w64 (j2+1)))
   else
    some (LX.out j2)) fun j4=>
 zb (zO (x.1,j4)) fun y5=>
 zb (zY y5) fun y6=>
 some y6
def Jp(x:Str×Int):Option Int:=
 Zf (fun(s1:Int)=>
   zb (zO (x.1,s1)) fun y2=>
   zb (zY y2) fun y3=>
   bif y3 then
    some (LO.again (w64 (s1+1)))
   else
    some (LO.out s1):Int->Option (LO (Int) (Int) _)) x.2 fun o4=>
 some o4
def Cy(x:Str×Int):Option (Int×Bool):=
 zM (X:=Int) (
   zb (zO (x.1,x.2)) fun y1=>
   bif bif y1==43 then true else y1==45 then
    some (LX.out (w64 (x.2+1)))
   else
    some (LX.out x.2)) fun j2=>
 zb (Jp (x.1,j2)) fun y3=>
 zM (X:=Int×Bool) (
   zb (zO (x.1,y3)) fun y4=>
   zb (zo (y4==46) (zO (x.1,w64 (y3+1))) (default:Int)) fun y5=>
   zb (zo (y4==46) (zY y5) (default:Bool)) fun y6=>
   bif bif y4==46 then y6 else false then
    zb (Jp (x.1,w64 (y3+1))) fun y7=>
    some (LX.out (y7,false))
   else
    some (LX.out (y3,true))) fun j8=>
 zM (X:=Int×Bool) (
   zb (zO (x.1,j8.1)) fun y9=>
   bif bif y9==101 then true else y9==69 then
    zM (X:=Int×Bool×Int) (
      zb (zO (x.1,w64 (j8.1+1))) fun y10=>
      bif bif y10==43 then true else y10==45 then
       some (LX.out (j8.1,j8.2,w64 (w64 (j8.1+1)+1)))
      else
       some (LX.out (j8.1,j8.2,w64 (j8.1+1)))) fun j11=>
    zb (zO (x.1,j11.2.2)) fun y12=>
    zb (zY y12) fun y13=>
    bif y13 then
     zb (Jp (x.1,j11.2.2)) fun y14=>
     some (LX.out (y14,false))
    else
     some (LX.out (j11.1,j11.2.1))
   else
    some (LX.out (j8.1,j8.2))) fun j15=>
 some (j15.1,j15.2)
def QS(x:Str):Option Int:=
 zb (geti x 0) fun y1=>
 zM (X:=Str×Int×Int) (
   zb (geti x 0) fun y2=>
   bif bif (y2.toNat:Int)==43 then true else(y1.toNat:Int)==45 then
    some (LX.out ([],3,1))
   else
    some (LX.out ([],3,0))) fun j3=>
 Zf (fun(s4:Str×Int)=>
   zb (zO (x,s4.2)) fun y5=>
   zb (zY y5) fun y6=>
   bif y6 then
    need (decide (0<=s4.2)&&(decide (s4.2<=w64 (s4.2+1))&&decide (w64 (s4.2+1)<=(x.length:Int))))<|
    need (QU s4.1.length (List.drop s4.2.toNat (List.take (w64 (s4.2+1)).toNat x)).length)<|
    some (LO.again (s4.1++List.drop s4.2.toNat (List.take (w64 (s4.2+1)).toNat x),w64 (s4.2+1)))
   else
    some (LO.out (s4.1,s4.2)):Str×Int->Option (LO (Str×Int) (Str×Int) _)) (j3.1,j3.2.2) fun o7=>
 zM (X:=Str×Int×Int) (
   zb (zO (x,o7.2)) fun y8=>
   bif y8==46 then
    Zf (fun(s9:Str×Int×Int)=>
      zb (zO (x,s9.2.2)) fun y10=>
      zb (zY y10) fun y11=>
      bif y11 then
       need (decide (0<=s9.2.2)&&(decide (s9.2.2<=w64 (s9.2.2+1))&&decide (w64 (s9.2.2+1)<=(x.length:Int))))<|
       need (QU s9.1.length (List.drop s9.2.2.toNat (List.take (w64 (s9.2.2+1)).toNat x)).length)<|
       some (LO.again (s9.1++List.drop s9.2.2.toNat (List.take (w64 (s9.2.2+1)).toNat x),w64 (s9.2.1 - 1),w64 (s9.2.2+1)))
      else
       some (LO.out (s9.1,s9.2.1,s9.2.2)):Str×Int×Int->Option (LO (Str×Int×Int) (Str×Int×Int) _)) (o7.1,j3.2.1,w64 (o7.2+1)) fun o12=>
    some (LX.out (o12.1,o12.2.1,o12.2.2))
   else
    some (LX.out (o7.1,j3.2.1,o7.2))) fun j13=>
 zM (X:=Int) (
   bif decide (j13.2.2<(x.length:Int))then
    zb (geti x (w64 (j13.2.2+1))) fun y14=>
    zM (X:=Int×Int) (
      zb (geti x (w64 (j13.2.2+1))) fun y15=>
      bif bif (y15.toNat:Int)==43 then true else(y14.toNat:Int)==45 then
       some (LX.out (j13.2.1,w64 (w64 (j13.2.2+1)+1)))
      else
       some (LX.out (j13.2.1,w64 (j13.2.2+1)))) fun j16=>
    Zf (fun(s17:Int×Int)=>
      bif decide (s17.1<(x.length:Int))then
       zb (geti x s17.1) fun y18=>
       some (LO.again (w64 (s17.1+1),if w64 (w64 (10*s17.2)+w64 (wu8 ((y18.toNat:Int) - 48)))<10000 then w64 (w64 (10*s17.2)+w64 (wu8 ((y18.toNat:Int) - 48)))else 10000))
      else
       some (LO.out s17.2):Int×Int->Option (LO (Int×Int) (Int) _)) (j16.2,0) fun o19=>
    zM (X:=Int×Int) (
      bif (y14.toNat:Int)==45 then
       some (LX.out (j16.1,w64 (0 - o19)))
      else
       some (LX.out (j16.1,o19))) fun j20=>
    some (LX.out (w64 (j20.1+j20.2)))
   else
    some (LX.out j13.2.1)) fun j21=>
 Zf (fun(s22:Int×Int)=>
   bif bif decide (s22.2<w64 ((j13.1.length:Int)+j21))then decide (s22.2<(j13.1.length:Int))else false then
    zb (geti j13.1 s22.2) fun y23=>
    some (LO.again (if w64 (w64 (10*s22.1)+w64 (wu8 ((y23.toNat:Int) - 48)))<1000000000000 then w64 (w64 (10*s22.1)+w64 (wu8 ((y23.toNat:Int) - 48)))else 1000000000000,w64 (s22.2+1)))
   else
    some (LO.out s22.1):Int×Int->Option (LO (Int×Int) (Int) _)) (0,0) fun o24=>
 Zf (fun(s25:Int×Int)=>
   bif bif bif decide (s25.1>0)then decide (s25.2>0)else false then decide (s25.2<1000000000000)else false then
    some (LO.again (w64 (s25.1 - 1),if w64 (10*s25.2)<1000000000000 then w64 (10*s25.2)else 1000000000000))
   else
    some (LO.out s25.2):Int×Int->Option (LO (Int×Int) (Int) _)) (j21,o24) fun o26=>
 bif (y1.toNat:Int)==45 then
  some (w64 (0 - o26))
 else
  some o26
def dx(x:Str×Int):Option (ze×Int):=
 zb (Cy (x.1,x.2)) fun y1=>
 need (decide (0<=x.2)&&(decide (x.2<=y1.1)&&decide (y1.1<=(x.1.length:Int))))<|
 zb (QS (List.drop x.2.toNat (List.take y1.1.toNat x.1))) fun y2=>
 zM (X:=Int×ze×ze) (
   zb (qD (x.1,y1.1)) fun y3=>
   bif y3 then
    zb (QH (x.1,y1.1)) fun y4=>
    some (LX.out (y4.2,(⟨0,[],0,[],false⟩:ze),(⟨12,[],y2,y4.1,y1.2⟩:ze)))
   else
    zb (zO (x.1,y1.1)) fun y5=>
    bif y5==37 then
     some (LX.out (w64 (y1.1+1),(⟨0,[],0,[],false⟩:ze),(⟨11,[],y2,[],false⟩:ze)))
    else
     some (LX.out (y1.1,(⟨0,[],0,[],false⟩:ze),(⟨10,[],y2,[],y1.2⟩:ze)))) fun j6=>
 some (j6.2.2,j6.1)
def Yr(x:Str×Int×Str):Option Bool:=
 need (decide (0<=x.2.1)&&(decide (x.2.1<=w64 (x.2.1+(x.2.2.length:Int)))&&decide (w64 (x.2.1+(x.2.2.length:Int))<=(x.1.length:Int)))|| !(decide (w64 ((x.1.length:Int) - x.2.1)>=(x.2.2.length:Int))))<|
 some (bif decide (w64 ((x.1.length:Int) - x.2.1)>=(x.2.2.length:Int))then List.drop x.2.1.toNat (List.take (w64 (x.2.1+(x.2.2.length:Int))).toNat x.1)==x.2.2 else false)
def qX(x:Str×Str):Option Bool:=
 zb (qY x.1) fun y1=>
 zb (qY x.2) fun y2=>
 some (y1==y2)
def jr(x:Str×Int):Option (ze×Int):=
 Zf (fun(s1:Int)=>
   zb (zo (decide (s1<(x.1.length:Int))) (geti x.1 s1) 0) fun y2=>
   bif bif decide (s1<(x.1.length:Int))then(y2.toNat:Int) != 41 else false then
    zb (Zu (x.1,s1)) fun y3=>
    bif y3 then
     zb (Z7 (x.1,s1)) fun y4=>
     some (LO.again y4.2)
    else
     some (LO.again (w64 (s1+1)))
   else
    some (LO.out s1):Int->Option (LO (Int) (Int) _)) x.2 fun o5=>
 some ((⟨8,[],0,[],false⟩:ze),if w64 (o5+1)<(x.1.length:Int)then w64 (o5+1)else(x.1.length:Int))
def aC(x:Int):Option Bool:=
 some (bif bif bif decide (x<=8)then true else x==11 then true else bif decide (x>=14)then decide (x<=31)else false then true else x==127)
def Nw(x:Str×Int):Option (ze×Int):=
 zb (qP (x.1,x.2)) fun y1=>
 Zf (fun(s2:Int×ze×ze)=>
   zb (zo (decide (s2.1<(x.1.length:Int))) (geti x.1 s2.1) 0) fun y3=>
   bif bif decide (s2.1<(x.1.length:Int))then(y3.toNat:Int) != 41 else false then
    zb (geti x.1 s2.1) fun y4=>
    zb (qm (y4.toNat:Int)) fun y5=>
    bif y5 then
     zb (qP (x.1,s2.1)) fun y6=>
     zb (zo (decide (y6<(x.1.length:Int))) (geti x.1 y6) 0) fun y7=>
     bif bif decide (y6<(x.1.length:Int))then(y7.toNat:Int) != 41 else false then
      zb (jr (x.1,y6)) fun y8=>
      some (LO.ret (y8.1,y8.2))
     else
      some (LO.again (y6,s2.2.1,s2.2.2))
    else
     zb (zo (!(bif bif (y4.toNat:Int)==34 then true else(y4.toNat:Int)==39 then true else(y4.toNat:Int)==40)) (aC (y4.toNat:Int)) (default:Bool)) fun y9=>
     zb (zo ((y4.toNat:Int)==92&& !(bif bif bif (y4.toNat:Int)==34 then true else(y4.toNat:Int)==39 then true else(y4.toNat:Int)==40 then true else y9)) (Zu (x.1,s2.1)) (default:Bool)) fun y10=>
     bif bif bif bif bif (y4.toNat:Int)==34 then true else(y4.toNat:Int)==39 then true else(y4.toNat:Int)==40 then true else y9 then true else bif (y4.toNat:Int)==92 then !y10 else false then
      zb (jr (x.1,s2.1)) fun y11=>
      some (LO.ret (y11.1,y11.2))
     else
      bif (y4.toNat:Int)==92 then
       zb (Z7 (x.1,s2.1)) fun y12=>
       need (QU s2.2.2.text.length y12.1.length)<|
       some (LO.again (y12.2,s2.2.1,(⟨s2.2.2.kind,s2.2.2.text++y12.1,s2.2.2.num,s2.2.2.unit,s2.2.2.flag⟩:ze)))
      else
       need (decide (0<=s2.1)&&(decide (s2.1<=w64 (s2.1+1))&&decide (w64 (s2.1+1)<=(x.1.length:Int))))<|
       need (QU s2.2.2.text.length (List.drop s2.1.toNat (List.take (w64 (s2.1+1)).toNat x.1)).length)<|
       some (LO.again (w64 (s2.1+1),s2.2.1,(⟨s2.2.2.kind,s2.2.2.text++List.drop s2.1.toNat (List.take (w64 (s2.1+1)).toNat x.1),s2.2.2.num,s2.2.2.unit,s2.2.2.flag⟩:ze)))
   else
    some (LO.out (s2.1,s2.2.1,s2.2.2)):Int×ze×ze->Option (LO (Int×ze×ze) (Int×ze×ze) _)) (y1,(⟨0,[],0,[],false⟩:ze),(⟨7,[],0,[],false⟩:ze)) fun o13=>
 some (o13.2.2,if w64 (o13.1+1)<(x.1.length:Int)then w64 (o13.1+1)else(x.1.length:Int))
def kw(x:Str×Int):Option (ze×Int):=
 zb (QH (x.1,x.2)) fun y1=>
 zb (zO (x.1,y1.2)) fun y2=>
 bif y2 != 40 then
  some ((⟨1,y1.1,0,[],false⟩:ze),y1.2)
 else
  zM (X:=ze) (
    zb (qX (y1.1,[117,114,108])) fun y3=>
    bif y3 then
     zb (qP (x.1,w64 (y1.2+1))) fun y4=>
     zb (zO (x.1,y4)) fun y5=>
     bif bif y5 != 34 then y5 != 39 else false then
      zb (Nw (x.1,w64 (y1.2+1))) fun y6=>
      some (LX.ret (y6.1,y6.2))
     else
      some (LX.out (⟨0,[],0,[],false⟩:ze))
    else
     some (LX.out (⟨0,[],0,[],false⟩:ze))) fun j7=>
  some ((⟨2,y1.1,0,[],false⟩:ze),w64 (y1.2+1))
def Fs(x:Int):Option Int:=
 bif x==58 then
  some 16
 else
  bif x==59 then
   some 17
  else
   bif x==44 then
    some 18
   else
    bif x==91 then
     some 19
    else
     bif x==93 then
      some 20
     else
      bif x==40 then
       some 21
      else
       bif x==41 then
        some 22
       else
        bif x==123 then
         some 23
        else
         bif x==125 then
          some 24
         else
          some 0
def Ow(x:Str×Int):Option (ze×Int):=
 zb (geti x.1 x.2) fun y1=>
 zb (qm (y1.toNat:Int)) fun y2=>
 bif y2 then
  zb (qP (x.1,x.2)) fun y3=>
  some ((⟨13,[],0,[],false⟩:ze),y3)
 else
  bif bif (y1.toNat:Int)==34 then true else(y1.toNat:Int)==39 then
   zb (Fx (x.1,x.2)) fun y4=>
   some (y4.1,y4.2)
  else
   zb (zo (decide (w64 (x.2+1)<(x.1.length:Int))&&(y1.toNat:Int)==35) (geti x.1 (w64 (x.2+1))) 0) fun y5=>
   zb (zo (decide (w64 (x.2+1)<(x.1.length:Int))&&(y1.toNat:Int)==35) (Lp (y5.toNat:Int)) (default:Bool)) fun y6=>
   zb (zo (!(bif decide (w64 (x.2+1)<(x.1.length:Int))then y6 else false)&&(y1.toNat:Int)==35) (Zu (x.1,w64 (x.2+1))) (default:Bool)) fun y7=>
   bif bif (y1.toNat:Int)==35 then bif bif decide (w64 (x.2+1)<(x.1.length:Int))then y6 else false then true else y7 else false then
    zb (QH (x.1,w64 (x.2+1))) fun y8=>
    zb (qD (x.1,w64 (x.2+1))) fun y9=>
    some ((⟨4,y8.1,0,[],y9⟩:ze),y8.2)
   else
    zb (DC (x.1,x.2)) fun y10=>
    bif y10 then
     zb (dx (x.1,x.2)) fun y11=>
     some (y11.1,y11.2)
    else
     zb (Yr (x.1,x.2,[45,45,62])) fun y12=>
     bif y12 then
      some ((⟨15,[],0,[],false⟩:ze),w64 (x.2+3))
     else
      zb (Yr (x.1,x.2,[60,33,45,45])) fun y13=>
      bif y13 then
       some ((⟨14,[],0,[],false⟩:ze),w64 (x.2+4))
      else
       zb (zo ((y1.toNat:Int)==64) (qD (x.1,w64 (x.2+1))) (default:Bool)) fun y14=>
       bif bif (y1.toNat:Int)==64 then y14 else false then
        zb (QH (x.1,w64 (x.2+1))) fun y15=>
        some ((⟨3,y15.1,0,[],false⟩:ze),y15.2)
       else
        zb (qD (x.1,x.2)) fun y16=>
        bif y16 then
         zb (kw (x.1,x.2)) fun y17=>
         some (y17.1,y17.2)
        else
         zb (Fs (y1.toNat:Int)) fun y18=>
         bif y18 != 0 then
          zb (Fs (y1.toNat:Int)) fun y19=>
          some ((⟨y19,[],0,[],false⟩:ze),w64 (x.2+1))
         else
          need (decide (0<=x.2)&&(decide (x.2<=w64 (x.2+1))&&decide (w64 (x.2+1)<=(x.1.length:Int))))<|
          some ((⟨9,List.drop x.2.toNat (List.take (w64 (x.2+1)).toNat x.1),0,[],false⟩:ze),w64 (x.2+1))
def qZ(x:Int):Option Bool:=
 zb (ZF x) fun y1=>
 zb (Ow ([y1,(10:UInt8)],0)) fun y2=>
 some (bif bif bif bif decide (x>=1)then decide (x<=127)else false then x != 12 else false then x != 13 else false then y2.1.kind==9 else false)
def iw(x:ze):Option Bool:=
 zM (X:=Bool×ze) (
   bif x.kind==1 then
    some (LX.out (x.kind==1,x))
   else
    bif x.kind==2 then
     some (LX.out (x.kind==2,x))
    else
     some (LX.out (x.kind==3,x))) fun j1=>
 bif j1.1 then
  zb (zo (!(x.text==[])) (Om x.text) (default:Bool)) fun y2=>
  some (bif bif !(x.text==[])then y2 else false then j1.2.kind==x.kind&&(([]:Str)==[]&&(j1.2.num==0&&(j1.2.unit==[]&&(j1.2.flag==false&&true))))else false)
 else
  bif x.kind==4 then
   zb (zo (!(x.text==[])) (Om x.text) (default:Bool)) fun y3=>
   zb (zo (!x.flag&&(bif !(x.text==[])then y3 else false)) (jw x.text) (default:Bool)) fun y4=>
   some (bif bif bif !(x.text==[])then y3 else false then bif x.flag then true else y4 else false then j1.2.kind==x.kind&&(([]:Str)==[]&&(j1.2.num==0&&(j1.2.unit==[]&&(false==false&&true))))else false)
  else
   zM (X:=Bool×ze) (
     bif x.kind==5 then
      some (LX.out (x.kind==5,j1.2))
     else
      some (LX.out (x.kind==7,j1.2))) fun j5=>
   bif j5.1 then
    zb (Om x.text) fun y6=>
    some (bif y6 then j5.2.kind==x.kind&&(([]:Str)==[]&&(j5.2.num==0&&(j5.2.unit==[]&&(j5.2.flag==false&&true))))else false)
   else
    bif x.kind==9 then
     zb (zo ((x.text.length:Int)==1) (geti x.text 0) 0) fun y7=>
     zb (zo ((x.text.length:Int)==1) (qZ (y7.toNat:Int)) (default:Bool)) fun y8=>
     some (bif bif (x.text.length:Int)==1 then y8 else false then j5.2.kind==x.kind&&(([]:Str)==[]&&(j5.2.num==0&&(j5.2.unit==[]&&(j5.2.flag==false&&true))))else false)
    else
     zM (X:=Bool×ze) (
       bif x.kind==10 then
        some (LX.out (x.kind==10,j5.2))
       else
        bif x.kind==11 then
         some (LX.out (x.kind==11,j5.2))
        else
         some (LX.out (x.kind==12,j5.2))) fun j9=>
     bif j9.1 then
      zb (zo ((!(x.unit==[]))==(x.kind==12)) (Om x.unit) (default:Bool)) fun y10=>
      some (bif bif bif bif bif decide (x.num>=(-1000000000000))then decide (x.num<=1000000000000)else false then bif !x.flag then true else Int.tmod x.num 1000==0 else false then bif (!(x.unit==[]))==(x.kind==12)then y10 else false else false then bif x.kind != 11 then true else !x.flag else false then j9.2.kind==x.kind&&(j9.2.text==[]&&(0==0&&(([]:Str)==[]&&(false==false&&true))))else false)
     else
      zM (X:=Bool) (
        bif x.kind==6 then
         some (LX.out (x.kind==6))
        else
         some (LX.out (x.kind==8))) fun j11=>
      bif j11 then
       some false
      else
       some (bif bif decide (x.kind>=1)then decide (x.kind<=24)else false then x.kind==x.kind&&(x.text==[]&&(x.num==0&&(x.unit==[]&&(x.flag==false&&true))))else false)
def Bp(x:List ze):Option Int:=
 bif decide ((x.length:Int)>1500)then
  some 4
 else
  Zf (fun(s1:Int)=>
    bif decide (s1<(x.length:Int))then
     zb (geti x s1) fun y2=>
     zb (iw y2) fun y3=>
     bif !y3 then
      some (LO.ret 8)
     else
      zM (X:=Unit) (
        zb (geti x s1) fun y4=>
        zb (zo (y4.kind==2) (geti x s1) (default:ze)) fun y5=>
        zb (zo (y4.kind==2) (qX (y5.text,[117,114,108])) (default:Bool)) fun y6=>
        bif bif y4.kind==2 then y6 else false then
         zM (X:=Int) (
           zb (zo (decide (w64 (s1+1)<(x.length:Int))) (geti x (w64 (s1+1))) (default:ze)) fun y7=>
           bif bif decide (w64 (s1+1)<(x.length:Int))then y7.kind==13 else false then
            some (LX.out (w64 (w64 (s1+1)+1)))
           else
            some (LX.out (w64 (s1+1)))) fun j8=>
         zb (zo (!(decide (j8>=(x.length:Int)))) (geti x j8) (default:ze)) fun y9=>
         bif bif decide (j8>=(x.length:Int))then true else y9.kind != 5 then
          some (LX.ret (LO.ret 8))
         else
          some (LX.out ())
        else
         some (LX.out ())) fun j10=>
      zb (geti x s1) fun y11=>
      zb (zo (y11.kind==9) (geti x s1) (default:ze)) fun y12=>
      zb (zo (!(w64 (s1+1)==(x.length:Int))&&(bif y11.kind==9 then y12.text==[92]else false)) (geti x (w64 (s1+1))) (default:ze)) fun y13=>
      bif bif bif y11.kind==9 then y12.text==[92]else false then bif w64 (s1+1)==(x.length:Int)then true else y13.kind != 13 else false then
       some (LO.ret 8)
      else
       some (LO.again (w64 (s1+1)))
    else
     some (LO.out ()):Int->Option (LO (Int) (Unit) _)) 0 fun o14=>
  some 0
def YC(qz:List zf->Option Bool)(x:List zf):Option Bool:=
 Zf (fun(s1:Int)=>
   bif decide (s1<(x.length:Int))then
    zb (geti x s1) fun y2=>
    zb (zo (!(bif bif y2.token.kind==20 then true else y2.token.kind==22 then true else y2.token.kind==24)) (geti x s1) (default:zf)) fun y3=>
    zb (zo (!(bif bif y2.token.kind==20 then true else y2.token.kind==22 then true else y2.token.kind==24)) (qz y3.list) (default:Bool)) fun y4=>
    bif bif bif bif y2.token.kind==20 then true else y2.token.kind==22 then true else y2.token.kind==24 then true else y4 then
     some (LO.ret true)
    else
     some (LO.again (w64 (s1+1)))
   else
    some (LO.out ()):Int->Option (LO (Int) (Unit) _)) 0 fun o5=>
 some false
def qz:List zf->Option Bool:=recE (YC)
def ax(x:List zf):Option (List zf):=
 Zf (fun(s1:List zf)=>
   zb (zo (decide ((s1.length:Int)>0)) (geti s1 0) (default:zf)) fun y2=>
   bif bif decide ((s1.length:Int)>0)then y2.token.kind==13 else false then
    need (decide (1<=(s1.length:Int)))<|
    some (LO.again (List.drop 1 s1))
   else
    some (LO.out s1):List zf->Option (LO (List zf) (List zf) _)) x fun o3=>
 Zf (fun(s4:List zf)=>
   zb (zo (decide ((s4.length:Int)>0)) (geti s4 (w64 ((s4.length:Int) - 1))) (default:zf)) fun y5=>
   bif bif decide ((s4.length:Int)>0)then y5.token.kind==13 else false then
    need (decide (0<=w64 ((s4.length:Int) - 1))&&decide (w64 ((s4.length:Int) - 1)<=(s4.length:Int)))<|
    some (LO.again (List.take (w64 ((s4.length:Int) - 1)).toNat s4))
   else
    some (LO.out s4):List zf->Option (LO (List zf) (List zf) _)) o3 fun o6=>
 some o6
def Ex(x:Str):Option Bool:=
 need (decide (2<=(x.length:Int))|| !(decide ((x.length:Int)>2)))<|
 some (bif decide ((x.length:Int)>2)then List.take 2 x==[45,45]else false)
def Dx(x:Str×List zf):Option Bool:=
 zb (yw x.2) fun y1=>
 zb (zo (!(y1 != 0)) (qc x.2) (default:List ze)) fun y2=>
 zb (zo (!(y1 != 0)) (Bp y2) (default:Int)) fun y3=>
 zb (zo (!(bif y1 != 0 then true else y3 != 0)) (qz x.2) (default:Bool)) fun y4=>
 bif bif bif y1 != 0 then true else y3 != 0 then true else y4 then
  some false
 else
  zb (ax x.2) fun y5=>
  zb (zo ((x.2.length:Int)==0&& !((y5.length:Int) != (x.2.length:Int))) (Ex x.1) (default:Bool)) fun y6=>
  bif bif (y5.length:Int) != (x.2.length:Int)then true else bif (x.2.length:Int)==0 then !y6 else false then
   some false
  else
   Zf (fun(s7:Int)=>
     bif decide (s7<(x.2.length:Int))then
      zb (geti x.2 s7) fun y8=>
      bif bif y8.token.kind==17 then true else bif y8.token.kind==9 then y8.token.text==[33]else false then
       some (LO.ret false)
      else
       some (LO.again (w64 (s7+1)))
     else
      some (LO.out ()):Int->Option (LO (Int) (Unit) _)) 0 fun o9=>
   some true
def xw(x:zJ):Option Int:=
 zb (uw x.name) fun y1=>
 zb (zo (!(!y1)) (Dx (x.name,x.value)) (default:Bool)) fun y2=>
 bif bif !y1 then true else !y2 then
  some 8
 else
  some 0
def stringslite_HasPrefix(x:Str×Str):Option Bool:=
 need (decide (0<=(x.2.length:Int))&&decide ((x.2.length:Int)<=(x.1.length:Int))|| !(decide ((x.1.length:Int)>=(x.2.length:Int))))<|
 some (bif decide ((x.1.length:Int)>=(x.2.length:Int))then List.take x.2.length x.1==x.2 else false)
def strings_HasPrefix(x:Str×Str):Option Bool:=
 zb (stringslite_HasPrefix (x.1,x.2)) fun y1=>
 some y1
def Ze(x:za):Option za:=
 Zf (fun(s1:za)=>
   need (decide (0<=s1.at_)&&decide (s1.at_<=(s1.s.length:Int)))<|
   zb (strings_HasPrefix (List.drop s1.at_.toNat s1.s,[47,42])) fun y2=>
   bif y2 then
    need (decide (0<=w64 (s1.at_+2))&&decide (w64 (s1.at_+2)<=(s1.s.length:Int)))<|
    zb (Jj (List.drop (w64 (s1.at_+2)).toNat s1.s,[42,47])) fun y3=>
    bif decide (y3<0)then
     some (LO.ret (⟨s1.s,(s1.s.length:Int)⟩:za))
    else
     some (LO.again (⟨s1.s,w64 (s1.at_+w64 (y3+4))⟩:za))
   else
    some (LO.out s1):za->Option (LO (za) (za) _)) x fun o4=>
 some o4
def zg(x:Int×za):Option Int:=
 bif decide (w64 (x.2.at_+x.1)<(x.2.s.length:Int))then
  zb (geti x.2.s (w64 (x.2.at_+x.1))) fun y1=>
  some (w64 (y1.toNat:Int))
 else
  some (-1)
def ZE(x:Int):Option Bool:=
 some (bif bif x==32 then true else x==9 then true else x==10)
def zX(x:za):Option za:=
 Zf (fun(s1:za)=>
   zb (zg (0,s1)) fun y2=>
   zb (ZE y2) fun y3=>
   bif y3 then
    some (LO.again (⟨s1.s,w64 (s1.at_+1)⟩:za))
   else
    some (LO.out s1):za->Option (LO (za) (za) _)) x fun o4=>
 some o4
def qA(x:Int):Option (List UInt8):=
 bif decide (wu32 x<=2047)then
  zb (ZF (ibOr IntKind.u8 192 (wu8 (og IntKind.i32 x 6)))) fun y1=>
  zb (ZF (ibOr IntKind.u8 128 (Wh IntKind.u8 (wu8 x) 63))) fun y2=>
  need (zH 0 2 1)<|
  some [y1,y2]
 else
  zM (X:=Bool) (
    bif decide (wu32 x<55296)then
     some (LX.out (decide (wu32 x<55296)))
    else
     some (LX.out (bif decide (57343<wu32 x)then decide (wu32 x<=65535)else false))) fun j3=>
  bif j3 then
   zb (ZF (ibOr IntKind.u8 224 (wu8 (og IntKind.i32 x 12)))) fun y4=>
   zb (ZF (ibOr IntKind.u8 128 (Wh IntKind.u8 (wu8 (og IntKind.i32 x 6)) 63))) fun y5=>
   zb (ZF (ibOr IntKind.u8 128 (Wh IntKind.u8 (wu8 x) 63))) fun y6=>
   need (zH 0 3 1)<|
   some [y4,y5,y6]
  else
   bif bif decide (wu32 x>65535)then decide (wu32 x<=1114111)else false then
    zb (ZF (ibOr IntKind.u8 240 (wu8 (og IntKind.i32 x 18)))) fun y7=>
    zb (ZF (ibOr IntKind.u8 128 (Wh IntKind.u8 (wu8 (og IntKind.i32 x 12)) 63))) fun y8=>
    zb (ZF (ibOr IntKind.u8 128 (Wh IntKind.u8 (wu8 (og IntKind.i32 x 6)) 63))) fun y9=>
    zb (ZF (ibOr IntKind.u8 128 (Wh IntKind.u8 (wu8 x) 63))) fun y10=>
    need (zH 0 4 1)<|
    some [y7,y8,y9,y10]
   else
    need (zH 0 3 1)<|
    some [(239:UInt8),(191:UInt8),(189:UInt8)]
def ZI(x:Int):Option (List UInt8):=
 bif decide (wu32 x<=127)then
  zb (ZF (wu8 x)) fun y1=>
  need (zH 0 1 1)<|
  some [y1]
 else
  zb (qA x) fun y2=>
  some y2
def Z0(x:Int×Int×Int):Option Bool:=
 some (bif decide (x.2.1<=x.1)then decide (x.1<=x.2.2)else false)
def Zm(x:Int):Option Bool:=
 zb (Z0 (x,48,57)) fun y1=>
 some y1
def Pi(x:Int):Option Int:=
 zb (Zm x) fun y1=>
 bif y1 then
  some (w64 (x - 48))
 else
  zb (zo (x != (-1)) (Z0 (ibOr IntKind.i64 x 32,97,102)) (default:Bool)) fun y2=>
  bif bif bif bif x != (-1)then y2 else false then decide (x>64)else false then decide (x<128)else false then
   some (w64 (w64 (ibOr IntKind.i64 x 32 - 97)+10))
  else
   some (-1)
def Zn(x:za):Option (za×List UInt8):=
 zb (zg (0,(⟨x.s,w64 (x.at_+1)⟩:za))) fun y1=>
 bif y1==(-1)then
  zb (ZI 65533) fun y2=>
  some ((⟨x.s,w64 (x.at_+1)⟩:za),y2)
 else
  zb (Pi y1) fun y3=>
  bif decide (y3<0)then
   zb (ZF (wu8 y1)) fun y4=>
   need (zH 0 1 1)<|
   some ((⟨x.s,w64 (w64 (x.at_+1)+1)⟩:za),[y4])
  else
   Zf (fun(s5:(Int×Int)×za)=>
     bif decide (s5.1.2<6)then
      zb (zg (0,s5.2)) fun y6=>
      zb (Pi y6) fun y7=>
      bif decide (y7<0)then
       some (LO.out (s5.1.1,s5.2))
      else
       some (LO.again ((ibOr IntKind.i64 (Xm IntKind.i64 s5.1.1 4) y7,w64 (s5.1.2+1)),(⟨s5.2.s,w64 (s5.2.at_+1)⟩:za)))
     else
      some (LO.out (s5.1.1,s5.2)):(Int×Int)×za->Option (LO ((Int×Int)×za) (Int×za) _)) ((0,0),(⟨x.s,w64 (x.at_+1)⟩:za)) fun o8=>
   zM (X:=Int×za) (
     zb (zg (0,o8.2)) fun y9=>
     zb (ZE y9) fun y10=>
     bif y10 then
      some (LX.out (o8.1,(⟨o8.2.s,w64 (o8.2.at_+1)⟩:za)))
     else
      some (LX.out (o8.1,o8.2))) fun j11=>
   zM (X:=Int) (
     bif j11.1==0 then
      some (LX.out 65533)
     else
      some (LX.out j11.1)) fun j12=>
   zb (ZI (w32 j12)) fun y13=>
   some (j11.2,y13)
def qB(x:Int×List UInt8):Option (List UInt8):=
 bif decide (wu32 x.1<=2047)then
  zb (ZF (ibOr IntKind.u8 192 (wu8 (og IntKind.i32 x.1 6)))) fun y1=>
  zb (ZF (ibOr IntKind.u8 128 (Wh IntKind.u8 (wu8 x.1) 63))) fun y2=>
  need (zH x.2.length 2 1)<|
  some (x.2++[y1,y2])
 else
  zM (X:=Bool×List UInt8) (
    bif decide (wu32 x.1<55296)then
     some (LX.out (decide (wu32 x.1<55296),x.2))
    else
     some (LX.out (bif decide (57343<wu32 x.1)then decide (wu32 x.1<=65535)else false,x.2))) fun j3=>
  bif j3.1 then
   zb (ZF (ibOr IntKind.u8 224 (wu8 (og IntKind.i32 x.1 12)))) fun y4=>
   zb (ZF (ibOr IntKind.u8 128 (Wh IntKind.u8 (wu8 (og IntKind.i32 x.1 6)) 63))) fun y5=>
   zb (ZF (ibOr IntKind.u8 128 (Wh IntKind.u8 (wu8 x.1) 63))) fun y6=>
   need (zH j3.2.length 3 1)<|
   some (j3.2++[y4,y5,y6])
  else
   bif bif decide (wu32 x.1>65535)then decide (wu32 x.1<=1114111)else false then
    zb (ZF (ibOr IntKind.u8 240 (wu8 (og IntKind.i32 x.1 18)))) fun y7=>
    zb (ZF (ibOr IntKind.u8 128 (Wh IntKind.u8 (wu8 (og IntKind.i32 x.1 12)) 63))) fun y8=>
    zb (ZF (ibOr IntKind.u8 128 (Wh IntKind.u8 (wu8 (og IntKind.i32 x.1 6)) 63))) fun y9=>
    zb (ZF (ibOr IntKind.u8 128 (Wh IntKind.u8 (wu8 x.1) 63))) fun y10=>
    need (zH j3.2.length 4 1)<|
    some (j3.2++[y7,y8,y9,y10])
   else
    need (zH j3.2.length 3 1)<|
    some (j3.2++[(239:UInt8),(191:UInt8),(189:UInt8)])
def ZJ(x:Int×List UInt8):Option (List UInt8):=
 bif decide (wu32 x.1<=127)then
  zb (ZF (wu8 x.1)) fun y1=>
  need (zH x.2.length 1 1)<|
  some (x.2++[y1])
 else
  zb (qB (x.1,x.2)) fun y2=>
  some y2
def zS(x:za×List UInt8):Option (za×List UInt8):=
 zb (zg (0,(⟨x.1.s,w64 (x.1.at_+1)⟩:za))) fun y1=>
 bif y1==(-1)then
  zb (ZJ (65533,x.2)) fun y2=>
  some ((⟨x.1.s,w64 (x.1.at_+1)⟩:za),y2)
 else
  zb (Pi y1) fun y3=>
  bif decide (y3<0)then
   zb (ZF (wu8 y1)) fun y4=>
   need (zH x.2.length 1 1)<|
   some ((⟨x.1.s,w64 (w64 (x.1.at_+1)+1)⟩:za),x.2++[y4])
  else
   Zf (fun(s5:(Int×Int)×za)=>
     bif decide (s5.1.2<6)then
      zb (zg (0,s5.2)) fun y6=>
      zb (Pi y6) fun y7=>
      bif decide (y7<0)then
       some (LO.out (s5.1.1,s5.2))
      else
       some (LO.again ((ibOr IntKind.i64 (Xm IntKind.i64 s5.1.1 4) y7,w64 (s5.1.2+1)),(⟨s5.2.s,w64 (s5.2.at_+1)⟩:za)))
     else
      some (LO.out (s5.1.1,s5.2)):(Int×Int)×za->Option (LO ((Int×Int)×za) (Int×za) _)) ((0,0),(⟨x.1.s,w64 (x.1.at_+1)⟩:za)) fun o8=>
   zM (X:=Int×za×List UInt8) (
     zb (zg (0,o8.2)) fun y9=>
     zb (ZE y9) fun y10=>
     bif y10 then
      some (LX.out (o8.1,(⟨o8.2.s,w64 (o8.2.at_+1)⟩:za),x.2))
     else
      some (LX.out (o8.1,o8.2,x.2))) fun j11=>
   zM (X:=Int×List UInt8) (
     bif j11.1==0 then
      some (LX.out (65533,j11.2.2))
     else
      some (LX.out (j11.1,j11.2.2))) fun j12=>
   zb (ZJ (w32 j12.1,j12.2)) fun y13=>
   some (j11.2.1,y13)
def ZN(x:za):Option (ze×za):=
 zb (zg (0,x)) fun y1=>
 Zf (fun(s2:za×ze×List UInt8)=>
   zb (zg (0,s2.1)) fun y3=>
   bif y3==(-1)then
    some (LO.out (s2.1,s2.2.1,s2.2.2))
   else
    bif y3==y1 then
     some (LO.out ((⟨s2.1.s,w64 (s2.1.at_+1)⟩:za),s2.2.1,s2.2.2))
    else
     bif y3==10 then
      some (LO.ret ((⟨6,[],0,[],false⟩:ze),s2.1))
     else
      zb (zo (y3==92) (zg (1,s2.1)) (default:Int)) fun y4=>
      zb (zo (!(y4==(-1))&&y3==92) (zg (1,s2.1)) (default:Int)) fun y5=>
      bif bif y3==92 then bif y4==(-1)then true else y5==10 else false then
       some (LO.again ((⟨s2.1.s,if(s2.1.s.length:Int)<w64 (s2.1.at_+2)then(s2.1.s.length:Int)else w64 (s2.1.at_+2)⟩:za),s2.2.1,s2.2.2))
      else
       bif y3==92 then
        zb (zS (s2.1,s2.2.2)) fun y6=>
        some (LO.again (y6.1,s2.2.1,y6.2))
       else
        zb (ZF (wu8 y3)) fun y7=>
        need (zH s2.2.2.length 1 1)<|
        some (LO.again ((⟨s2.1.s,w64 (s2.1.at_+1)⟩:za),s2.2.1,s2.2.2++[y7])):za×ze×List UInt8->Option (LO (za×ze×List UInt8) (za×ze×List UInt8) _)) ((⟨x.s,w64 (x.at_+1)⟩:za),(⟨0,[],0,[],false⟩:ze),[]) fun o8=>
 some ((⟨5,o8.2.2,0,[],false⟩:ze),o8.1)
def yo(x:Int):Option Bool:=
 zb (Z0 (ibOr IntKind.i64 x 32,97,122)) fun y1=>
 some (bif bif bif bif y1 then decide (x<128)else false then decide (x>64)else false then true else x==95 then true else decide (x>=128))
def Q0(x:Int):Option Bool:=
 zb (yo x) fun y1=>
 zb (zo (!y1) (Zm x) (default:Bool)) fun y2=>
 some (bif bif y1 then true else y2 then true else x==45)
def zu(x:Int×za):Option Bool:=
 zb (zg (x.1,x.2)) fun y1=>
 zb (zo (y1==92) (zg (w64 (x.1+1),x.2)) (default:Int)) fun y2=>
 some (bif y1==92 then y2 != 10 else false)
def zB(x:Int×za):Option Bool:=
 zb (zg (x.1,x.2)) fun y1=>
 bif y1 != 45 then
  zb (zg (x.1,x.2)) fun y2=>
  zb (yo y2) fun y3=>
  zb (zo (!y3) (zu (x.1,x.2)) (default:Bool)) fun y4=>
  some (bif y3 then true else y4)
 else
  zb (zg (w64 (x.1+1),x.2)) fun y5=>
  zb (yo y5) fun y6=>
  zb (zo (!y6) (zg (w64 (x.1+1),x.2)) (default:Int)) fun y7=>
  zb (zo (!(bif y6 then true else y7==45)) (zu (w64 (x.1+1),x.2)) (default:Bool)) fun y8=>
  some (bif bif y6 then true else y7==45 then true else y8)
def zT(x:za):Option (Str×za):=
 Zf (fun(s1:za×List UInt8)=>
   zb (zg (0,s1.1)) fun y2=>
   zb (Q0 y2) fun y3=>
   bif y3 then
    zb (ZF (wu8 y2)) fun y4=>
    need (zH s1.2.length 1 1)<|
    some (LO.again ((⟨s1.1.s,w64 (s1.1.at_+1)⟩:za),s1.2++[y4]))
   else
    zb (zo (y2 != (-1)) (zu (0,s1.1)) (default:Bool)) fun y5=>
    bif bif y2 != (-1)then y5 else false then
     zb (zS (s1.1,s1.2)) fun y6=>
     some (LO.again (y6.1,y6.2))
    else
     some (LO.ret (s1.2,s1.1)):za×List UInt8->Option (LO (za×List UInt8) (Unit) _)) (x,[]) fun o7=>
 none
def Zv(x:za):Option Bool:=
 zM (X:=Int) (
   zb (zg (0,x)) fun y1=>
   bif bif y1==43 then true else y1==45 then
    some (LX.out 1)
   else
    some (LX.out 0)) fun j2=>
 zM (X:=Int) (
   zb (zg (j2,x)) fun y3=>
   bif y3==46 then
    some (LX.out (w64 (j2+1)))
   else
    some (LX.out j2)) fun j4=>
 zb (zg (j4,x)) fun y5=>
 zb (Zm y5) fun y6=>
 some y6
def zU(x:za):Option za:=
 Zf (fun(s1:za)=>
   zb (zg (0,s1)) fun y2=>
   zb (Zm y2) fun y3=>
   bif y3 then
    some (LO.again (⟨s1.s,w64 (s1.at_+1)⟩:za))
   else
    some (LO.out s1):za->Option (LO (za) (za) _)) x fun o4=>
 some o4
def ZC(x:za):Option (Bool×za):=
 zM (X:=za) (
   zb (zg (0,x)) fun y1=>
   bif bif y1==43 then true else y1==45 then
    some (LX.out (⟨x.s,w64 (x.at_+1)⟩:za))
   else
    some (LX.out x)) fun j2=>
 zb (zU j2) fun y3=>
 zM (X:=Bool×za) (
   zb (zg (0,y3)) fun y4=>
   zb (zo (y4==46) (zg (1,y3)) (default:Int)) fun y5=>
   zb (zo (y4==46) (Zm y5) (default:Bool)) fun y6=>
   bif bif y4==46 then y6 else false then
    zb (zU (⟨y3.s,w64 (y3.at_+1)⟩:za)) fun y7=>
    some (LX.out (false,y7))
   else
    some (LX.out (true,y3))) fun j8=>
 zM (X:=Bool×za) (
   zb (zg (0,j8.2)) fun y9=>
   zb (zo (!(y9==101)) (zg (0,j8.2)) (default:Int)) fun y10=>
   bif bif y9==101 then true else y10==69 then
    zM (X:=(Bool×Int)×za) (
      zb (zg (1,j8.2)) fun y11=>
      bif bif y11==43 then true else y11==45 then
       some (LX.out ((j8.1,2),j8.2))
      else
       some (LX.out ((j8.1,1),j8.2))) fun j12=>
    zb (zg (j12.1.2,j12.2)) fun y13=>
    zb (Zm y13) fun y14=>
    bif y14 then
     zb (zU (⟨j12.2.s,w64 (j12.2.at_+j12.1.2)⟩:za)) fun y15=>
     some (LX.out (false,y15))
    else
     some (LX.out (j12.1.1,j12.2))
   else
    some (LX.out (j8.1,j8.2))) fun j16=>
 some (j16.1,j16.2)
def ZH(x:Str):Option Int:=
 zb (geti x 0) fun y1=>
 zb (mh (x,[43,45])) fun y2=>
 zM (X:=Str×Int) (
   zb (Ti (y2,[101,69])) fun y3=>
   bif decide (y3>=0)then
    need (decide (0<=w64 (y3+1))&&decide (w64 (y3+1)<=(y2.length:Int)))<|
    zb (mh (List.drop (w64 (y3+1)).toNat y2,[43,45])) fun y4=>
    need (decide (y4.length<=maxLen))<|
    Zf (fun(s5:Int×Int)=>
      bif decide (s5.2<(y4.length:Int))then
       need (decide (0<=s5.2)&&decide (s5.2<(y4.length:Int)))<|
       zb y4[s5.2.toNat]? fun y6=>
       some (LO.again (if 1048576<w64 (w64 (10*s5.1)+w64 (wu8 ((y6.toNat:Int) - 48)))then 1048576 else w64 (w64 (10*s5.1)+w64 (wu8 ((y6.toNat:Int) - 48))),w64 (s5.2+1)))
      else
       some (LO.out s5.1):Int×Int->Option (LO (Int×Int) (Int) _)) (0,0) fun o7=>
    zM (X:=Str×Int×Int) (
      zb (geti y2 (w64 (y3+1))) fun y8=>
      bif (y8.toNat:Int)==45 then
       some (LX.out (y2,3,w64 (0 - o7)))
      else
       some (LX.out (y2,3,o7))) fun j9=>
    need (decide (0<=y3)&&decide (y3<=(j9.1.length:Int)))<|
    some (LX.out (List.take y3.toNat j9.1,w64 (j9.2.1+j9.2.2)))
   else
    some (LX.out (y2,3))) fun j10=>
 zb (cutF (j10.1,[46])) fun y11=>
 need (QU y11.1.length y11.2.1.length)<|
 zM (X:=Str×Int) (
   bif decide (w64 (j10.2 - (y11.2.1.length:Int))<0)then
    need (decide (0<=(if w64 (((y11.1++y11.2.1).length:Int)+w64 (j10.2 - (y11.2.1.length:Int)))>0 then w64 (((y11.1++y11.2.1).length:Int)+w64 (j10.2 - (y11.2.1.length:Int)))else 0))&&decide ((if w64 (((y11.1++y11.2.1).length:Int)+w64 (j10.2 - (y11.2.1.length:Int)))>0 then w64 (((y11.1++y11.2.1).length:Int)+w64 (j10.2 - (y11.2.1.length:Int)))else 0)<=((y11.1++y11.2.1).length:Int)))<|
    some (LX.out (List.take (if w64 (((y11.1++y11.2.1).length:Int)+w64 (j10.2 - (y11.2.1.length:Int)))>0 then w64 (((y11.1++y11.2.1).length:Int)+w64 (j10.2 - (y11.2.1.length:Int)))else 0).toNat (y11.1++y11.2.1),w64 (j10.2 - (y11.2.1.length:Int))))
   else
    some (LX.out (y11.1++y11.2.1,w64 (j10.2 - (y11.2.1.length:Int))))) fun j12=>
 need (decide (j12.1.length<=maxLen))<|
 Zf (fun(s13:Int×Int)=>
   bif decide (s13.2<(j12.1.length:Int))then
    need (decide (0<=s13.2)&&decide (s13.2<(j12.1.length:Int)))<|
    zb j12.1[s13.2.toNat]? fun y14=>
    some (LO.again (if 1000000000000<w64 (w64 (10*s13.1)+w64 (wu8 ((y14.toNat:Int) - 48)))then 1000000000000 else w64 (w64 (10*s13.1)+w64 (wu8 ((y14.toNat:Int) - 48))),w64 (s13.2+1)))
   else
    some (LO.out s13.1):Int×Int->Option (LO (Int×Int) (Int) _)) (0,0) fun o15=>
 Zf (fun(s16:Int×Int)=>
   bif bif bif decide (s16.1>0)then decide (s16.2>0)else false then decide (s16.2<1000000000000)else false then
    some (LO.again (w64 (s16.1 - 1),if 1000000000000<w64 (10*s16.2)then 1000000000000 else w64 (10*s16.2)))
   else
    some (LO.out s16.2):Int×Int->Option (LO (Int×Int) (Int) _)) (j12.2,o15) fun o17=>
 zM (X:=Int) (
   bif (y1.toNat:Int)==45 then
    some (LX.out (w64 (0 - o17)))
   else
    some (LX.out o17)) fun j18=>
 some j18
def Zj(x:za):Option (ze×za):=
 zb (ZC x) fun y1=>
 need (decide (0<=x.at_)&&(decide (x.at_<=y1.2.at_)&&decide (y1.2.at_<=(y1.2.s.length:Int))))<|
 zb (ZH (List.drop x.at_.toNat (List.take y1.2.at_.toNat y1.2.s))) fun y2=>
 zM (X:=za×ze×ze) (
   zb (zB (0,y1.2)) fun y3=>
   bif y3 then
    zb (zT y1.2) fun y4=>
    some (LX.out (y4.2,(⟨0,[],0,[],false⟩:ze),(⟨12,[],y2,y4.1,y1.1⟩:ze)))
   else
    zb (zg (0,y1.2)) fun y5=>
    bif y5==37 then
     some (LX.out ((⟨y1.2.s,w64 (y1.2.at_+1)⟩:za),(⟨0,[],0,[],false⟩:ze),(⟨11,[],y2,[],false⟩:ze)))
    else
     some (LX.out (y1.2,(⟨0,[],0,[],false⟩:ze),(⟨10,[],y2,[],y1.1⟩:ze)))) fun j6=>
 some (j6.2.2,j6.1)
def qj(x:Str):Option Str:=
 need (decide (x.length<=maxLen))<|
 Zf (fun(s1:Int×List UInt8)=>
   bif decide (s1.1<(x.length:Int))then
    zM (X:=Int×List UInt8) (
      need (decide (0<=s1.1)&&decide (s1.1<(s1.2.length:Int)))<|
      zb s1.2[s1.1.toNat]? fun y2=>
      bif bif decide (65<=(y2.toNat:Int))then decide ((y2.toNat:Int)<=90)else false then
       need (decide (0<=s1.1)&&decide (s1.1<(s1.2.length:Int)))<|
       zb s1.2[s1.1.toNat]? fun y3=>
       need (decide (0<=s1.1)&&decide (s1.1<(s1.2.length:Int)))<|
       zb s1.2[s1.1.toNat]? fun y4=>
       zb (ZF (ibOr IntKind.u8 (y3.toNat:Int) 32)) fun y5=>
       some (LX.out (s1.1,List.set s1.2 s1.1.toNat y5))
      else
       some (LX.out (s1.1,s1.2))) fun j6=>
    some (LO.again (w64 (j6.1+1),j6.2))
   else
    some (LO.out s1.2):Int×List UInt8->Option (LO (Int×List UInt8) (List UInt8) _)) (0,x) fun o7=>
 some o7
def qF(x:Str×Str):Option Bool:=
 zb (qj x.1) fun y1=>
 zb (qj x.2) fun y2=>
 some (y1==y2)
def ZG(x:za):Option (ze×za):=
 Zf (fun(s1:za×ze)=>
   zb (zg (0,s1.1)) fun y2=>
   bif y2==(-1)then
    some (LO.ret ((⟨8,[],0,[],false⟩:ze),s1.1))
   else
    zb (zu (0,s1.1)) fun y3=>
    bif y3 then
     zb (Zn s1.1) fun y4=>
     some (LO.again (y4.1,s1.2))
    else
     zb (geti s1.1.s (w64 (w64 (s1.1.at_+1) - 1))) fun y5=>
     bif (y5.toNat:Int)==41 then
      some (LO.ret ((⟨8,[],0,[],false⟩:ze),(⟨s1.1.s,w64 (s1.1.at_+1)⟩:za)))
     else
      some (LO.again ((⟨s1.1.s,w64 (s1.1.at_+1)⟩:za),s1.2)):za×ze->Option (LO (za×ze) (Unit) _)) (x,(⟨0,[],0,[],false⟩:ze)) fun o6=>
 none
def qo(x:za):Option (ze×za):=
 zb (zX x) fun y1=>
 Zf (fun(s2:za×ze×List UInt8)=>
   zb (zg (0,s2.1)) fun y3=>
   zM (X:=Int×za×ze×List UInt8) (
     zb (ZE y3) fun y4=>
     bif y4 then
      zb (zX s2.1) fun y5=>
      zb (zg (0,y5)) fun y6=>
      bif bif y6 != 41 then y6 != (-1)else false then
       zb (ZG y5) fun y7=>
       some (LX.ret (LO.ret (y7.1,y7.2)))
      else
       some (LX.out (y6,y5,s2.2.1,s2.2.2))
     else
      some (LX.out (y3,s2.1,s2.2.1,s2.2.2))) fun j8=>
   bif j8.1==(-1)then
    some (LO.ret ((⟨7,j8.2.2.2,0,[],false⟩:ze),j8.2.1))
   else
    bif j8.1==41 then
     some (LO.ret ((⟨7,j8.2.2.2,0,[],false⟩:ze),(⟨j8.2.1.s,w64 (j8.2.1.at_+1)⟩:za)))
    else
     zb (zo (!(bif bif bif bif j8.1==34 then true else j8.1==39 then true else j8.1==40 then true else decide (j8.1<=8)then true else j8.1==11)) (Z0 (j8.1,14,31)) (default:Bool)) fun y9=>
     bif bif bif bif bif bif bif j8.1==34 then true else j8.1==39 then true else j8.1==40 then true else decide (j8.1<=8)then true else j8.1==11 then true else y9 then true else j8.1==127 then
      zb (ZG j8.2.1) fun y10=>
      some (LO.ret (y10.1,y10.2))
     else
      bif j8.1 != 92 then
       zb (ZF (wu8 j8.1)) fun y11=>
       need (zH j8.2.2.2.length 1 1)<|
       some (LO.again ((⟨j8.2.1.s,w64 (j8.2.1.at_+1)⟩:za),j8.2.2.1,j8.2.2.2++[y11]))
      else
       zb (zu (0,j8.2.1)) fun y12=>
       bif y12 then
        zb (zS (j8.2.1,j8.2.2.2)) fun y13=>
        some (LO.again (y13.1,j8.2.2.1,y13.2))
       else
        zb (ZG j8.2.1) fun y14=>
        some (LO.ret (y14.1,y14.2)):za×ze×List UInt8->Option (LO (za×ze×List UInt8) (Unit) _)) (y1,(⟨0,[],0,[],false⟩:ze),[]) fun o15=>
 none
def Zo(x:za):Option (ze×za):=
 zb (zT x) fun y1=>
 zb (zg (0,y1.2)) fun y2=>
 bif y2 != 40 then
  some ((⟨1,y1.1,0,[],false⟩:ze),y1.2)
 else
  zM (X:=za×ze) (
    zb (qF (y1.1,[117,114,108])) fun y3=>
    bif y3 then
     zb (zX (⟨y1.2.s,w64 (y1.2.at_+1)⟩:za)) fun y4=>
     zb (zg (0,y4)) fun y5=>
     bif bif y5 != 34 then y5 != 39 else false then
      zb (qo (⟨y1.2.s,w64 (y1.2.at_+1)⟩:za)) fun y6=>
      some (LX.ret (y6.1,y6.2))
     else
      some (LX.out ((⟨y1.2.s,w64 (y1.2.at_+1)⟩:za),(⟨0,[],0,[],false⟩:ze)))
    else
     some (LX.out ((⟨y1.2.s,w64 (y1.2.at_+1)⟩:za),(⟨0,[],0,[],false⟩:ze)))) fun j7=>
  some ((⟨2,y1.1,0,[],false⟩:ze),j7.1)
def strings_IndexByte(x:Str×Int):Option Int:=
 zb (wu (x.1,x.2)) fun y1=>
 some y1
def ZP(x:za):Option (ze×za):=
 zb (zg (0,x)) fun y1=>
 need (decide (0<=x.at_)&&decide (x.at_<=(x.s.length:Int)))<|
 zb (ZE y1) fun y2=>
 bif y2 then
  zb (zX x) fun y3=>
  some ((⟨13,[],0,[],false⟩:ze),y3)
 else
  bif bif y1==34 then true else y1==39 then
   zb (ZN x) fun y4=>
   some (y4.1,y4.2)
  else
   zb (zo (y1==35) (zg (1,x)) (default:Int)) fun y5=>
   zb (zo (y1==35) (Q0 y5) (default:Bool)) fun y6=>
   zb (zo (!y6&&y1==35) (zu (1,x)) (default:Bool)) fun y7=>
   bif bif y1==35 then bif y6 then true else y7 else false then
    zb (zB (1,x)) fun y8=>
    zb (zT (⟨x.s,w64 (x.at_+1)⟩:za)) fun y9=>
    some ((⟨4,y9.1,0,[],y8⟩:ze),y9.2)
   else
    zb (Zv x) fun y10=>
    bif y10 then
     zb (Zj x) fun y11=>
     some (y11.1,y11.2)
    else
     zb (strings_HasPrefix (List.drop x.at_.toNat x.s,[45,45,62])) fun y12=>
     bif y12 then
      some ((⟨15,[],0,[],false⟩:ze),(⟨x.s,w64 (x.at_+3)⟩:za))
     else
      zb (strings_HasPrefix (List.drop x.at_.toNat x.s,[60,33,45,45])) fun y13=>
      bif y13 then
       some ((⟨14,[],0,[],false⟩:ze),(⟨x.s,w64 (x.at_+4)⟩:za))
      else
       zb (zo (y1==64) (zB (1,x)) (default:Bool)) fun y14=>
       bif bif y1==64 then y14 else false then
        zb (zT (⟨x.s,w64 (x.at_+1)⟩:za)) fun y15=>
        some ((⟨3,y15.1,0,[],false⟩:ze),y15.2)
       else
        zb (zB (0,x)) fun y16=>
        bif y16 then
         zb (Zo x) fun y17=>
         some (y17.1,y17.2)
        else
         zb (strings_IndexByte ([58,59,44,91,93,40,41,123,125],wu8 y1)) fun y18=>
         bif decide (y18>=0)then
          some ((⟨wu8 (16+wu8 y18),[],0,[],false⟩:ze),(⟨x.s,w64 (x.at_+1)⟩:za))
         else
          need (decide (1<=((List.drop x.at_.toNat x.s).length:Int)))<|
          some ((⟨9,List.take 1 (List.drop x.at_.toNat x.s),0,[],false⟩:ze),(⟨x.s,w64 (x.at_+1)⟩:za))
def Ql(x:(ze×Int×Int)×List ze):Option (List ze):=
 need (zH x.2.length 1 56)<|
 some (x.2++[x.1.1])
def Gp(x:Str):Option (Int×List ze):=
 zb (Kj x) fun y1=>
 bif y1.2 != 0 then
  some (y1.2,[])
 else
  zb (Ze (⟨y1.1,0⟩:za)) fun y2=>
  Zf (fun(s3:Int×List ze×za)=>
    bif decide (s3.2.2.at_<(y1.1.length:Int))then
     bif decide (w64 (s3.1+1)>1500)then
      some (LO.ret (4,s3.2.1))
     else
      zb (ZP s3.2.2) fun y4=>
      zb (Ql ((y4.1,s3.2.2.at_,y4.2.at_),s3.2.1)) fun y5=>
      zb (Ze y4.2) fun y6=>
      some (LO.again (w64 (s3.1+1),y5,y6))
    else
     some (LO.out (s3.2.1,s3.2.2)):Int×List ze×za->Option (LO (Int×List ze×za) (List ze×za) _)) (0,[],y2) fun o7=>
  some (0,o7.1)
def Qz(x:Str):Option (List ze×Int):=
 zb (Gp x) fun y1=>
 bif y1.1 != 0 then
  some ([],y1.1)
 else
  some (y1.2,0)
def qG(x:Int):Option Int:=
 bif x==2 then
  some 22
 else
  zM (X:=Bool) (
    bif x==19 then
     some (LX.out (x==19))
    else
     bif x==21 then
      some (LX.out (x==21))
     else
      some (LX.out (x==23))) fun j1=>
  bif j1 then
   some (wu8 (x+1))
  else
   some 0
def Ps(qJ:List zf×Int->Option zx)(x:List zf×Int):Option zx:=
 Zf (fun(s1:Int×zx)=>
   bif decide (s1.1<(x.1.length:Int))then
    zM (X:=Int×zx) (
      zb (geti x.1 s1.1) fun y2=>
      zb (qG y2.token.kind) fun y3=>
      zM (X:=zx) (
        bif bif bif x.2 != 0 then y2.token.kind==x.2 else false then true else bif y3==0 then decide ((y2.list.length:Int)>0)else false then
         some (LX.out (⟨s1.2.depth,w64 (s1.2.tokens+1),true⟩:zx))
        else
         some (LX.out (⟨s1.2.depth,w64 (s1.2.tokens+1),s1.2.bad⟩:zx))) fun j4=>
      bif y3==0 then
       some (LX.out (s1.1,j4))
      else
       zb (qJ (y2.list,y3)) fun y5=>
       some (LX.out (s1.1,(⟨if w64 (y5.depth+1)>j4.depth then w64 (y5.depth+1)else j4.depth,w64 (w64 (j4.tokens+y5.tokens)+1),bif j4.bad then true else y5.bad⟩:zx)))) fun j6=>
    some (LO.again (w64 (j6.1+1),j6.2))
   else
    some (LO.out s1.2):Int×zx->Option (LO (Int×zx) (zx) _)) (0,(⟨0,0,false⟩:zx)) fun o7=>
 some o7
def qJ:List zf×Int->Option zx:=recE (Ps)
def qU(x:List zf):Option Int:=
 zb (qJ (x,0)) fun y1=>
 bif decide (y1.depth>16)then
  some 20
 else
  bif decide (y1.tokens>1500)then
   some 4
  else
   bif y1.bad then
    some 8
   else
    some 0
def Qx(x:List zf):Option (List zf):=
 bif x.isEmpty then
  both (
    some []) (
    need (zH 0 x.length 80)<|
    some x)
 else
  need (zH 0 x.length 80)<|
  some x
def YB(QP:List zf->Option (List zf))(x:List zf):Option (List zf):=
 zb (Qx x) fun y1=>
 Zf (fun(s2:Int×List zf)=>
   bif decide (s2.1<(y1.length:Int))then
    need (decide (0<=s2.1)&&decide (s2.1<(s2.2.length:Int)))<|
    zb s2.2[s2.1.toNat]? fun y3=>
    zb (QP y3.list) fun y4=>
    need (decide (0<=s2.1)&&decide (s2.1<(s2.2.length:Int)))<|
    zb s2.2[s2.1.toNat]? fun y5=>
    some (LO.again (w64 (s2.1+1),List.set s2.2 s2.1.toNat (⟨y5.token,y4⟩:zf)))
   else
    some (LO.out s2.2):Int×List zf->Option (LO (Int×List zf) (List zf) _)) (0,y1) fun o6=>
 some o6
def QP:List zf->Option (List zf):=recE (YB)
def Yw(x:List zf×Int):Option (List (List zf)×Int):=
 zb (qU x.1) fun y1=>
 bif y1 != 0 then
  some ([],y1)
 else
  bif bif decide (x.2<1)then true else decide (x.2>24)then
   some ([],2)
  else
   Zf (fun(s2:(Int×Int)×List (List zf))=>
     bif decide (s2.1.2<(x.1.length:Int))then
      zM (X:=(Int×Int)×List (List zf)) (
        zb (geti x.1 s2.1.2) fun y3=>
        bif y3.token.kind==x.2 then
         need (decide (0<=s2.1.1)&&(decide (s2.1.1<=s2.1.2)&&(decide (s2.1.2<=s2.1.2)&&decide (s2.1.2<=(x.1.length:Int))))&&decide (s2.1.2=s2.1.2))<|
         zb (QP (List.drop s2.1.1.toNat (List.take s2.1.2.toNat x.1))) fun y4=>
         need (zH s2.2.length 1 24)<|
         some (LX.out ((w64 (s2.1.2+1),s2.1.2),s2.2++[y4]))
        else
         some (LX.out ((s2.1.1,s2.1.2),s2.2))) fun j5=>
      some (LO.again ((j5.1.1,w64 (j5.1.2+1)),j5.2))
     else
      some (LO.out (s2.1.1,s2.2)):(Int×Int)×List (List zf)->Option (LO ((Int×Int)×List (List zf)) (Int×List (List zf)) _)) ((0,0),[]) fun o6=>
   need (decide (0<=o6.1)&&decide (o6.1<=(x.1.length:Int)))<|
   zb (QP (List.drop o6.1.toNat x.1)) fun y7=>
   need (zH o6.2.length 1 24)<|
   some (o6.2++[y7],0)
def Zw(x:zf×Int):Option Bool:=
 some (x.1.token.kind==x.2)
def mo(x:List zf):Option (List zf):=
 Zf (fun(s1:List zf)=>
   zb (zo (decide ((s1.length:Int)>0)) (geti s1 0) (default:zf)) fun y2=>
   zb (zo (decide ((s1.length:Int)>0)) (Zw ((⟨y2.token,y2.list⟩:zf),13)) (default:Bool)) fun y3=>
   bif bif decide ((s1.length:Int)>0)then y3 else false then
    need (decide (1<=(s1.length:Int)))<|
    some (LO.again (List.drop 1 s1))
   else
    some (LO.out s1):List zf->Option (LO (List zf) (List zf) _)) x fun o4=>
 some o4
def Yk(x:List zf):Option (List zf):=
 Zf (fun(s1:List zf)=>
   zb (zo (decide ((s1.length:Int)>0)) (geti s1 (w64 ((s1.length:Int) - 1))) (default:zf)) fun y2=>
   zb (zo (decide ((s1.length:Int)>0)) (Zw ((⟨y2.token,y2.list⟩:zf),13)) (default:Bool)) fun y3=>
   bif bif decide ((s1.length:Int)>0)then y3 else false then
    need (decide (0<=w64 ((s1.length:Int) - 1))&&decide (w64 ((s1.length:Int) - 1)<=(s1.length:Int)))<|
    some (LO.again (List.take (w64 ((s1.length:Int) - 1)).toNat s1))
   else
    some (LO.out s1):List zf->Option (LO (List zf) (List zf) _)) x fun o4=>
 some o4
def Sk(x:zf):Option Bool:=
 zb (Zw ((⟨x.token,x.list⟩:zf),9)) fun y1=>
 some (bif y1 then x.token.text==[33]else false)
def Rs(x:Int×List zf):Option Bool:=
 zb (geti x.2 x.1) fun y1=>
 some (y1.token.kind==13)
def Pw(x:List zf):Option (List zf×Int):=
 zb (qU x) fun y1=>
 bif y1 != 0 then
  some ([],y1)
 else
  Zf (fun(s2:Int)=>
    zb (zo (decide (s2<(x.length:Int))) (Rs (s2,x)) (default:Bool)) fun y3=>
    bif bif decide (s2<(x.length:Int))then y3 else false then
     some (LO.again (w64 (s2+1)))
    else
     some (LO.out s2):Int->Option (LO (Int) (Int) _)) 0 fun o4=>
  Zf (fun(s5:Int)=>
    zb (zo (decide (o4<s5)) (Rs (w64 (s5 - 1),x)) (default:Bool)) fun y6=>
    bif bif decide (o4<s5)then y6 else false then
     some (LO.again (w64 (s5 - 1)))
    else
     some (LO.out s5):Int->Option (LO (Int) (Int) _)) (x.length:Int) fun o7=>
  need (decide (0<=o4)&&(decide (o4<=o7)&&(decide (o7<=o7)&&decide (o7<=(x.length:Int))))&&decide (o7=o7))<|
  zb (QP (List.drop o4.toNat (List.take o7.toNat x))) fun y8=>
  some (y8,0)
def Pt(ZM:List zf×List ze->Option (List ze))(x:List zf×List ze):Option (List ze):=
 Zf (fun(s1:Int×List ze)=>
   bif decide (s1.1<(x.1.length:Int))then
    zM (X:=Int×List ze) (
      zb (geti x.1 s1.1) fun y2=>
      need (zH s1.2.length 1 56)<|
      zb (qG y2.token.kind) fun y3=>
      bif y3 != 0 then
       zb (ZM (y2.list,s1.2++[y2.token])) fun y4=>
       need (zH y4.length 1 56)<|
       some (LX.out (s1.1,y4++[(⟨y3,[],0,[],false⟩:ze)]))
      else
       some (LX.out (s1.1,s1.2++[y2.token]))) fun j5=>
    some (LO.again (w64 (j5.1+1),j5.2))
   else
    some (LO.out s1.2):Int×List ze->Option (LO (Int×List ze) (List ze) _)) (0,x.2) fun o6=>
 some o6
def ZM:List zf×List ze->Option (List ze):=recE (Pt)
def QC(x:List zf):Option (List ze):=
 Zf (fun(s1:Int×List ze)=>
   bif decide (s1.1<(x.length:Int))then
    zM (X:=Int×List ze) (
      zb (geti x s1.1) fun y2=>
      need (zH s1.2.length 1 56)<|
      zb (qG y2.token.kind) fun y3=>
      bif y3 != 0 then
       zb (ZM (y2.list,s1.2++[y2.token])) fun y4=>
       need (zH y4.length 1 56)<|
       some (LX.out (s1.1,y4++[(⟨y3,[],0,[],false⟩:ze)]))
      else
       some (LX.out (s1.1,s1.2++[y2.token]))) fun j5=>
    some (LO.again (w64 (j5.1+1),j5.2))
   else
    some (LO.out s1.2):Int×List ze->Option (LO (Int×List ze) (List ze) _)) (0,[]) fun o6=>
 some o6
def Wo(x:List zf):Option (List ze×Int):=
 zb (qU x) fun y1=>
 bif y1 != 0 then
  some ([],y1)
 else
  zb (QC x) fun y2=>
  some (y2,0)
def wo(x:Str):Option Bool:=
 zb (zo (!(bif x==[]then true else decide ((x.length:Int)>64))) (strings_IndexByte (x,0)) (default:Int)) fun y1=>
 bif bif bif x==[]then true else decide ((x.length:Int)>64)then true else decide (y1>=0)then
  some false
 else
  zb (strings_HasPrefix (x,[45,45])) fun y2=>
  bif y2 then
   some (!(x==[45,45]))
  else
   zb (qj x) fun y3=>
   some (x==y3)
def stringslite_TrimPrefix(x:Str×Str):Option Str:=
 zb (stringslite_HasPrefix (x.1,x.2)) fun y1=>
 bif y1 then
  need (decide (0<=(x.2.length:Int))&&decide ((x.2.length:Int)<=(x.1.length:Int)))<|
  some (List.drop x.2.length x.1)
 else
  some x.1
def strings_TrimPrefix(x:Str×Str):Option Str:=
 zb (stringslite_TrimPrefix (x.1,x.2)) fun y1=>
 some y1
def ZX(x:Int):Option Bool:=
 some (bif decide (48<=x)then decide (x<=57)else false)
def QY(x:Str):Option Bool:=
 zb (strings_TrimPrefix (x,[45])) fun y1=>
 zb (zo (!(y1==[])) (geti y1 0) 0) fun y2=>
 zb (zo (!(y1==[])) (ZX (y2.toNat:Int)) (default:Bool)) fun y3=>
 some (bif !(y1==[])then y3 else false)
def Us(x:Int):Option Bool:=
 some (bif bif decide (97<=ibOr IntKind.u8 x 32)then decide (ibOr IntKind.u8 x 32<=122)else false then decide (x<128)else false)
def Qi(x:Int):Option Bool:=
 zb (Us x) fun y1=>
 zb (zo (!y1) (ZX x) (default:Bool)) fun y2=>
 some (bif bif bif bif y1 then true else y2 then true else x==95 then true else x==45 then true else decide (x>=128))
def strings_Contains(x:Str×Str):Option Bool:=
 zb (Jj (x.1,x.2)) fun y1=>
 some (decide (y1>=0))
def Vr(x:ze):Option Bool:=
 need (QU x.text.length x.unit.length)<|
 zb (strings_IndexByte (x.text++x.unit,0)) fun y1=>
 zM (X:=Bool×Bool×Bool×Bool×Bool) (
   zM (X:=Bool×Bool×Bool×Bool×Bool×Bool) (
     bif x.kind==1 then
      some (LX.out (false,false,false,false,decide (y1<0),x.kind==1))
     else
      bif x.kind==2 then
       some (LX.out (false,false,false,false,decide (y1<0),x.kind==2))
      else
       some (LX.out (false,false,false,false,decide (y1<0),x.kind==3))) fun j2=>
   bif j2.2.2.2.2.2 then
    some (LX.out (true,j2.2.1,j2.2.2.1,j2.2.2.2.1,bif j2.2.2.2.2.1 then !(x.text==[])else false))
   else
    bif x.kind==4 then
     zb (zo (!x.flag&&(bif j2.2.2.2.2.1 then !(x.text==[])else false)) (QY x.text) (default:Bool)) fun y3=>
     zb (zo (y3&&(!x.flag&&(bif j2.2.2.2.2.1 then !(x.text==[])else false))) (strings_HasPrefix (x.text,[45,45])) (default:Bool)) fun y4=>
     some (LX.out (true,j2.2.1,j2.2.2.1,true,bif bif j2.2.2.2.2.1 then !(x.text==[])else false then bif bif x.flag then true else bif y3 then !y4 else false then true else x.text==[45]else false))
    else
     zM (X:=Bool×Bool×Bool×Bool×Bool×Bool) (
       bif x.kind==5 then
        some (LX.out (j2.1,j2.2.1,j2.2.2.1,j2.2.2.2.1,j2.2.2.2.2.1,x.kind==5))
       else
        some (LX.out (j2.1,j2.2.1,j2.2.2.1,j2.2.2.2.1,j2.2.2.2.2.1,x.kind==7))) fun j5=>
     bif j5.2.2.2.2.2 then
      some (LX.out (true,j5.2.1,j5.2.2.1,j5.2.2.2.1,j5.2.2.2.2.1))
     else
      bif x.kind==9 then
       zb (zo (bif j5.2.2.2.2.1 then(x.text.length:Int)==1 else false) (geti x.text 0) 0) fun y6=>
       zb (zo (bif j5.2.2.2.2.1 then(x.text.length:Int)==1 else false) (Qi (y6.toNat:Int)) (default:Bool)) fun y7=>
       zb (zo (bif bif bif j5.2.2.2.2.1 then(x.text.length:Int)==1 else false then !y7 else false then true else x.text==[45]) (strings_Contains ([32,9,10,12,13,34,39,58,59,44,91,93,40,41,123,125],x.text)) (default:Bool)) fun y8=>
       some (LX.out (true,j5.2.1,j5.2.2.1,j5.2.2.2.1,bif bif bif bif j5.2.2.2.2.1 then(x.text.length:Int)==1 else false then !y7 else false then true else x.text==[45]then !y8 else false))
      else
       zM (X:=Bool×Bool×Bool×Bool×Bool) (
         bif x.kind==10 then
          some (LX.out (j5.2.1,j5.2.2.1,j5.2.2.2.1,j5.2.2.2.2.1,x.kind==10))
         else
          bif x.kind==11 then
           some (LX.out (j5.2.1,j5.2.2.1,j5.2.2.2.1,j5.2.2.2.2.1,x.kind==11))
          else
           some (LX.out (j5.2.1,j5.2.2.1,j5.2.2.2.1,j5.2.2.2.2.1,x.kind==12))) fun j9=>
       bif j9.2.2.2.2 then
        some (LX.out (j5.1,x.kind==12,true,x.kind != 11,bif bif bif bif j9.2.2.2.1 then decide (x.num>=(-1000000000000))else false then decide (x.num<=1000000000000)else false then bif !x.flag then true else Int.tmod x.num 1000==0 else false then bif !(x.kind==12)then true else !(x.unit==[])else false))
       else
        some (LX.out (j5.1,j9.1,j9.2.1,j9.2.2.1,bif decide (x.kind>=13)then decide (x.kind<=24)else false))) fun j10=>
 some (bif bif bif bif j10.2.2.2.2 then bif j10.1 then true else x.text==[]else false then bif j10.2.1 then true else x.unit==[]else false then bif j10.2.2.1 then true else x.num==0 else false then bif j10.2.2.2.1 then true else !x.flag else false)
def ZB(x:(Int×Int)×List ze):Option Bool:=
 zb (zo (decide (x.1.1<(x.2.length:Int))) (geti x.2 x.1.1) (default:ze)) fun y1=>
 some (bif decide (x.1.1<(x.2.length:Int))then y1.kind==x.1.2 else false)
def Qj(x:List ze):Option Int:=
 zb (geti x 0) fun y1=>
 bif bif y1.kind==9 then y1.text==[92]else false then
  zb (ZB ((1,13),x)) fun y2=>
  bif !y2 then
   some 0
  else
   some 2
 else
  zb (zo (y1.kind==2) (qF (y1.text,[117,114,108])) (default:Bool)) fun y3=>
  bif bif y1.kind==2 then y3 else false then
   zM (X:=Int) (
     zb (ZB ((1,13),x)) fun y4=>
     bif y4 then
      some (LX.out 2)
     else
      some (LX.out 1)) fun j5=>
   zb (ZB ((j5,5),x)) fun y6=>
   bif !y6 then
    some 0
   else
    some (w64 (j5+1))
  else
   some 1
def Uj(x:List ze):Option Int:=
 bif decide ((x.length:Int)>1500)then
  some 4
 else
  Zf (fun(s1:Int)=>
    bif decide (s1<(x.length:Int))then
     zb (geti x s1) fun y2=>
     zb (Vr y2) fun y3=>
     need (decide (0<=s1)&&decide (s1<=(x.length:Int))|| !(!(!y3)))<|
     zb (zo (!(!y3)) (Qj (List.drop s1.toNat x)) (default:Int)) fun y4=>
     bif bif !y3 then true else y4==0 then
      some (LO.ret 8)
     else
      some (LO.again (w64 (s1+1)))
    else
     some (LO.out ()):Int->Option (LO (Int) (Unit) _)) 0 fun o5=>
  some 0
def qN(zm:List zf->Option Bool)(x:zf):Option Bool:=
 zb (Zw ((⟨x.token,x.list⟩:zf),20)) fun y1=>
 zb (zo (!y1) (Zw ((⟨x.token,x.list⟩:zf),22)) (default:Bool)) fun y2=>
 zb (zo (!(bif y1 then true else y2)) (Zw ((⟨x.token,x.list⟩:zf),24)) (default:Bool)) fun y3=>
 zb (zo (!(bif bif y1 then true else y2 then true else y3)) (zm x.list) (default:Bool)) fun y4=>
 some (bif bif bif y1 then true else y2 then true else y3 then true else y4)
def ZR(zm:List zf->Option Bool)(x:List zf):Option Int:=
 Zf (fun(s1:Int)=>
   bif decide (s1<(x.length:Int))then
    zb (geti x s1) fun y2=>
    zb (qN zm (⟨y2.token,y2.list⟩:zf)) fun y3=>
    bif y3 then
     some (LO.ret s1)
    else
     some (LO.again (w64 (s1+1)))
   else
    some (LO.out ()):Int->Option (LO (Int) (Unit) _)) 0 fun o4=>
 some (-1)
def Zr(zm:List zf->Option Bool)(x:List zf):Option Bool:=
 zb (ZR zm x) fun y1=>
 some (decide (y1>=0))
def Mt(zm:List zf->Option Bool)(x:List zf):Option Bool:=
 zb (Zr zm x) fun y1=>
 some y1
def zm:List zf->Option Bool:=recE (Mt)
def Ht(x:zf):Option Bool:=
 zb (Zw ((⟨x.token,x.list⟩:zf),17)) fun y1=>
 zb (zo (!y1) (Sk (⟨x.token,x.list⟩:zf)) (default:Bool)) fun y2=>
 some (bif y1 then true else y2)
def Zz(x:List zf):Option Int:=
 Zf (fun(s1:Int)=>
   bif decide (s1<(x.length:Int))then
    zb (geti x s1) fun y2=>
    zb (Ht (⟨y2.token,y2.list⟩:zf)) fun y3=>
    bif y3 then
     some (LO.ret s1)
    else
     some (LO.again (w64 (s1+1)))
   else
    some (LO.out ()):Int->Option (LO (Int) (Unit) _)) 0 fun o4=>
 some (-1)
def Zd(x:List zf):Option Bool:=
 zb (Zz x) fun y1=>
 some (decide (y1>=0))
def ak(x:zJ):Option Int:=
 zb (Wo x.value) fun y1=>
 zb (wo x.name) fun y2=>
 zb (zo (!(bif !y2 then true else y1.2 != 0)) (Uj y1.1) (default:Int)) fun y3=>
 zb (zo (!(bif bif !y2 then true else y1.2 != 0 then true else y3 != 0)) (zm x.value) (default:Bool)) fun y4=>
 bif bif bif bif !y2 then true else y1.2 != 0 then true else y3 != 0 then true else y4 then
  some 8
 else
  zb (Zd x.value) fun y5=>
  bif y5 then
   some 8
  else
   zb (zo ((x.value.length:Int)==0) (strings_HasPrefix (x.name,[45,45])) (default:Bool)) fun y6=>
   zb (zo (decide ((x.value.length:Int)>0)&& !(bif (x.value.length:Int)==0 then !y6 else false)) (geti x.value 0) (default:zf)) fun y7=>
   zb (zo (decide ((x.value.length:Int)>0)&& !(bif (x.value.length:Int)==0 then !y6 else false)) (Zw ((⟨y7.token,y7.list⟩:zf),13)) (default:Bool)) fun y8=>
   zb (zo (!y8&&(decide ((x.value.length:Int)>0)&& !(bif (x.value.length:Int)==0 then !y6 else false))) (geti x.value (w64 ((x.value.length:Int) - 1))) (default:zf)) fun y9=>
   zb (zo (!y8&&(decide ((x.value.length:Int)>0)&& !(bif (x.value.length:Int)==0 then !y6 else false))) (Zw ((⟨y9.token,y9.list⟩:zf),13)) (default:Bool)) fun y10=>
   bif bif bif (x.value.length:Int)==0 then !y6 else false then true else bif decide ((x.value.length:Int)>0)then bif y8 then true else y10 else false then
    some 8
   else
    some 0
def av(x:List zf):Option (zJ×Bool):=
 zb (mo x) fun y1=>
 zb (Yk y1) fun y2=>
 zb (zo (!((y2.length:Int)==0)) (geti y2 0) (default:zf)) fun y3=>
 zb (zo (!((y2.length:Int)==0)) (Zw ((⟨y3.token,y3.list⟩:zf),1)) (default:Bool)) fun y4=>
 bif bif (y2.length:Int)==0 then true else !y4 then
  some ((⟨[],[],false⟩:zJ),false)
 else
  zb (geti y2 0) fun y5=>
  zM (X:=List zf×(Str×Bool)×(Str×Bool)) (
    zb (strings_HasPrefix (y5.token.text,[45,45])) fun y6=>
    bif !y6 then
     zb (qj y5.token.text) fun y7=>
     some (LX.out (y2,([],false),(y7,false)))
    else
     some (LX.out (y2,([],false),(y5.token.text,false)))) fun j8=>
  need (decide (1<=(j8.1.length:Int)))<|
  zb (mo (List.drop 1 j8.1)) fun y9=>
  zb (zo (!((y9.length:Int)==0)) (geti y9 0) (default:zf)) fun y10=>
  zb (zo (!((y9.length:Int)==0)) (Zw ((⟨y10.token,y10.list⟩:zf),16)) (default:Bool)) fun y11=>
  bif bif (y9.length:Int)==0 then true else !y11 then
   some ((⟨[],[],false⟩:zJ),false)
  else
   need (decide (1<=(y9.length:Int)))<|
   zb (mo (List.drop 1 y9)) fun y12=>
   zM (X:=List zf×(Str×Bool)×(Str×Bool)) (
     zb (zo (decide (w64 ((y12.length:Int) - 1)>0)) (geti y12 (w64 ((y12.length:Int) - 1))) (default:zf)) fun y13=>
     zb (zo (decide (w64 ((y12.length:Int) - 1)>0)) (Zw ((⟨y13.token,y13.list⟩:zf),1)) (default:Bool)) fun y14=>
     zb (zo (bif decide (w64 ((y12.length:Int) - 1)>0)then y14 else false) (geti y12 (w64 ((y12.length:Int) - 1))) (default:zf)) fun y15=>
     zb (zo (bif decide (w64 ((y12.length:Int) - 1)>0)then y14 else false) (qF (y15.token.text,[105,109,112,111,114,116,97,110,116])) (default:Bool)) fun y16=>
     bif bif bif decide (w64 ((y12.length:Int) - 1)>0)then y14 else false then y16 else false then
      need (decide (0<=w64 ((y12.length:Int) - 1))&&decide (w64 ((y12.length:Int) - 1)<=(y12.length:Int)))<|
      zb (Yk (List.take (w64 ((y12.length:Int) - 1)).toNat y12)) fun y17=>
      zb (zo (decide ((y17.length:Int)>0)) (geti y17 (w64 ((y17.length:Int) - 1))) (default:zf)) fun y18=>
      zb (zo (decide ((y17.length:Int)>0)) (Sk (⟨y18.token,y18.list⟩:zf)) (default:Bool)) fun y19=>
      bif bif decide ((y17.length:Int)>0)then y19 else false then
       need (decide (0<=w64 ((y17.length:Int) - 1))&&decide (w64 ((y17.length:Int) - 1)<=(y17.length:Int)))<|
       zb (Yk (List.take (w64 ((y17.length:Int) - 1)).toNat y17)) fun y20=>
       some (LX.out (y20,(j8.2.1.1,j8.2.1.2),(j8.2.2.1,true)))
      else
       some (LX.out (y12,(j8.2.1.1,j8.2.1.2),(j8.2.2.1,j8.2.2.2)))
     else
      some (LX.out (y12,(j8.2.1.1,j8.2.1.2),(j8.2.2.1,j8.2.2.2)))) fun j21=>
   zb (Pw j21.1) fun y22=>
   zb (zo (!(y22.2 != 0)) (ak (⟨j21.2.2.1,y22.1,j21.2.2.2⟩:zJ)) (default:Int)) fun y23=>
   bif bif y22.2 != 0 then true else y23 != 0 then
    some ((⟨[],[],false⟩:zJ),false)
   else
    some ((⟨j21.2.2.1,y22.1,j21.2.2.2⟩:zJ),true)
def Bv(x:List zf):Option (Int×List zJ):=
 zb (Yw (x,17)) fun y1=>
 bif y1.2 != 0 then
  some (y1.2,[])
 else
  Zf (fun(s2:Int×List zJ)=>
    bif decide (s2.1<(y1.1.length:Int))then
     zM (X:=Int×List zJ) (
       zb (geti y1.1 s2.1) fun y3=>
       zb (av y3) fun y4=>
       bif bif y4.2 then decide ((s2.2.length:Int)<32)else false then
        need (zH s2.2.length 1 48)<|
        some (LX.out (s2.1,s2.2++[y4.1]))
       else
        some (LX.out (s2.1,s2.2))) fun j5=>
     some (LO.again (w64 (j5.1+1),j5.2))
    else
     some (LO.out s2.2):Int×List zJ->Option (LO (Int×List zJ) (List zJ) _)) (0,[]) fun o6=>
  some (0,o6)
def ui(x:Str):Option (Int×List zJ):=
 zb (Qz x) fun y1=>
 bif y1.2 != 0 then
  some (y1.2,[])
 else
  zb (parseF y1.1) fun y2=>
  bif y2.2 != 0 then
   some (y2.2,[])
  else
   zb (Bv y2.1) fun y3=>
   some (y3.1,y3.2)
def ZY(x:Str):Option Int:=
 zb (strings_HasPrefix (x,[45])) fun y1=>
 bif y1 then
  some 2
 else
  some 1
def Zg(x:Int×List UInt8):Option (List UInt8):=
 zb (zo (bif decide (x.1>32)then decide (x.1<127)else false) (ZX x.1) (default:Bool)) fun y1=>
 zb (zo (bif bif decide (x.1>32)then decide (x.1<127)else false then !y1 else false) (Us x.1) (default:Bool)) fun y2=>
 bif bif bif bif decide (x.1>32)then decide (x.1<127)else false then !y1 else false then !y2 else false then
  zb (ZF x.1) fun y3=>
  need (zH x.2.length 2 1)<|
  some (x.2++[(92:UInt8),y3])
 else
  need (zH x.2.length 1 1)<|
  zb (Io ((wu64 x.1,16),x.2++[(92:UInt8)])) fun y4=>
  need (zH y4.length 1 1)<|
  some (y4++[(32:UInt8)])
def Ep(x:Str×Int):Option (List UInt8):=
 Zf (fun(s1:Int×List UInt8)=>
   bif decide (s1.1<(x.1.length:Int))then
    zM (X:=Int×List UInt8) (
      zb (geti x.1 s1.1) fun y2=>
      zb (Qi (y2.toNat:Int)) fun y3=>
      zb (zo (!(decide (s1.1>=x.2))&&y3) (ZX (y2.toNat:Int)) (default:Bool)) fun y4=>
      bif bif bif y3 then bif decide (s1.1>=x.2)then true else !y4 else false then bif x.2==0 then true else !(x.1==[45])else false then
       zb (ZF (y2.toNat:Int)) fun y5=>
       need (zH s1.2.length 1 1)<|
       some (LX.out (s1.1,s1.2++[y5]))
      else
       zb (Zg ((y2.toNat:Int),s1.2)) fun y6=>
       some (LX.out (s1.1,y6))) fun j7=>
    some (LO.again (w64 (j7.1+1),j7.2))
   else
    some (LO.out s1.2):Int×List UInt8->Option (LO (Int×List UInt8) (List UInt8) _)) (0,[]) fun o8=>
 some o8
def jo(x:Str):Option (Str×Int):=
 zb (zo (!(x==[])) (strings_IndexByte (x,0)) (default:Int)) fun y1=>
 bif bif x==[]then true else decide (y1>=0)then
  some ([],8)
 else
  zb (ZY x) fun y2=>
  zb (Ep (x,y2)) fun y3=>
  bif bif decide ((x.length:Int)>4000)then true else decide ((y3.length:Int)>4000)then
   some ([],28)
  else
   some (y3,0)
def qi(x:(Str×Int)×List UInt8):Option (List UInt8):=
 Zf (fun(s1:Int×List UInt8)=>
   bif decide (s1.1<(x.1.1.length:Int))then
    zM (X:=Int×List UInt8) (
      zb (geti x.1.1 s1.1) fun y2=>
      zb (Qi (y2.toNat:Int)) fun y3=>
      zb (zo (!(decide (s1.1>=x.1.2))&&y3) (ZX (y2.toNat:Int)) (default:Bool)) fun y4=>
      bif bif bif y3 then bif decide (s1.1>=x.1.2)then true else !y4 else false then bif x.1.2==0 then true else !(x.1.1==[45])else false then
       zb (ZF (y2.toNat:Int)) fun y5=>
       need (zH s1.2.length 1 1)<|
       some (LX.out (s1.1,s1.2++[y5]))
      else
       zb (Zg ((y2.toNat:Int),s1.2)) fun y6=>
       some (LX.out (s1.1,y6))) fun j7=>
    some (LO.again (w64 (j7.1+1),j7.2))
   else
    some (LO.out s1.2):Int×List UInt8->Option (LO (Int×List UInt8) (List UInt8) _)) (0,x.2) fun o8=>
 some o8
def Ms(x:Unit):Option zai:=
 some (⟨[32],[60,33,45,45],[45,45,62],[58],[59],[44],[91],[93],[40],[41],[123],[125]⟩:zai)
def qx(x:(Int×Bool)×List UInt8):Option (List UInt8):=
 zM (X:=Int×List UInt8) (
   bif decide (x.1.1<0)then
    need (zH x.2.length 1 1)<|
    some (LX.out (w64 (0 - x.1.1),x.2++[(45:UInt8)]))
   else
    some (LX.out (x.1.1,x.2))) fun j1=>
 zb (Jo ((w64 (Int.tdiv j1.1 1000),10),j1.2)) fun y2=>
 zb (Ao (w64 (1000+Int.tmod j1.1 1000),10)) fun y3=>
 need (decide (1<=(y3.length:Int)))<|
 zb (Kl (List.drop 1 y3,[48])) fun y4=>
 zM (X:=List UInt8) (
   bif !(y4==[])then
    need (zH y2.length 1 1)<|
    need (zH (y2++[(46:UInt8)]).length y4.length 1)<|
    some (LX.out (y2++[(46:UInt8)]++y4))
   else
    bif x.1.2 then
     need (zH y2.length ([46,48]:Str).length 1)<|
     some (LX.out (y2++([46,48]:Str)))
    else
     some (LX.out y2)) fun j5=>
 some j5
def Rm(x:ze×List UInt8):Option (List UInt8):=
 bif x.1.kind==1 then
  zb (ZY x.1.text) fun y1=>
  zb (qi ((x.1.text,y1),x.2)) fun y2=>
  some y2
 else
  bif x.1.kind==2 then
   zb (ZY x.1.text) fun y3=>
   zb (qi ((x.1.text,y3),x.2)) fun y4=>
   need (zH y4.length 1 1)<|
   some (y4++[(40:UInt8)])
  else
   bif x.1.kind==3 then
    need (zH x.2.length 1 1)<|
    zb (ZY x.1.text) fun y5=>
    zb (qi ((x.1.text,y5),x.2++[(64:UInt8)])) fun y6=>
    some y6
   else
    bif x.1.kind==4 then
     zM (X:=Int×List UInt8) (
       bif x.1.flag then
        zb (ZY x.1.text) fun y7=>
        some (LX.out (y7,x.2))
       else
        some (LX.out (0,x.2))) fun j8=>
     need (zH j8.2.length 1 1)<|
     zb (qi ((x.1.text,j8.1),j8.2++[(35:UInt8)])) fun y9=>
     some y9
    else
     bif x.1.kind==5 then
      need (zH x.2.length 1 1)<|
      need (decide (x.1.text.length<=maxLen))<|
      Zf (fun(s10:Int×List UInt8)=>
        bif decide (s10.1<(x.1.text.length:Int))then
         zM (X:=Int×List UInt8) (
           need (decide (0<=s10.1)&&decide (s10.1<(x.1.text.length:Int)))<|
           zb x.1.text[s10.1.toNat]? fun y11=>
           zb (strings_IndexByte ([10,12,13,34,92],(y11.toNat:Int))) fun y12=>
           bif decide (y12>=0)then
            zb (Zg ((y11.toNat:Int),s10.2)) fun y13=>
            some (LX.out (s10.1,y13))
           else
            zb (ZF (y11.toNat:Int)) fun y14=>
            need (zH s10.2.length 1 1)<|
            some (LX.out (s10.1,s10.2++[y14]))) fun j15=>
         some (LO.again (w64 (j15.1+1),j15.2))
        else
         some (LO.out s10.2):Int×List UInt8->Option (LO (Int×List UInt8) (List UInt8) _)) (0,x.2++[(34:UInt8)]) fun o16=>
      need (zH o16.length 1 1)<|
      some (o16++[(34:UInt8)])
     else
      bif x.1.kind==7 then
       need (zH x.2.length ([117,114,108,40]:Str).length 1)<|
       need (decide (x.1.text.length<=maxLen))<|
       Zf (fun(s17:Int×List UInt8)=>
         bif decide (s17.1<(x.1.text.length:Int))then
          zM (X:=Int×List UInt8) (
            need (decide (0<=s17.1)&&decide (s17.1<(x.1.text.length:Int)))<|
            zb x.1.text[s17.1.toNat]? fun y18=>
            zb (zo (!(decide ((y18.toNat:Int)<=32))) (strings_IndexByte ([34,39,40,41,92,127],(y18.toNat:Int))) (default:Int)) fun y19=>
            bif bif decide ((y18.toNat:Int)<=32)then true else decide (y19>=0)then
             zb (Zg ((y18.toNat:Int),s17.2)) fun y20=>
             some (LX.out (s17.1,y20))
            else
             zb (ZF (y18.toNat:Int)) fun y21=>
             need (zH s17.2.length 1 1)<|
             some (LX.out (s17.1,s17.2++[y21]))) fun j22=>
          some (LO.again (w64 (j22.1+1),j22.2))
         else
          some (LO.out s17.2):Int×List UInt8->Option (LO (Int×List UInt8) (List UInt8) _)) (0,x.2++([117,114,108,40]:Str)) fun o23=>
       need (zH o23.length 1 1)<|
       some (o23++[(41:UInt8)])
      else
       bif x.1.kind==9 then
        need (zH x.2.length x.1.text.length 1)<|
        some (x.2++x.1.text)
       else
        bif x.1.kind==10 then
         zb (qx ((x.1.num, !x.1.flag),x.2)) fun y24=>
         some y24
        else
         bif x.1.kind==11 then
          zb (qx ((x.1.num,false),x.2)) fun y25=>
          need (zH y25.length 1 1)<|
          some (y25++[(37:UInt8)])
         else
          bif x.1.kind==12 then
           zb (qx ((x.1.num, !x.1.flag),x.2)) fun y26=>
           zb (geti x.1.unit 0) fun y27=>
           need (decide (1<=(x.1.unit.length:Int))|| !(ibOr IntKind.u8 (y27.toNat:Int) 32==101))<|
           zb (zo (ibOr IntKind.u8 (y27.toNat:Int) 32==101) (QY (List.drop 1 x.1.unit)) (default:Bool)) fun y28=>
           need (decide (1<=(x.1.unit.length:Int))|| !(bif ibOr IntKind.u8 (y27.toNat:Int) 32==101 then y28 else false))<|
           zb (zo (bif ibOr IntKind.u8 (y27.toNat:Int) 32==101 then y28 else false) (strings_HasPrefix (List.drop 1 x.1.unit,[45,45])) (default:Bool)) fun y29=>
           bif bif bif ibOr IntKind.u8 (y27.toNat:Int) 32==101 then y28 else false then !y29 else false then
            zb (geti x.1.unit 0) fun y30=>
            zb (Zg ((y30.toNat:Int),y26)) fun y31=>
            need (decide (1<=(x.1.unit.length:Int)))<|
            zb (qi ((List.drop 1 x.1.unit,0),y31)) fun y32=>
            some y32
           else
            zb (ZY x.1.unit) fun y33=>
            zb (qi ((x.1.unit,y33),y26)) fun y34=>
            some y34
          else
           zb (Ms ()) fun y35=>
           zb (geti [y35.e0,y35.e1,y35.e2,y35.e3,y35.e4,y35.e5,y35.e6,y35.e7,y35.e8,y35.e9,y35.e10,y35.e11] (wu8 (x.1.kind - 13))) fun y36=>
           need (zH x.2.length y36.length 1)<|
           some (x.2++y36)
def ZO(x:List ze×List ze):Option Bool:=
 bif (x.1.length:Int) != (x.2.length:Int)then
  some false
 else
  Zf (fun(s1:Int)=>
    bif decide (s1<(x.1.length:Int))then
     zb (geti x.1 s1) fun y2=>
     zb (geti x.2 s1) fun y3=>
     bif !(y2.kind==y3.kind&&(y2.text==y3.text&&(y2.num==y3.num&&(y2.unit==y3.unit&&(y2.flag==y3.flag&&true)))))then
      some (LO.ret false)
     else
      some (LO.again (w64 (s1+1)))
    else
     some (LO.out ()):Int->Option (LO (Int) (Unit) _)) 0 fun o4=>
  some true
def vo(x:List ze):Option (Str×Int):=
 zb (Uj x) fun y1=>
 bif y1 != 0 then
  some ([],y1)
 else
  Zf (fun(s2:Int×List UInt8×List zw)=>
    bif decide (s2.1<(x.length:Int))then
     need (decide (0<=s2.1)&&decide (s2.1<=(x.length:Int)))<|
     zb (Qj (List.drop s2.1.toNat x)) fun y3=>
     need (decide (0<=s2.1)&&(decide (s2.1<=w64 (s2.1+y3))&&decide (w64 (s2.1+y3)<=(x.length:Int))))<|
     Zf (fun(s4:Int×List UInt8)=>
       bif decide (s4.1<((List.drop s2.1.toNat (List.take (w64 (s2.1+y3)).toNat x)).length:Int))then
        zb (geti (List.drop s2.1.toNat (List.take (w64 (s2.1+y3)).toNat x)) s4.1) fun y5=>
        zb (Rm (y5,s4.2)) fun y6=>
        some (LO.again (w64 (s4.1+1),y6))
       else
        some (LO.out s4.2):Int×List UInt8->Option (LO (Int×List UInt8) (List UInt8) _)) (0,[]) fun o7=>
     zM (X:=Int×List UInt8×List zw×List UInt8) (
       zb (geti x s2.1) fun y8=>
       bif bif y8.kind==9 then y3==2 else false then
        some (LX.out (s2.1,s2.2.1,s2.2.2,[(92:UInt8),(10:UInt8)]))
       else
        some (LX.out (s2.1,s2.2.1,s2.2.2,o7))) fun j9=>
     zM (X:=Int×List UInt8×List zw×zw) (
       bif decide (w64 ((j9.2.2.1.length:Int) - 4)>=0)then
        need (decide (0<=w64 ((j9.2.2.1.length:Int) - 4))&&decide (w64 ((j9.2.2.1.length:Int) - 4)<(j9.2.2.1.length:Int)))<|
        zb (j9.2.2.1[(w64 ((j9.2.2.1.length:Int) - 4)).toNat]?) fun y10=>
        some (LX.out (j9.1,j9.2.1,j9.2.2.1,y10))
       else
        some (LX.out (j9.1,j9.2.1,j9.2.2.1,(⟨0,0⟩:zw)))) fun j11=>
     need (decide (0<=j11.2.2.2.at_)&&decide (j11.2.2.2.at_<=(j11.2.1.length:Int)))<|
     need (decide (j11.2.2.2.at_.toNat+(j11.2.1.length - j11.2.2.2.at_.toNat)<=j11.2.1.length))<|
     need (QU (List.take (j11.2.1.length - j11.2.2.2.at_.toNat) (List.drop j11.2.2.2.at_.toNat j11.2.1)).length j9.2.2.2.length)<|
     zb (Qz (List.take (j11.2.1.length - j11.2.2.2.at_.toNat) (List.drop j11.2.2.2.at_.toNat j11.2.1)++j9.2.2.2)) fun y12=>
     zM (X:=Int×List zw×List UInt8) (
       need (decide (0<=j11.2.2.2.token)&&(decide (j11.2.2.2.token<=w64 (j11.1+y3))&&decide (w64 (j11.1+y3)<=(x.length:Int)))|| !(!(y12.2 != 0)))<|
       zb (zo (!(y12.2 != 0)) (ZO (y12.1,List.drop j11.2.2.2.token.toNat (List.take (w64 (j11.1+y3)).toNat x))) (default:Bool)) fun y13=>
       bif bif y12.2 != 0 then true else !y13 then
        need (zH j11.2.1.length ([47,42,42,47]:Str).length 1)<|
        some (LX.out (j11.1,j11.2.2.1,j11.2.1++([47,42,42,47]:Str)))
       else
        some (LX.out (j11.1,j11.2.2.1,j11.2.1))) fun j14=>
     need (zH j14.2.1.length 1 16)<|
     need (zH j14.2.2.length j9.2.2.2.length 1)<|
     bif decide (((j14.2.2++j9.2.2.2).length:Int)>4000)then
      some (LO.ret ([],28))
     else
      some (LO.again (w64 (j14.1+y3),j14.2.2++j9.2.2.2,j14.2.1++[(⟨j14.1,(j14.2.2.length:Int)⟩:zw)]))
    else
     some (LO.out s2.2.1):Int×List UInt8×List zw->Option (LO (Int×List UInt8×List zw) (List UInt8) _)) (0,[],[]) fun o15=>
  some (o15,0)
def Vo(x:List zf):Option (Str×Int):=
 zb (qU x) fun y1=>
 bif y1 != 0 then
  some ([],y1)
 else
  zb (QC x) fun y2=>
  zb (vo y2) fun y3=>
  some (y3.1,y3.2)
def Tk(x:zJ):Option (Str×Int):=
 zb (ak x) fun y1=>
 bif y1 != 0 then
  some ([],y1)
 else
  zb (jo x.name) fun y2=>
  bif y2.2 != 0 then
   some ([],y2.2)
  else
   zb (Vo x.value) fun y3=>
   bif y3.2 != 0 then
    some ([],y3.2)
   else
    need (QU y2.1.length ([58,32]:Str).length)<|
    need (QU (y2.1++([58,32]:Str)).length y3.1.length)<|
    zM (X:=Str) (
      bif x.important then
       need (QU (y2.1++([58,32]:Str)++y3.1).length ([32,33,105,109,112,111,114,116,97,110,116]:Str).length)<|
       some (LX.out (y2.1++([58,32]:Str)++y3.1++([32,33,105,109,112,111,114,116,97,110,116]:Str)))
      else
       some (LX.out (y2.1++([58,32]:Str)++y3.1))) fun j4=>
    bif decide ((j4.length:Int)>4000)then
     some ([],28)
    else
     some (j4,0)
def Jw(x:List zJ):Option (Str×Int):=
 bif decide ((x.length:Int)>32)then
  some ([],4)
 else
  Zf (fun(s1:(Bool×Int)×List Str)=>
    bif decide (s1.1.2<(x.length:Int))then
     zb (geti x s1.1.2) fun y2=>
     zb (Tk y2) fun y3=>
     bif y3.2==8 then
      some (LO.ret ([],y3.2))
     else
      need (zH s1.2.length 1 16)<|
      some (LO.again ((bif s1.1.1 then true else y3.2 != 0,w64 (s1.1.2+1)),s1.2++[y3.1]))
    else
     some (LO.out (s1.1.1,s1.2)):(Bool×Int)×List Str->Option (LO ((Bool×Int)×List Str) (Bool×List Str) _)) ((false,0),[]) fun o4=>
  zb (Wm (o4.2,[59,32])) fun y5=>
  bif bif o4.1 then true else decide ((y5.length:Int)>4000)then
   some ([],28)
  else
   some (y5,0)
def VB(x:Str×Str×Int):Option Bool:=
 zb (ui x.1) fun y1=>
 zb (Jw y1.2) fun y2=>
 some (bif bif bif y1.1==0 then y2.2==0 else false then y2.1==x.2.1 else false then(y1.2.length:Int)==x.2.2 else false)
def Pm(x:Unit):Option Bool:=
 zb (VB ([67,79,76,79,82,32,58,32,114,101,100,32,33,32,105,109,112,111,114,116,97,110,116,59,32,120,59,32,45,45,89,58,59,32,109,97,114,103,105,110,58,49,112,120,41],[99,111,108,111,114,58,32,114,101,100,32,33,105,109,112,111,114,116,97,110,116,59,32,45,45,89,58,32],2)) fun y1=>
 some y1
def aB(Sj:List zf×List zf->Option Bool)(x:List zf×List zf):Option Bool:=
 bif (x.1.length:Int) != (x.2.length:Int)then
  some false
 else
  Zf (fun(s1:Int)=>
    bif decide (s1<(x.1.length:Int))then
     zb (geti x.1 s1) fun y2=>
     zb (geti x.2 s1) fun y3=>
     zb (zo (!(!(y2.token.kind==y3.token.kind&&(y2.token.text==y3.token.text&&(y2.token.num==y3.token.num&&(y2.token.unit==y3.token.unit&&(y2.token.flag==y3.token.flag&&true))))))) (geti x.1 s1) (default:zf)) fun y4=>
     zb (zo (!(!(y2.token.kind==y3.token.kind&&(y2.token.text==y3.token.text&&(y2.token.num==y3.token.num&&(y2.token.unit==y3.token.unit&&(y2.token.flag==y3.token.flag&&true))))))) (geti x.2 s1) (default:zf)) fun y5=>
     zb (zo (!(!(y2.token.kind==y3.token.kind&&(y2.token.text==y3.token.text&&(y2.token.num==y3.token.num&&(y2.token.unit==y3.token.unit&&(y2.token.flag==y3.token.flag&&true))))))) (Sj (y4.list,y5.list)) (default:Bool)) fun y6=>
     bif bif !(y2.token.kind==y3.token.kind&&(y2.token.text==y3.token.text&&(y2.token.num==y3.token.num&&(y2.token.unit==y3.token.unit&&(y2.token.flag==y3.token.flag&&true)))))then true else !y6 then
      some (LO.ret false)
     else
      some (LO.again (w64 (s1+1)))
    else
     some (LO.out ()):Int->Option (LO (Int) (Unit) _)) 0 fun o7=>
  some true
def Sj:List zf×List zf->Option Bool:=recE (aB)
def Qa(x:zJ×zJ):Option Bool:=
 zb (zo (bif x.1.name==x.2.name then x.1.important==x.2.important else false) (Sj (x.1.value,x.2.value)) (default:Bool)) fun y1=>
 some (bif bif x.1.name==x.2.name then x.1.important==x.2.important else false then y1 else false)
def Es(x:List zJ×List zJ):Option Bool:=
 bif (x.1.length:Int) != (x.2.length:Int)then
  some false
 else
  Zf (fun(s1:Int)=>
    bif decide (s1<(x.1.length:Int))then
     zb (geti x.1 s1) fun y2=>
     zb (geti x.2 s1) fun y3=>
     zb (Qa (y2,y3)) fun y4=>
     bif !y4 then
      some (LO.ret false)
     else
      some (LO.again (w64 (s1+1)))
    else
     some (LO.out ()):Int->Option (LO (Int) (Unit) _)) 0 fun o5=>
  some true
def IC(x:zJ):Option Bool:=
 zb (ww [x]) fun y1=>
 zb (zo (!y1) (xw x) (default:Int)) fun y2=>
 bif bif y1 then true else y2 != 0 then
  zb (Pm ()) fun y3=>
  some y3
 else
  zb (Tk (⟨x.name,x.value,false⟩:zJ)) fun y4=>
  bif bif y4.2 != 0 then true else decide ((y4.1.length:Int)>3900)then
   zb (Pm ()) fun y5=>
   some y5
  else
   zb (ui y4.1) fun y6=>
   need (QU y4.1.length ([33,73,77,80,79,82,84,65,78,84]:Str).length)<|
   zb (ui (y4.1++([33,73,77,80,79,82,84,65,78,84]:Str))) fun y7=>
   need (QU y4.1.length ([32,33,32,105,109,112,111,114,116,97,110,116,32,59,32]:Str).length)<|
   zb (ui (y4.1++([32,33,32,105,109,112,111,114,116,97,110,116,32,59,32]:Str))) fun y8=>
   bif bif bif y6.1 != 0 then true else y7.1 != 0 then true else y8.1 != 0 then
    some (bif bif y6.1==4 then true else y7.1==4 then true else y8.1==4)
   else
    need (decide (0<(y6.2.length:Int))|| !(!(bif bif (y6.2.length:Int) != 1 then true else(y7.2.length:Int) != 1 then true else(y8.2.length:Int) != 1)))<|
    zb (zo (!(bif bif (y6.2.length:Int) != 1 then true else(y7.2.length:Int) != 1 then true else(y8.2.length:Int) != 1)) y6.2[0]? (default:zJ)) fun y9=>
    zb (zo (!(bif bif (y6.2.length:Int) != 1 then true else(y7.2.length:Int) != 1 then true else(y8.2.length:Int) != 1)) (Qa (y9,(⟨x.name,x.value,false⟩:zJ))) (default:Bool)) fun y10=>
    need (decide (0<(y7.2.length:Int))|| !(!(bif bif bif (y6.2.length:Int) != 1 then true else(y7.2.length:Int) != 1 then true else(y8.2.length:Int) != 1 then true else !y10)))<|
    zb (zo (!(bif bif bif (y6.2.length:Int) != 1 then true else(y7.2.length:Int) != 1 then true else(y8.2.length:Int) != 1 then true else !y10)) y7.2[0]? (default:zJ)) fun y11=>
    need (decide (0<(y8.2.length:Int))|| !(!(bif bif bif (y6.2.length:Int) != 1 then true else(y7.2.length:Int) != 1 then true else(y8.2.length:Int) != 1 then true else !y10)))<|
    zb (zo (!(bif bif bif (y6.2.length:Int) != 1 then true else(y7.2.length:Int) != 1 then true else(y8.2.length:Int) != 1 then true else !y10)) y8.2[0]? (default:zJ)) fun y12=>
    zb (zo (!(bif bif bif (y6.2.length:Int) != 1 then true else(y7.2.length:Int) != 1 then true else(y8.2.length:Int) != 1 then true else !y10)) (Qa (y11,y12)) (default:Bool)) fun y13=>
    need (decide (0<(y7.2.length:Int))|| !(!(bif bif bif bif (y6.2.length:Int) != 1 then true else(y7.2.length:Int) != 1 then true else(y8.2.length:Int) != 1 then true else !y10 then true else !y13)))<|
    zb (zo (!(bif bif bif bif (y6.2.length:Int) != 1 then true else(y7.2.length:Int) != 1 then true else(y8.2.length:Int) != 1 then true else !y10 then true else !y13)) y7.2[0]? (default:zJ)) fun y14=>
    bif bif bif bif bif bif (y6.2.length:Int) != 1 then true else(y7.2.length:Int) != 1 then true else(y8.2.length:Int) != 1 then true else !y10 then true else !y13 then true else !y14.important then
     some false
    else
     need (decide (0<(y7.2.length:Int)))<|
     zb y7.2[0]? fun y15=>
     need (decide (0<((List.set y7.2 0 (⟨y15.name,y15.value,false⟩:zJ)).length:Int)))<|
     zb (List.set y7.2 0 (⟨y15.name,y15.value,false⟩:zJ))[0]? fun y16=>
     zb (Qa (y16,(⟨x.name,x.value,false⟩:zJ))) fun y17=>
     bif !y17 then
      some false
     else
      zb (geti y4.1 0) fun y18=>
      zb (zo (decide ((y18.toNat:Int)>=97)) (geti y4.1 0) 0) fun y19=>
      bif bif decide ((y18.toNat:Int)>=97)then decide ((y19.toNat:Int)<=122)else false then
       zb (geti y4.1 0) fun y20=>
       zb (ZF (wu8 ((y20.toNat:Int) - 32))) fun y21=>
       need (decide (1<=(y4.1.length:Int)))<|
       need (QU [y21].length (List.drop 1 y4.1).length)<|
       zb (ui ([y21]++List.drop 1 y4.1)) fun y22=>
       zb (zo (y22.1==0) (Es (y22.2,y6.2)) (default:Bool)) fun y23=>
       zb (zo (bif y22.1==0 then y23 else false) (Pm ()) (default:Bool)) fun y24=>
       some (bif bif y22.1==0 then y23 else false then y24 else false)
      else
       zb (Pm ()) fun y25=>
       some y25
end Go.Lv.VT
end
