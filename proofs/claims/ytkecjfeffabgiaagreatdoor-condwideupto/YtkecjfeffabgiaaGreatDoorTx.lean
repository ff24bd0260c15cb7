/- Texts. -/
import Derived.Test.YtkecjfeffabgiaaGreatDoorTy
import Derived.Test.YtkecjfeffabgiaaGreatDoorLf
noncomputable section
set_option linter.unusedSimpArgs false
set_option linter.unusedVariables false
namespace Go.Lv.VT
set_option maxRecDepth 100000
def Eo(qU:zg×Int->Option Int)(x:zg×Int):Option Int:=
 Zb (fun(s1:Int×Int)=>
   bif bif decide (s1.2<(x.1.list.length:Int))then decide (s1.1<=x.2)else false then
    zb (geti x.1.list s1.2) fun y2=>
    zb (qU ((⟨y2.kind,y2.name,y2.num,y2.decl,y2.list⟩:zg),w64 (x.2 - s1.1))) fun y3=>
    some (LO.again (w64 (s1.1+y3),w64 (s1.2+1)))
   else
    some (LO.out s1.1):Int×Int->Option (LO (Int×Int) (Int) _)) (1,0) fun o4=>
 some o4
def qU:zg×Int->Option Int:=recE (Eo)
def Ho(qR:List ze×Int->Option Int)(x:List ze×Int):Option Int:=
 Zb (fun(s1:Int×Int)=>
   bif bif decide (s1.2<(x.1.length:Int))then decide (s1.1<=x.2)else false then
    zb (geti x.1 s1.2) fun y2=>
    zb (geti x.1 s1.2) fun y3=>
    zb (geti x.1 s1.2) fun y4=>
    zb (qR (y4.list,w64 (x.2 - s1.1))) fun y5=>
    some (LO.again (w64 (s1.1+w64 (w64 (w64 (1+(y2.token.text.length:Int))+(y3.token.unit.length:Int))+y5)),w64 (s1.2+1)))
   else
    some (LO.out s1.1):Int×Int->Option (LO (Int×Int) (Int) _)) (0,0) fun o6=>
 some o6
def qR:List ze×Int->Option Int:=recE (Ho)
def Ns(x:Int):Option Int:=
 bif x==19 then
  some 20
 else
  zR (X:=Bool) (
    bif x==21 then
     some (LX.out (x==21))
    else
     some (LX.out (x==2))) fun j1=>
  bif j1 then
   some 22
  else
   bif x==23 then
    some 24
   else
    some 0
def Lx(Rh:List ze->Option Int)(x:List ze):Option Int:=
 Zb (fun(s1:Int×Int)=>
   bif decide (s1.2<(x.length:Int))then
    zR (X:=Int×Int) (
      zb (geti x s1.2) fun y2=>
      zb (Ns y2.token.kind) fun y3=>
      bif y3 != 0 then
       zb (geti x s1.2) fun y4=>
       zb (Rh y4.list) fun y5=>
       some (LX.out (if w64 (1+y5)>s1.1 then w64 (1+y5)else s1.1,s1.2))
      else
       some (LX.out (s1.1,s1.2))) fun j6=>
    some (LO.again (j6.1,w64 (j6.2+1)))
   else
    some (LO.out s1.1):Int×Int->Option (LO (Int×Int) (Int) _)) (0,0) fun o7=>
 some o7
def Rh:List ze->Option Int:=recE (Lx)
def Jr(x:List zA):Option Bool:=
 bif decide ((x.length:Int)>40)then
  some true
 else
  Zb (fun(s1:Int×Int)=>
    bif decide (s1.2<(x.length:Int))then
     zb (geti x s1.2) fun y2=>
     zb (geti x s1.2) fun y3=>
     zb (qR (y3.value,300)) fun y4=>
     zb (zw (!(decide (w64 (s1.1+w64 ((y2.name.length:Int)+y4))>300))) (geti x s1.2) (default:zA)) fun y5=>
     zb (zw (!(decide (w64 (s1.1+w64 ((y2.name.length:Int)+y4))>300))) (Rh y5.value) (default:Int)) fun y6=>
     bif bif decide (w64 (s1.1+w64 ((y2.name.length:Int)+y4))>300)then true else decide (y6>40)then
      some (LO.ret true)
     else
      some (LO.again (w64 (s1.1+w64 ((y2.name.length:Int)+y4)),w64 (s1.2+1)))
    else
     some (LO.out ()):Int×Int->Option (LO (Int×Int) (Unit) _)) (0,0) fun o7=>
  some false
def Co(Q0:zg->Option Bool)(x:zg):Option Bool:=
 zb (Jr [x.decl]) fun y1=>
 bif bif y1 then true else decide ((x.name.length:Int)>200)then
  some true
 else
  Zb (fun(s2:Int)=>
    bif decide (s2<(x.list.length:Int))then
     zb (geti x.list s2) fun y3=>
     zb (Q0 (⟨y3.kind,y3.name,y3.num,y3.decl,y3.list⟩:zg)) fun y4=>
     bif y4 then
      some (LO.ret true)
     else
      some (LO.again (w64 (s2+1)))
    else
     some (LO.out ()):Int->Option (LO (Int) (Unit) _)) 0 fun o5=>
  some false
def Q0:zg->Option Bool:=recE (Co)
def Ir(x:zg):Option Bool:=
 zb (qU ((⟨x.kind,x.name,x.num,x.decl,x.list⟩:zg),100)) fun y1=>
 zb (zw (!(decide (y1>100))) (Q0 (⟨x.kind,x.name,x.num,x.decl,x.list⟩:zg)) (default:Bool)) fun y2=>
 some (bif decide (y1>100)then true else y2)
def qI(x:Int):Option Int:=
 bif x==2 then
  some 22
 else
  zR (X:=Bool) (
    bif x==19 then
     some (LX.out (x==19))
    else
     bif x==21 then
      some (LX.out (x==21))
     else
      some (LX.out (x==23))) fun j1=>
  bif j1 then
   some (wu8 (x+1))
  else
   some 0
def Yn(qc:List ze×Int->Option zy)(x:List ze×Int):Option zy:=
 Zb (fun(s1:Int×zy)=>
   bif decide (s1.1<(x.1.length:Int))then
    zR (X:=Int×zy) (
      zb (geti x.1 s1.1) fun y2=>
      zb (qI y2.token.kind) fun y3=>
      zR (X:=zy) (
        bif bif bif x.2 != 0 then y2.token.kind==x.2 else false then true else bif y3==0 then decide ((y2.list.length:Int)>0)else false then
         some (LX.out (⟨s1.2.depth,w64 (s1.2.tokens+1),true⟩:zy))
        else
         some (LX.out (⟨s1.2.depth,w64 (s1.2.tokens+1),s1.2.bad⟩:zy))) fun j4=>
      bif y3==0 then
       some (LX.out (s1.1,j4))
      else
       zb (qc (y2.list,y3)) fun y5=>
       some (LX.out (s1.1,(⟨if w64 (y5.depth+1)>j4.depth then w64 (y5.depth+1)else j4.depth,w64 (w64 (j4.tokens+y5.tokens)+1),bif j4.bad then true else y5.bad⟩:zy)))) fun j6=>
    some (LO.again (w64 (j6.1+1),j6.2))
   else
    some (LO.out s1.2):Int×zy->Option (LO (Int×zy) (zy) _)) (0,(⟨0,0,false⟩:zy)) fun o7=>
 some o7
def qc:List ze×Int->Option zy:=recE (Yn)
def Zv(x:List ze):Option Int:=
 zb (qc (x,0)) fun y1=>
 bif decide (y1.depth>16)then
  some 20
 else
  bif decide (y1.tokens>1500)then
   some 4
  else
   bif y1.bad then
    some 8
   else
    some 0
def Tk(x:List ze):Option (Int×Int):=
 zb (Zv x) fun y1=>
 bif y1 != 0 then
  some (0,y1)
 else
  zb (qc (x,0)) fun y2=>
  some (y2.depth,0)
def Xo(Zy:List ze×List zk->Option (List zk))(x:List ze×List zk):Option (List zk):=
 Zb (fun(s1:Int×List zk)=>
   bif decide (s1.1<(x.1.length:Int))then
    zR (X:=Int×List zk) (
      zb (geti x.1 s1.1) fun y2=>
      need (zQ s1.2.length 1 56)<|
      zb (qI y2.token.kind) fun y3=>
      bif y3 != 0 then
       zb (Zy (y2.list,s1.2++[y2.token])) fun y4=>
       need (zQ y4.length 1 56)<|
       some (LX.out (s1.1,y4++[(⟨y3,[],0,[],false⟩:zk)]))
      else
       some (LX.out (s1.1,s1.2++[y2.token]))) fun j5=>
    some (LO.again (w64 (j5.1+1),j5.2))
   else
    some (LO.out s1.2):Int×List zk->Option (LO (Int×List zk) (List zk) _)) (0,x.2) fun o6=>
 some o6
def Zy:List ze×List zk->Option (List zk):=recE (Xo)
def QJ(x:List ze):Option (List zk):=
 Zb (fun(s1:Int×List zk)=>
   bif decide (s1.1<(x.length:Int))then
    zR (X:=Int×List zk) (
      zb (geti x s1.1) fun y2=>
      need (zQ s1.2.length 1 56)<|
      zb (qI y2.token.kind) fun y3=>
      bif y3 != 0 then
       zb (Zy (y2.list,s1.2++[y2.token])) fun y4=>
       need (zQ y4.length 1 56)<|
       some (LX.out (s1.1,y4++[(⟨y3,[],0,[],false⟩:zk)]))
      else
       some (LX.out (s1.1,s1.2++[y2.token]))) fun j5=>
    some (LO.again (w64 (j5.1+1),j5.2))
   else
    some (LO.out s1.2):Int×List zk->Option (LO (Int×List zk) (List zk) _)) (0,[]) fun o6=>
 some o6
def Rk(x:List ze):Option (List zk×Int):=
 zb (Zv x) fun y1=>
 bif y1 != 0 then
  some ([],y1)
 else
  zb (QJ x) fun y2=>
  some (y2,0)
def strings_IndexByte(x:Str×Int):Option Int:=
 zb (Uq (x.1,x.2)) fun y1=>
 some y1
def stringslite_HasPrefix(x:Str×Str):Option Bool:=
 need (decide (0<=(x.2.length:Int))&&decide ((x.2.length:Int)<=(x.1.length:Int))|| !(decide ((x.1.length:Int)>=(x.2.length:Int))))<|
 some (bif decide ((x.1.length:Int)>=(x.2.length:Int))then List.take x.2.length x.1==x.2 else false)
def strings_HasPrefix(x:Str×Str):Option Bool:=
 zb (stringslite_HasPrefix (x.1,x.2)) fun y1=>
 some y1
def Zx(x:Str):Option Str:=
 need (decide (x.length<=maxLen))<|
 Zb (fun(s1:Int×List UInt8)=>
   bif decide (s1.1<(x.length:Int))then
    zR (X:=Int×List UInt8) (
      need (decide (0<=s1.1)&&decide (s1.1<(s1.2.length:Int)))<|
      zb s1.2[s1.1.toNat]? fun y2=>
      bif bif decide (65<=(y2.toNat:Int))then decide ((y2.toNat:Int)<=90)else false then
       need (decide (0<=s1.1)&&decide (s1.1<(s1.2.length:Int)))<|
       zb s1.2[s1.1.toNat]? fun y3=>
       need (decide (0<=s1.1)&&decide (s1.1<(s1.2.length:Int)))<|
       zb s1.2[s1.1.toNat]? fun y4=>
       zb (qD (ibOr IntKind.u8 (y3.toNat:Int) 32)) fun y5=>
       some (LX.out (s1.1,List.set s1.2 s1.1.toNat y5))
      else
       some (LX.out (s1.1,s1.2))) fun j6=>
    some (LO.again (w64 (j6.1+1),j6.2))
   else
    some (LO.out s1.2):Int×List UInt8->Option (LO (Int×List UInt8) (List UInt8) _)) (0,x) fun o7=>
 some o7
def Vk(x:Str):Option Bool:=
 zb (zw (!(bif x==[]then true else decide ((x.length:Int)>64))) (strings_IndexByte (x,0)) (default:Int)) fun y1=>
 bif bif bif x==[]then true else decide ((x.length:Int)>64)then true else decide (y1>=0)then
  some false
 else
  zb (strings_HasPrefix (x,[45,45])) fun y2=>
  bif y2 then
   some (!(x==[45,45]))
  else
   zb (Zx x) fun y3=>
   some (x==y3)
def stringslite_TrimPrefix(x:Str×Str):Option Str:=
 zb (stringslite_HasPrefix (x.1,x.2)) fun y1=>
 bif y1 then
  need (decide (0<=(x.2.length:Int))&&decide ((x.2.length:Int)<=(x.1.length:Int)))<|
  some (List.drop x.2.length x.1)
 else
  some x.1
def strings_TrimPrefix(x:Str×Str):Option Str:=
 zb (stringslite_TrimPrefix (x.1,x.2)) fun y1=>
 some y1
def Z8(x:Int):Option Bool:=
 some (bif decide (48<=x)then decide (x<=57)else false)
def Aj(x:Str):Option Bool:=
 zb (strings_TrimPrefix (x,[45])) fun y1=>
 zb (zw (!(y1==[])) (geti y1 0) 0) fun y2=>
 zb (zw (!(y1==[])) (Z8 (y2.toNat:Int)) (default:Bool)) fun y3=>
 some (bif !(y1==[])then y3 else false)
def jr(x:Int):Option Bool:=
 some (bif bif decide (97<=ibOr IntKind.u8 x 32)then decide (ibOr IntKind.u8 x 32<=122)else false then decide (x<128)else false)
def QW(x:Int):Option Bool:=
 zb (jr x) fun y1=>
 zb (zw (!y1) (Z8 x) (default:Bool)) fun y2=>
 some (bif bif bif bif y1 then true else y2 then true else x==95 then true else x==45 then true else decide (x>=128))
def strings_Contains(x:Str×Str):Option Bool:=
 zb (Si (x.1,x.2)) fun y1=>
 some (decide (y1>=0))
def Nn(x:zk):Option Bool:=
 need (Ue x.text.length x.unit.length)<|
 zb (strings_IndexByte (x.text++x.unit,0)) fun y1=>
 zR (X:=Bool×Bool×Bool×Bool×Bool) (
   zR (X:=Bool×Bool×Bool×Bool×Bool×Bool) (
     bif x.kind==1 then
      some (LX.out (false,false,false,false,decide (y1<0),x.kind==1))
     else
      bif x.kind==2 then
       some (LX.out (false,false,false,false,decide (y1<0),x.kind==2))
      else
       some (LX.out (false,false,false,false,decide (y1<0),x.kind==3))) fun j2=>
   bif j2.2.2.2.2.2 then
    some (LX.out (true,j2.2.1,j2.2.2.1,j2.2.2.2.1,bif j2.2.2.2.2.1 then !(x.text==[])else false))
   else
    bif x.kind==4 then
     zb (zw (!x.flag&&(bif j2.2.2.2.2.1 then !(x.text==[])else false)) (Aj x.text) (default:Bool)) fun y3=>
     zb (zw (y3&&(!x.flag&&(bif j2.2.2.2.2.1 then !(x.text==[])else false))) (strings_HasPrefix (x.text,[45,45])) (default:Bool)) fun y4=>
     some (LX.out (true,j2.2.1,j2.2.2.1,true,bif bif j2.2.2.2.2.1 then !(x.text==[])else false then bif bif x.flag then true else bif y3 then !y4 else false then true else x.text==[45]else false))
    else
     zR (X:=Bool×Bool×Bool×Bool×Bool×Bool) (
       bif x.kind==5 then
        some (LX.out (j2.1,j2.2.1,j2.2.2.1,j2.2.2.2.1,j2.2.2.2.2.1,x.kind==5))
       else
        some (LX.out (j2.1,j2.2.1,j2.2.2.1,j2.2.2.2.1,j2.2.2.2.2.1,x.kind==7))) fun j5=>
     bif j5.2.2.2.2.2 then
      some (LX.out (true,j5.2.1,j5.2.2.1,j5.2.2.2.1,j5.2.2.2.2.1))
     else
      bif x.kind==9 then
       zb (zw (bif j5.2.2.2.2.1 then(x.text.length:Int)==1 else false) (geti x.text 0) 0) fun y6=>
       zb (zw (bif j5.2.2.2.2.1 then(x.text.length:Int)==1 else false) (QW (y6.toNat:Int)) (default:Bool)) fun y7=>
       zb (zw (bif bif bif j5.2.2.2.2.1 then(x.text.length:Int)==1 else false then !y7 else false then true else x.text==[45]) (strings_Contains ([32,9,10,12,13,34,39,58,59,44,91,93,40,41,123,125],x.text)) (default:Bool)) fun y8=>
       some (LX.out (true,j5.2.1,j5.2.2.1,j5.2.2.2.1,bif bif bif bif j5.2.2.2.2.1 then(x.text.length:Int)==1 else false then !y7 else false then true else x.text==[45]then !y8 else false))
      else
       zR (X:=Bool×Bool×Bool×Bool×Bool) (
         bif x.kind==10 then
          some (LX.out (j5.2.1,j5.2.2.1,j5.2.2.2.1,j5.2.2.2.2.1,x.kind==10))
         else
          bif x.kind==11 then
           some (LX.out (j5.2.1,j5.2.2.1,j5.2.2.2.1,j5.2.2.2.2.1,x.kind==11))
          else
           some (LX.out (j5.2.1,j5.2.2.1,j5.2.2.2.1,j5.2.2.2.2.1,x.kind==12))) fun j9=>
       bif j9.2.2.2.2 then
        some (LX.out (j5.1,x.kind==12,true,x.kind != 11,bif bif bif bif j9.2.2.2.1 then decide (x.num>=(-1000000000000))else false then decide (x.num<=1000000000000)else false then bif !x.flag then true else Int.tmod x.num 1000==0 else false then bif !(x.kind==12)then true else !(x.unit==[])else false))
       else
        some (LX.out (j5.1,j9.1,j9.2.1,j9.2.2.1,bif decide (x.kind>=13)then decide (x.kind<=24)else false))) fun j10=>
 some (bif bif bif bif j10.2.2.2.2 then bif j10.1 then true else x.text==[]else false then bif j10.2.1 then true else x.unit==[]else false then bif j10.2.2.1 then true else x.num==0 else false then bif j10.2.2.2.1 then true else !x.flag else false)
def qb(x:(Int×Int)×List zk):Option Bool:=
 zb (zw (decide (x.1.1<(x.2.length:Int))) (geti x.2 x.1.1) (default:zk)) fun y1=>
 some (bif decide (x.1.1<(x.2.length:Int))then y1.kind==x.1.2 else false)
def ZJ(x:Str×Str):Option Bool:=
 zb (Zx x.1) fun y1=>
 zb (Zx x.2) fun y2=>
 some (y1==y2)
def Ii(x:List zk):Option Int:=
 zb (geti x 0) fun y1=>
 bif bif y1.kind==9 then y1.text==[92]else false then
  zb (qb ((1,13),x)) fun y2=>
  bif !y2 then
   some 0
  else
   some 2
 else
  zb (zw (y1.kind==2) (ZJ (y1.text,[117,114,108])) (default:Bool)) fun y3=>
  bif bif y1.kind==2 then y3 else false then
   zR (X:=Int) (
     zb (qb ((1,13),x)) fun y4=>
     bif y4 then
      some (LX.out 2)
     else
      some (LX.out 1)) fun j5=>
   zb (qb ((j5,5),x)) fun y6=>
   bif !y6 then
    some 0
   else
    some (w64 (j5+1))
  else
   some 1
def Qo(x:List zk):Option Int:=
 bif decide ((x.length:Int)>1500)then
  some 4
 else
  Zb (fun(s1:Int)=>
    bif decide (s1<(x.length:Int))then
     zb (geti x s1) fun y2=>
     zb (Nn y2) fun y3=>
     need (decide (0<=s1)&&decide (s1<=(x.length:Int))|| !(!(!y3)))<|
     zb (zw (!(!y3)) (Ii (List.drop s1.toNat x)) (default:Int)) fun y4=>
     bif bif !y3 then true else y4==0 then
      some (LO.ret 8)
     else
      some (LO.again (w64 (s1+1)))
    else
     some (LO.out ()):Int->Option (LO (Int) (Unit) _)) 0 fun o5=>
  some 0
def Zq(x:ze×Int):Option Bool:=
 some (x.1.token.kind==x.2)
def qP(zq:List ze->Option Bool)(x:ze):Option Bool:=
 zb (Zq ((⟨x.token,x.list⟩:ze),20)) fun y1=>
 zb (zw (!y1) (Zq ((⟨x.token,x.list⟩:ze),22)) (default:Bool)) fun y2=>
 zb (zw (!(bif y1 then true else y2)) (Zq ((⟨x.token,x.list⟩:ze),24)) (default:Bool)) fun y3=>
 zb (zw (!(bif bif y1 then true else y2 then true else y3)) (zq x.list) (default:Bool)) fun y4=>
 some (bif bif bif y1 then true else y2 then true else y3 then true else y4)
def ZC(zq:List ze->Option Bool)(x:List ze):Option Int:=
 Zb (fun(s1:Int)=>
   bif decide (s1<(x.length:Int))then
    zb (geti x s1) fun y2=>
    zb (qP zq (⟨y2.token,y2.list⟩:ze)) fun y3=>
    bif y3 then
     some (LO.ret s1)
    else
     some (LO.again (w64 (s1+1)))
   else
    some (LO.out ()):Int->Option (LO (Int) (Unit) _)) 0 fun o4=>
 some (-1)
def Zh(zq:List ze->Option Bool)(x:List ze):Option Bool:=
 zb (ZC zq x) fun y1=>
 some (decide (y1>=0))
def Uo(zq:List ze->Option Bool)(x:List ze):Option Bool:=
 zb (Zh zq x) fun y1=>
 some y1
def zq:List ze->Option Bool:=recE (Uo)
def Jk(x:ze):Option Bool:=
 zb (Zq ((⟨x.token,x.list⟩:ze),9)) fun y1=>
 some (bif y1 then x.token.text==[33]else false)
def Io(x:ze):Option Bool:=
 zb (Zq ((⟨x.token,x.list⟩:ze),17)) fun y1=>
 zb (zw (!y1) (Jk (⟨x.token,x.list⟩:ze)) (default:Bool)) fun y2=>
 some (bif y1 then true else y2)
def Zm(x:List ze):Option Int:=
 Zb (fun(s1:Int)=>
   bif decide (s1<(x.length:Int))then
    zb (geti x s1) fun y2=>
    zb (Io (⟨y2.token,y2.list⟩:ze)) fun y3=>
    bif y3 then
     some (LO.ret s1)
    else
     some (LO.again (w64 (s1+1)))
   else
    some (LO.out ()):Int->Option (LO (Int) (Unit) _)) 0 fun o4=>
 some (-1)
def zW(x:List ze):Option Bool:=
 zb (Zm x) fun y1=>
 some (decide (y1>=0))
def Qn(x:zA):Option Int:=
 zb (Rk x.value) fun y1=>
 zb (Vk x.name) fun y2=>
 zb (zw (!(bif !y2 then true else y1.2 != 0)) (Qo y1.1) (default:Int)) fun y3=>
 zb (zw (!(bif bif !y2 then true else y1.2 != 0 then true else y3 != 0)) (zq x.value) (default:Bool)) fun y4=>
 bif bif bif bif !y2 then true else y1.2 != 0 then true else y3 != 0 then true else y4 then
  some 8
 else
  zb (zW x.value) fun y5=>
  bif y5 then
   some 8
  else
   zb (zw ((x.value.length:Int)==0) (strings_HasPrefix (x.name,[45,45])) (default:Bool)) fun y6=>
   zb (zw (decide ((x.value.length:Int)>0)&& !(bif (x.value.length:Int)==0 then !y6 else false)) (geti x.value 0) (default:ze)) fun y7=>
   zb (zw (decide ((x.value.length:Int)>0)&& !(bif (x.value.length:Int)==0 then !y6 else false)) (Zq ((⟨y7.token,y7.list⟩:ze),13)) (default:Bool)) fun y8=>
   zb (zw (!y8&&(decide ((x.value.length:Int)>0)&& !(bif (x.value.length:Int)==0 then !y6 else false))) (geti x.value (w64 ((x.value.length:Int) - 1))) (default:ze)) fun y9=>
   zb (zw (!y8&&(decide ((x.value.length:Int)>0)&& !(bif (x.value.length:Int)==0 then !y6 else false))) (Zq ((⟨y9.token,y9.list⟩:ze),13)) (default:Bool)) fun y10=>
   bif bif bif (x.value.length:Int)==0 then !y6 else false then true else bif decide ((x.value.length:Int)>0)then bif y8 then true else y10 else false then
    some 8
   else
    some 0
def ZO(x:zg):Option Bool:=
 some (bif bif bif bif x.name==[]then x.num==0 else false then x.decl.name==[]else false then(x.decl.value.length:Int)==0 else false then !x.decl.important else false)
def Di(x:zg):Option Bool:=
 some (bif x.kind==7 then true else x.kind==8)
def Gj(ZW:zg×Int->Option ((Int×Bool)×Int))(x:zg×Int):Option ((Int×Bool)×Int):=
 bif decide (w64 (x.2+1)>1500)then
  some ((0,false),w64 (x.2+1))
 else
  bif x.1.kind==7 then
   zb (Tk x.1.decl.value) fun y1=>
   zb (zw (bif bif bif (x.1.list.length:Int)==0 then x.1.name==[]else false then x.1.num==0 else false then y1.2==0 else false) (Qn x.1.decl) (default:Int)) fun y2=>
   some ((w64 (y1.1+1),bif bif bif bif (x.1.list.length:Int)==0 then x.1.name==[]else false then x.1.num==0 else false then y1.2==0 else false then y2==0 else false),w64 (x.2+1))
  else
   bif x.1.kind==8 then
    zb (zw ((x.1.list.length:Int)==0) (ZO (⟨x.1.kind,x.1.name,x.1.num,x.1.decl,x.1.list⟩:zg)) (default:Bool)) fun y3=>
    some ((1,bif (x.1.list.length:Int)==0 then y3 else false),w64 (x.2+1))
   else
    zR (X:=Bool) (
      bif x.1.kind==3 then
       some (LX.out (x.1.kind==3))
      else
       bif x.1.kind==1 then
        some (LX.out (x.1.kind==1))
       else
        some (LX.out (x.1.kind==2))) fun j4=>
    bif j4 then
     zb (ZO (⟨x.1.kind,x.1.name,x.1.num,x.1.decl,x.1.list⟩:zg)) fun y5=>
     bif bif bif !y5 then true else bif x.1.kind==3 then(x.1.list.length:Int) != 1 else false then true else bif x.1.kind != 3 then decide ((x.1.list.length:Int)<2)else false then
      some ((0,false),w64 (x.2+1))
     else
      Zb (fun(s6:(Int×Int)×Int)=>
        bif decide (s6.1.2<(x.1.list.length:Int))then
         zb (geti x.1.list s6.1.2) fun y7=>
         zb (ZW ((⟨y7.kind,y7.name,y7.num,y7.decl,y7.list⟩:zg),s6.2)) fun y8=>
         bif !y8.1.2 then
          some (LO.ret ((0,false),y8.2))
         else
          zR (X:=Int×Int) (
            zb (Di (⟨y7.kind,y7.name,y7.num,y7.decl,y7.list⟩:zg)) fun y9=>
            bif !y9 then
             some (LX.out (s6.1.1,w64 (y8.1.1+1)))
            else
             some (LX.out (s6.1.1,y8.1.1))) fun j10=>
          some (LO.again ((if j10.2>j10.1 then j10.2 else j10.1,w64 (s6.1.2+1)),y8.2))
        else
         some (LO.out (s6.1.1,s6.2)):(Int×Int)×Int->Option (LO ((Int×Int)×Int) (Int×Int) _)) ((0,0),w64 (x.2+1)) fun o11=>
      some ((o11.1,true),o11.2)
    else
     some ((0,false),w64 (x.2+1))
def ZW:zg×Int->Option ((Int×Bool)×Int):=recE (Gj)
def zZ(x:zg):Option Int:=
 zb (ZW ((⟨x.kind,x.name,x.num,x.decl,x.list⟩:zg),0)) fun y1=>
 bif bif !y1.1.2 then true else decide (y1.1.1>16)then
  some 8
 else
  some 0
def Dj(x:Int×List ze):Option Bool:=
 zb (geti x.2 x.1) fun y1=>
 some (y1.token.kind==13)
def qB(x:List ze):Option (List ze):=
 bif x.isEmpty then
  both (
    some []) (
    need (zQ 0 x.length 80)<|
    some x)
 else
  need (zQ 0 x.length 80)<|
  some x
def Xn(ZY:List ze->Option (List ze))(x:List ze):Option (List ze):=
 zb (qB x) fun y1=>
 Zb (fun(s2:Int×List ze)=>
   bif decide (s2.1<(y1.length:Int))then
    need (decide (0<=s2.1)&&decide (s2.1<(s2.2.length:Int)))<|
    zb s2.2[s2.1.toNat]? fun y3=>
    zb (ZY y3.list) fun y4=>
    need (decide (0<=s2.1)&&decide (s2.1<(s2.2.length:Int)))<|
    zb s2.2[s2.1.toNat]? fun y5=>
    some (LO.again (w64 (s2.1+1),List.set s2.2 s2.1.toNat (⟨y5.token,y4⟩:ze)))
   else
    some (LO.out s2.2):Int×List ze->Option (LO (Int×List ze) (List ze) _)) (0,y1) fun o6=>
 some o6
def ZY:List ze->Option (List ze):=recE (Xn)
def QZ(x:List ze):Option (List ze×Int):=
 zb (Zv x) fun y1=>
 bif y1 != 0 then
  some ([],y1)
 else
  Zb (fun(s2:Int)=>
    zb (zw (decide (s2<(x.length:Int))) (Dj (s2,x)) (default:Bool)) fun y3=>
    bif bif decide (s2<(x.length:Int))then y3 else false then
     some (LO.again (w64 (s2+1)))
    else
     some (LO.out s2):Int->Option (LO (Int) (Int) _)) 0 fun o4=>
  Zb (fun(s5:Int)=>
    zb (zw (decide (o4<s5)) (Dj (w64 (s5 - 1),x)) (default:Bool)) fun y6=>
    bif bif decide (o4<s5)then y6 else false then
     some (LO.again (w64 (s5 - 1)))
    else
     some (LO.out s5):Int->Option (LO (Int) (Int) _)) (x.length:Int) fun o7=>
  need (decide (0<=o4)&&(decide (o4<=o7)&&(decide (o7<=o7)&&decide (o7<=(x.length:Int))))&&decide (o7=o7))<|
  zb (ZY (List.drop o4.toNat (List.take o7.toNat x))) fun y8=>
  some (y8,0)
def Ko(Zl:zg->Option (List zA))(x:zg):Option (List zA):=
 bif x.kind==7 then
  zb (QZ x.decl.value) fun y1=>
  some [(⟨x.decl.name,y1.1,x.decl.important⟩:zA)]
 else
  Zb (fun(s2:Int×List zA)=>
    bif decide (s2.1<(x.list.length:Int))then
     zb (geti x.list s2.1) fun y3=>
     zb (Zl (⟨y3.kind,y3.name,y3.num,y3.decl,y3.list⟩:zg)) fun y4=>
     need (zQ s2.2.length y4.length 48)<|
     some (LO.again (w64 (s2.1+1),s2.2++y4))
    else
     some (LO.out s2.2):Int×List zA->Option (LO (Int×List zA) (List zA) _)) (0,[]) fun o5=>
  some o5
def Zl:zg->Option (List zA):=recE (Ko)
def Kr(x:zg):Option (List zA×Int):=
 zb (zZ (⟨x.kind,x.name,x.num,x.decl,x.list⟩:zg)) fun y1=>
 bif y1 != 0 then
  some ([],y1)
 else
  zb (Zl (⟨x.kind,x.name,x.num,x.decl,x.list⟩:zg)) fun y2=>
  some (y2,0)
def Gs(x:Int):Option Int:=
 bif bif decide (x>=65)then decide (x<=90)else false then
  some (wu8 (wu8 (x - 65)+97))
 else
  some x
def Js(x:Str):Option Str:=
 need (decide (x.length<=maxLen))<|
 Zb (fun(s1:Int×List UInt8)=>
   bif decide (s1.1<(s1.2.length:Int))then
    need (decide (0<=s1.1)&&decide (s1.1<(s1.2.length:Int)))<|
    zb s1.2[s1.1.toNat]? fun y2=>
    zb (Gs (y2.toNat:Int)) fun y3=>
    need (decide (0<=s1.1)&&decide (s1.1<(s1.2.length:Int)))<|
    zb s1.2[s1.1.toNat]? fun y4=>
    zb (qD y3) fun y5=>
    some (LO.again (w64 (s1.1+1),List.set s1.2 s1.1.toNat y5))
   else
    some (LO.out s1.2):Int×List UInt8->Option (LO (Int×List UInt8) (List UInt8) _)) (0,x) fun o6=>
 some o6
def Cj(x:zA):Option Bool:=
 some (bif bif x.name==[]then(x.value.length:Int)==0 else false then !x.important else false)
def QC(x:zg):Option Bool:=
 zb (zw (bif x.name==[]then x.num==0 else false) (Cj x.decl) (default:Bool)) fun y1=>
 some (bif bif x.name==[]then x.num==0 else false then y1 else false)
def slices_Index_string(x:List Str×Str):Option Int:=
 Zb (fun(s1:Int)=>
   bif decide (s1<(x.1.length:Int))then
    zb (geti x.1 s1) fun y2=>
    bif x.2==y2 then
     some (LO.ret s1)
    else
     some (LO.again (w64 (s1+1)))
   else
    some (LO.out ()):Int->Option (LO (Int) (Unit) _)) 0 fun o3=>
 some (-1)
def slices_Contains_string(x:List Str×Str):Option Bool:=
 zb (slices_Index_string (x.1,x.2)) fun y1=>
 some (decide (y1>=0))
def QF(x:Str):Option Bool:=
 zb (slices_Contains_string ([[],[97,110,100],[111,114],[110,111,116],[111,110,108,121]],x)) fun y1=>
 zb (zw (bif !y1 then decide ((x.length:Int)<=64)else false) (Zx x) (default:Str)) fun y2=>
 zb (zw (bif bif !y1 then decide ((x.length:Int)<=64)else false then y2==x else false) (strings_IndexByte (x,0)) (default:Int)) fun y3=>
 some (bif bif bif !y1 then decide ((x.length:Int)<=64)else false then y2==x else false then decide (y3<0)else false)
def Ej(x:List Int):Option Int:=
 Zb (fun(s1:Int)=>
   bif decide (s1<(x.length:Int))then
    zb (geti x s1) fun y2=>
    bif bif decide (y2<(-1000000000000))then true else decide (y2>1000000000000)then
     some (LO.ret 8)
    else
     some (LO.again (w64 (s1+1)))
   else
    some (LO.out ()):Int->Option (LO (Int) (Unit) _)) 0 fun o3=>
 some 0
def QH(x:Int):Option Int:=
 zb (Ej [x]) fun y1=>
 some y1
def ui(x:zg):Option Bool:=
 zb (zw (!(x.kind != 1)) (ZO (⟨x.kind,x.name,x.num,x.decl,x.list⟩:zg)) (default:Bool)) fun y1=>
 bif bif bif x.kind != 1 then true else !y1 then true else(x.list.length:Int)==0 then
  some false
 else
  Zb (fun(s2:Int)=>
    bif decide (s2<(x.list.length:Int))then
     zR (X:=Int) (
       zb (geti x.list s2) fun y3=>
       zb (zw (!(decide ((y3.list.length:Int)>0))) (ZO (⟨y3.kind,[],0,y3.decl,y3.list⟩:zg)) (default:Bool)) fun y4=>
       bif bif decide ((y3.list.length:Int)>0)then true else !y4 then
        some (LX.ret (LO.ret false))
       else
        bif y3.kind==4 then
         zb (zw (!(bif decide (s2>0)then true else y3.num != 0)) (QF y3.name) (default:Bool)) fun y5=>
         bif bif bif decide (s2>0)then true else y3.num != 0 then true else !y5 then
          some (LX.ret (LO.ret false))
         else
          some (LX.out s2)
        else
         zR (X:=Bool) (
           bif y3.kind==5 then
            some (LX.out (y3.kind==5))
           else
            some (LX.out (y3.kind==6))) fun j6=>
         bif j6 then
          zb (zw (!(bif !(y3.name==[])then true else decide (y3.num<0))) (QH y3.num) (default:Int)) fun y7=>
          bif bif bif !(y3.name==[])then true else decide (y3.num<0)then true else y7 != 0 then
           some (LX.ret (LO.ret false))
          else
           some (LX.out s2)
         else
          some (LX.ret (LO.ret false))) fun j8=>
     some (LO.again (w64 (j8+1)))
    else
     some (LO.out ()):Int->Option (LO (Int) (Unit) _)) 0 fun o9=>
  some true
def Tn(x:zg):Option Bool:=
 zb (zw (decide ((x.list.length:Int)>0)) (geti x.list 0) (default:zg)) fun y1=>
 some (bif decide ((x.list.length:Int)>0)then y1.kind==4 else false)
def Kk(x:zg):Option Bool:=
 bif x.kind==3 then
  zb (ZO (⟨x.kind,x.name,x.num,x.decl,x.list⟩:zg)) fun y1=>
  zb (zw (bif y1 then(x.list.length:Int)==1 else false) (geti x.list 0) (default:zg)) fun y2=>
  zb (zw (bif y1 then(x.list.length:Int)==1 else false) (ui (⟨y2.kind,y2.name,y2.num,y2.decl,y2.list⟩:zg)) (default:Bool)) fun y3=>
  zb (zw (bif bif y1 then(x.list.length:Int)==1 else false then y3 else false) (geti x.list 0) (default:zg)) fun y4=>
  zb (zw (bif bif y1 then(x.list.length:Int)==1 else false then y3 else false) (Tn (⟨y4.kind,y4.name,y4.num,y4.decl,y4.list⟩:zg)) (default:Bool)) fun y5=>
  some (bif bif bif y1 then(x.list.length:Int)==1 else false then y3 else false then y5 else false)
 else
  zb (ui (⟨x.kind,x.name,x.num,x.decl,x.list⟩:zg)) fun y6=>
  some y6
def qd(x:zg):Option Bool:=
 zb (Kk (⟨x.kind,x.name,x.num,x.decl,x.list⟩:zg)) fun y1=>
 some (!y1)
def ZP(x:List zg):Option Int:=
 Zb (fun(s1:Int)=>
   bif decide (s1<(x.length:Int))then
    zb (geti x s1) fun y2=>
    zb (qd (⟨y2.kind,y2.name,y2.num,y2.decl,y2.list⟩:zg)) fun y3=>
    bif y3 then
     some (LO.ret s1)
    else
     some (LO.again (w64 (s1+1)))
   else
    some (LO.out ()):Int->Option (LO (Int) (Unit) _)) 0 fun o4=>
 some (-1)
def Zc(x:List zg):Option Bool:=
 zb (ZP x) fun y1=>
 some (decide (y1>=0))
def ZV(x:zg):Option Int:=
 zb (zw (bif bif x.kind==2 then decide ((x.list.length:Int)>0)else false then decide ((x.list.length:Int)<=64)else false) (Zc x.list) (default:Bool)) fun y1=>
 zb (ZO (⟨x.kind,x.name,x.num,x.decl,x.list⟩:zg)) fun y2=>
 bif bif !y2 then true else bif !(bif x.kind==1 then(x.list.length:Int)==0 else false)then !(bif bif bif x.kind==2 then decide ((x.list.length:Int)>0)else false then decide ((x.list.length:Int)<=64)else false then !y1 else false)else false then
  some 8
 else
  some 0
def QT(x:zg):Option Int:=
 zb (ZV (⟨x.kind,x.name,x.num,x.decl,x.list⟩:zg)) fun y1=>
 bif y1 != 0 then
  zb (zZ (⟨x.kind,x.name,x.num,x.decl,x.list⟩:zg)) fun y2=>
  some y2
 else
  some 0
def Ws(x:Int×List Bool):Option (Bool×Int):=
 zb (geti x.2 (w64 (w64 (x.1+1) - 1))) fun y1=>
 some (y1,w64 (x.1+1))
def Jo(Z7:(zg×Int)×Int×List Bool->Option (Bool×Int))(x:(zg×Int)×Int×List Bool):Option (Bool×Int):=
 bif x.1.1.kind==4 then
  some (bif x.1.1.name==[97,108,108]then true else x.1.1.name==[115,99,114,101,101,110],x.2.1)
 else
  bif x.1.1.kind==5 then
   some (decide (x.1.2>=x.1.1.num),x.2.1)
  else
   bif x.1.1.kind==6 then
    some (decide (x.1.2<=x.1.1.num),x.2.1)
   else
    bif x.1.1.kind==7 then
     zb (Ws (x.2.1,x.2.2)) fun y1=>
     some (y1.1,y1.2)
    else
     bif x.1.1.kind==8 then
      some (false,x.2.1)
     else
      Zb (fun(s2:(Bool×Bool×Int)×Int)=>
        bif decide (s2.1.2.2<(x.1.1.list.length:Int))then
         zb (geti x.1.1.list s2.1.2.2) fun y3=>
         zb (Z7 (((⟨y3.kind,y3.name,y3.num,y3.decl,y3.list⟩:zg),x.1.2),s2.2,x.2.2)) fun y4=>
         some (LO.again ((bif s2.1.1 then y4.1 else false,bif s2.1.2.1 then true else y4.1,w64 (s2.1.2.2+1)),y4.2))
        else
         some (LO.out ((s2.1.1,s2.1.2.1),s2.2)):(Bool×Bool×Int)×Int->Option (LO ((Bool×Bool×Int)×Int) ((Bool×Bool)×Int) _)) ((true,false,0),x.2.1) fun o5=>
      bif x.1.1.kind==1 then
       some (o5.1.1,o5.2)
      else
       bif x.1.1.kind==2 then
        some (o5.1.2,o5.2)
       else
        some (!o5.1.2,o5.2)
def Z7:(zg×Int)×Int×List Bool->Option (Bool×Int):=recE (Jo)
def Z6(x:zg×VEnv×List Bool):Option (Bool×Int):=
 zb (QT (⟨x.1.kind,x.1.name,x.1.num,x.1.decl,x.1.list⟩:zg)) fun y1=>
 bif y1 != 0 then
  some (false,y1)
 else
  zb (zw (!(bif decide (x.2.1.width<0)then true else decide (x.2.1.width>1000000000))) (Zl (⟨x.1.kind,x.1.name,x.1.num,x.1.decl,x.1.list⟩:zg)) (default:List zA)) fun y2=>
  bif bif bif decide (x.2.1.width<0)then true else decide (x.2.1.width>1000000000)then true else(x.2.2.length:Int) != (y2.length:Int)then
   some (false,2)
  else
   zb (Z7 (((⟨x.1.kind,x.1.name,x.1.num,x.1.decl,x.1.list⟩:zg),w64 (1000*x.2.1.width)),0,x.2.2)) fun y3=>
   some (y3.1,0)
def Bo(x:Str):Option Bool:=
 zb (zw (!(bif x==[]then true else decide ((x.length:Int)>64))) (Js x) (default:Str)) fun y1=>
 bif bif bif bif bif bif bif x==[]then true else decide ((x.length:Int)>64)then true else !(x==y1)then true else x==[97,110,100]then true else x==[111,114]then true else x==[110,111,116]then true else x==[111,110,108,121]then
  some false
 else
  Zb (fun(s2:Int)=>
    bif decide (s2<(x.length:Int))then
     zb (geti x s2) fun y3=>
     bif (y3.toNat:Int)==0 then
      some (LO.ret false)
     else
      some (LO.again (w64 (s2+1)))
    else
     some (LO.out ()):Int->Option (LO (Int) (Unit) _)) 0 fun o4=>
  some true
def lm(x:Int):Option Bool:=
 some (bif decide (x>=(-1000000000000))then decide (x<=1000000000000)else false)
def Dn(x:zg):Option (Bool×Bool):=
 zb (zw (!(x.kind != 1)) (QC (⟨x.kind,x.name,x.num,x.decl,x.list⟩:zg)) (default:Bool)) fun y1=>
 bif bif bif x.kind != 1 then true else !y1 then true else(x.list.length:Int)==0 then
  some (false,false)
 else
  Zb (fun(s2:Int)=>
    bif decide (s2<(x.list.length:Int))then
     zR (X:=Int) (
       zb (geti x.list s2) fun y3=>
       zb (zw (!(decide ((y3.list.length:Int)>0))) (Cj y3.decl) (default:Bool)) fun y4=>
       bif bif decide ((y3.list.length:Int)>0)then true else !y4 then
        some (LX.ret (LO.ret (false,false)))
       else
        zb (zw (bif bif s2==0 then y3.kind==4 else false then y3.num==0 else false) (Bo y3.name) (default:Bool)) fun y5=>
        bif bif bif bif s2==0 then y3.kind==4 else false then y3.num==0 else false then y5 else false then
         some (LX.out s2)
        else
         zb (zw (!(bif bif bif y3.kind != 5 then y3.kind != 6 else false then true else !(y3.name==[])then true else decide (y3.num<0))) (lm y3.num) (default:Bool)) fun y6=>
         bif bif bif bif bif y3.kind != 5 then y3.kind != 6 else false then true else !(y3.name==[])then true else decide (y3.num<0)then true else !y6 then
          some (LX.ret (LO.ret (false,false)))
         else
          some (LX.out s2)) fun j7=>
     some (LO.again (w64 (j7+1)))
    else
     some (LO.out ()):Int->Option (LO (Int) (Unit) _)) 0 fun o8=>
  zb (geti x.list 0) fun y9=>
  some (true,y9.kind==4)
def Wn(x:zg):Option Bool:=
 bif x.kind==3 then
  zb (QC (⟨x.kind,x.name,x.num,x.decl,x.list⟩:zg)) fun y1=>
  bif bif !y1 then true else(x.list.length:Int) != 1 then
   some false
  else
   zb (geti x.list 0) fun y2=>
   zb (Dn (⟨y2.kind,y2.name,y2.num,y2.decl,y2.list⟩:zg)) fun y3=>
   some (bif y3.1 then y3.2 else false)
 else
  zb (Dn (⟨x.kind,x.name,x.num,x.decl,x.list⟩:zg)) fun y4=>
  some y4.1
def Ms(x:zg):Option Bool:=
 zb (QC (⟨x.kind,x.name,x.num,x.decl,x.list⟩:zg)) fun y1=>
 bif !y1 then
  some false
 else
  bif x.kind==1 then
   some ((x.list.length:Int)==0)
  else
   bif bif bif x.kind != 2 then true else decide ((x.list.length:Int)<1)then true else decide ((x.list.length:Int)>64)then
    some false
   else
    Zb (fun(s2:Int)=>
      bif decide (s2<(x.list.length:Int))then
       zb (geti x.list s2) fun y3=>
       zb (Wn (⟨y3.kind,y3.name,y3.num,y3.decl,y3.list⟩:zg)) fun y4=>
       bif !y4 then
        some (LO.ret false)
       else
        some (LO.again (w64 (s2+1)))
      else
       some (LO.out ()):Int->Option (LO (Int) (Unit) _)) 0 fun o5=>
    some true
def qg(x:Str):Option Int:=
 zb (strings_HasPrefix (x,[45])) fun y1=>
 bif y1 then
  some 2
 else
  some 1
def Zk(x:Int×List UInt8):Option (List UInt8):=
 zb (zw (bif decide (x.1>32)then decide (x.1<127)else false) (Z8 x.1) (default:Bool)) fun y1=>
 zb (zw (bif bif decide (x.1>32)then decide (x.1<127)else false then !y1 else false) (jr x.1) (default:Bool)) fun y2=>
 bif bif bif bif decide (x.1>32)then decide (x.1<127)else false then !y1 else false then !y2 else false then
  zb (qD x.1) fun y3=>
  need (zQ x.2.length 2 1)<|
  some (x.2++[(92:UInt8),y3])
 else
  need (zQ x.2.length 1 1)<|
  zb (Uv ((wu64 x.1,16),x.2++[(92:UInt8)])) fun y4=>
  need (zQ y4.length 1 1)<|
  some (y4++[(32:UInt8)])
def Yr(x:Str×Int):Option (List UInt8):=
 Zb (fun(s1:Int×List UInt8)=>
   bif decide (s1.1<(x.1.length:Int))then
    zR (X:=Int×List UInt8) (
      zb (geti x.1 s1.1) fun y2=>
      zb (QW (y2.toNat:Int)) fun y3=>
      zb (zw (!(decide (s1.1>=x.2))&&y3) (Z8 (y2.toNat:Int)) (default:Bool)) fun y4=>
      bif bif bif y3 then bif decide (s1.1>=x.2)then true else !y4 else false then bif x.2==0 then true else !(x.1==[45])else false then
       zb (qD (y2.toNat:Int)) fun y5=>
       need (zQ s1.2.length 1 1)<|
       some (LX.out (s1.1,s1.2++[y5]))
      else
       zb (Zk ((y2.toNat:Int),s1.2)) fun y6=>
       some (LX.out (s1.1,y6))) fun j7=>
    some (LO.again (w64 (j7.1+1),j7.2))
   else
    some (LO.out s1.2):Int×List UInt8->Option (LO (Int×List UInt8) (List UInt8) _)) (0,[]) fun o8=>
 some o8
def Dk(x:Str):Option (Str×Int):=
 zb (zw (!(x==[])) (strings_IndexByte (x,0)) (default:Int)) fun y1=>
 bif bif x==[]then true else decide (y1>=0)then
  some ([],8)
 else
  zb (qg x) fun y2=>
  zb (Yr (x,y2)) fun y3=>
  bif bif decide ((x.length:Int)>4000)then true else decide ((y3.length:Int)>4000)then
   some ([],28)
  else
   some (y3,0)
def qj(x:Int×Int×List UInt8):Option (Int×List UInt8):=
 need (decide (0<=w64 (x.2.1 - 1))&&(decide (w64 (x.2.1 - 1)<20)&&decide (w64 (x.2.1 - 1)<(x.2.2.length:Int))))<|
 zb (x.2.2[(w64 (x.2.1 - 1)).toNat]?) fun y1=>
 zb (qD x.1) fun y2=>
 some (w64 (x.2.1 - 1),List.set x.2.2 (w64 (x.2.1 - 1)).toNat y2)
def kr(x:Int):Option (Str×Int):=
 zb (Ej [x]) fun y1=>
 bif y1 != 0 then
  some ([],y1)
 else
  zR (X:=Int) (
    bif decide (x<0)then
     some (LX.out (w64 (0 - x)))
    else
     some (LX.out x)) fun j2=>
  Zb (fun(s3:(Int×Int)×List UInt8×Int)=>
    bif decide (s3.1.2<3)then
     zR (X:=(Int×Int)×List UInt8×Int) (
       zR (X:=Int×List UInt8×Int) (
         bif bif Int.tmod s3.1.1 10 != 0 then true else decide (s3.2.2<20)then
          zb (qj (wu8 (w64 (48+Int.tmod s3.1.1 10)),s3.2.2,s3.2.1)) fun y4=>
          some (LX.out (s3.1.1,y4.2,y4.1))
         else
          some (LX.out (s3.1.1,s3.2.1,s3.2.2))) fun j5=>
       bif bif s3.1.2==2 then decide (j5.2.2<20)else false then
        zb (qj (46,j5.2.2,j5.2.1)) fun y6=>
        some (LX.out ((w64 (Int.tdiv j5.1 10),s3.1.2),y6.2,y6.1))
       else
        some (LX.out ((w64 (Int.tdiv j5.1 10),s3.1.2),j5.2.1,j5.2.2))) fun j7=>
     some (LO.again ((j7.1.1,w64 (j7.1.2+1)),j7.2.1,j7.2.2))
    else
     some (LO.out (s3.2.1,s3.2.2)):(Int×Int)×List UInt8×Int->Option (LO ((Int×Int)×List UInt8×Int) (List UInt8×Int) _)) ((Int.tmod j2 1000,0),List.replicate 20 (0:UInt8),20) fun o8=>
  Zb (fun(s9:Int×List UInt8×Int)=>
    zb (qj (wu8 (w64 (48+Int.tmod s9.1 10)),s9.2.2,s9.2.1)) fun y10=>
    bif decide (s9.1<10)then
     some (LO.out (y10.2,y10.1))
    else
     some (LO.again (w64 (Int.tdiv s9.1 10),y10.2,y10.1)):Int×List UInt8×Int->Option (LO (Int×List UInt8×Int) (List UInt8×Int) _)) (w64 (Int.tdiv j2 1000),o8.1,o8.2) fun o11=>
  zR (X:=List UInt8×Int) (
    bif decide (x<0)then
     zb (qj (45,o11.2,o11.1)) fun y12=>
     some (LX.out (y12.2,y12.1))
    else
     some (LX.out (o11.1,o11.2))) fun j13=>
  need (decide (0<=j13.2)&&decide (j13.2<=20)&&Nat.beq j13.1.length 20)<|
  need (decide (j13.2.toNat+(20 - j13.2.toNat)<=j13.1.length))<|
  some (List.take (20 - j13.2.toNat) (List.drop j13.2.toNat j13.1),0)
def Pn(zU:zg->Option Str)(x:List zg×Str):Option Str:=
 Zb (fun(s1:Int×List Str)=>
   bif decide (s1.1<(x.1.length:Int))then
    zb (geti x.1 s1.1) fun y2=>
    zb (zU (⟨y2.kind,y2.name,y2.num,y2.decl,y2.list⟩:zg)) fun y3=>
    need (zQ s1.2.length 1 16)<|
    some (LO.again (w64 (s1.1+1),s1.2++[y3]))
   else
    some (LO.out s1.2):Int×List Str->Option (LO (Int×List Str) (List Str) _)) (0,[]) fun o4=>
 zb (Kh (o4,x.2)) fun y5=>
 some y5
def Us(zU:zg->Option Str)(x:zg):Option Str:=
 bif x.kind==4 then
  zb (Dk x.name) fun y1=>
  some y1.1
 else
  bif x.kind==3 then
   zb (geti x.list 0) fun y2=>
   zb (zU (⟨y2.kind,y2.name,y2.num,y2.decl,y2.list⟩:zg)) fun y3=>
   need (Ue ([110,111,116,32]:Str).length y3.length)<|
   some (([110,111,116,32]:Str)++y3)
  else
   bif x.kind==2 then
    zb (Pn zU (x.list,[44,32])) fun y4=>
    some y4
   else
    bif x.kind==1 then
     zb (Pn zU (x.list,[32,97,110,100,32])) fun y5=>
     some y5
    else
     zb (kr x.num) fun y6=>
     bif x.kind==5 then
      need (Ue ([40,109,105,110,45,119,105,100,116,104,58,32]:Str).length y6.1.length)<|
      need (Ue (([40,109,105,110,45,119,105,100,116,104,58,32]:Str)++y6.1).length ([112,120,41]:Str).length)<|
      some (([40,109,105,110,45,119,105,100,116,104,58,32]:Str)++y6.1++([112,120,41]:Str))
     else
      need (Ue ([40,109,97,120,45,119,105,100,116,104,58,32]:Str).length y6.1.length)<|
      need (Ue (([40,109,97,120,45,119,105,100,116,104,58,32]:Str)++y6.1).length ([112,120,41]:Str).length)<|
      some (([40,109,97,120,45,119,105,100,116,104,58,32]:Str)++y6.1++([112,120,41]:Str))
def zU:zg->Option Str:=recE (Us)
def QI(x:(Str×Int)×List UInt8):Option (List UInt8):=
 Zb (fun(s1:Int×List UInt8)=>
   bif decide (s1.1<(x.1.1.length:Int))then
    zR (X:=Int×List UInt8) (
      zb (geti x.1.1 s1.1) fun y2=>
      zb (QW (y2.toNat:Int)) fun y3=>
      zb (zw (!(decide (s1.1>=x.1.2))&&y3) (Z8 (y2.toNat:Int)) (default:Bool)) fun y4=>
      bif bif bif y3 then bif decide (s1.1>=x.1.2)then true else !y4 else false then bif x.1.2==0 then true else !(x.1.1==[45])else false then
       zb (qD (y2.toNat:Int)) fun y5=>
       need (zQ s1.2.length 1 1)<|
       some (LX.out (s1.1,s1.2++[y5]))
      else
       zb (Zk ((y2.toNat:Int),s1.2)) fun y6=>
       some (LX.out (s1.1,y6))) fun j7=>
    some (LO.again (w64 (j7.1+1),j7.2))
   else
    some (LO.out s1.2):Int×List UInt8->Option (LO (Int×List UInt8) (List UInt8) _)) (0,x.2) fun o8=>
 some o8
def Xw(x:Unit):Option zao:=
 some (⟨[32],[60,33,45,45],[45,45,62],[58],[59],[44],[91],[93],[40],[41],[123],[125]⟩:zao)
def Qu(x:(Int×Bool)×List UInt8):Option (List UInt8):=
 zR (X:=Int×List UInt8) (
   bif decide (x.1.1<0)then
    need (zQ x.2.length 1 1)<|
    some (LX.out (w64 (0 - x.1.1),x.2++[(45:UInt8)]))
   else
    some (LX.out (x.1.1,x.2))) fun j1=>
 zb (Vv ((w64 (Int.tdiv j1.1 1000),10),j1.2)) fun y2=>
 zb (xu (w64 (1000+Int.tmod j1.1 1000),10)) fun y3=>
 need (decide (1<=(y3.length:Int)))<|
 zb (Em (List.drop 1 y3,[48])) fun y4=>
 zR (X:=List UInt8) (
   bif !(y4==[])then
    need (zQ y2.length 1 1)<|
    need (zQ (y2++[(46:UInt8)]).length y4.length 1)<|
    some (LX.out (y2++[(46:UInt8)]++y4))
   else
    bif x.1.2 then
     need (zQ y2.length ([46,48]:Str).length 1)<|
     some (LX.out (y2++([46,48]:Str)))
    else
     some (LX.out y2)) fun j5=>
 some j5
def Xr(x:zk×List UInt8):Option (List UInt8):=
 bif x.1.kind==1 then
  zb (qg x.1.text) fun y1=>
  zb (QI ((x.1.text,y1),x.2)) fun y2=>
  some y2
 else
  bif x.1.kind==2 then
   zb (qg x.1.text) fun y3=>
   zb (QI ((x.1.text,y3),x.2)) fun y4=>
   need (zQ y4.length 1 1)<|
   some (y4++[(40:UInt8)])
  else
   bif x.1.kind==3 then
    need (zQ x.2.length 1 1)<|
    zb (qg x.1.text) fun y5=>
    zb (QI ((x.1.text,y5),x.2++[(64:UInt8)])) fun y6=>
    some y6
   else
    bif x.1.kind==4 then
     zR (X:=Int×List UInt8) (
       bif x.1.flag then
        zb (qg x.1.text) fun y7=>
        some (LX.out (y7,x.2))
       else
        some (LX.out (0,x.2))) fun j8=>
     need (zQ j8.2.length 1 1)<|
     zb (QI ((x.1.text,j8.1),j8.2++[(35:UInt8)])) fun y9=>
     some y9
    else
     bif x.1.kind==5 then
      need (zQ x.2.length 1 1)<|
      need (decide (x.1.text.length<=maxLen))<|
      Zb (fun(s10:Int×List UInt8)=>
        bif decide (s10.1<(x.1.text.length:Int))then
         zR (X:=Int×List UInt8) (
           need (decide (0<=s10.1)&&decide (s10.1<(x.1.text.length:Int)))<|
           zb x.1.text[s10.1.toNat]? fun y11=>
           zb (strings_IndexByte ([10,12,13,34,92],(y11.toNat:Int))) fun y12=>
           bif decide (y12>=0)then
            zb (Zk ((y11.toNat:Int),s10.2)) fun y13=>
            some (LX.out (s10.1,y13))
           else
            zb (qD (y11.toNat:Int)) fun y14=>
            need (zQ s10.2.length 1 1)<|
            some (LX.out (s10.1,s10.2++[y14]))) fun j15=>
         some (LO.again (w64 (j15.1+1),j15.2))
        else
         some (LO.out s10.2):Int×List UInt8->Option (LO (Int×List UInt8) (List UInt8) _)) (0,x.2++[(34:UInt8)]) fun o16=>
      need (zQ o16.length 1 1)<|
      some (o16++[(34:UInt8)])
     else
      bif x.1.kind==7 then
       need (zQ x.2.length ([117,114,108,40]:Str).length 1)<|
       need (decide (x.1.text.length<=maxLen))<|
       Zb (fun(s17:Int×List UInt8)=>
         bif decide (s17.1<(x.1.text.length:Int))then
          zR (X:=Int×List UInt8) (
            need (decide (0<=s17.1)&&decide (s17.1<(x.1.text.length:Int)))<|
            zb x.1.text[s17.1.toNat]? fun y18=>
            zb (zw (!(decide ((y18.toNat:Int)<=32))) (strings_IndexByte ([34,39,40,41,92,127],(y18.toNat:Int))) (default:Int)) fun y19=>
            bif bif decide ((y18.toNat:Int)<=32)then true else decide (y19>=0)then
             zb (Zk ((y18.toNat:Int),s17.2)) fun y20=>
             some (LX.out (s17.1,y20))
            else
             zb (qD (y18.toNat:Int)) fun y21=>
             need (zQ s17.2.length 1 1)<|
             some (LX.out (s17.1,s17.2++[y21]))) fun j22=>
          some (LO.again (w64 (j22.1+1),j22.2))
         else
          some (LO.out s17.2):Int×List UInt8->Option (LO (Int×List UInt8) (List UInt8) _)) (0,x.2++([117,114,108,40]:Str)) fun o23=>
       need (zQ o23.length 1 1)<|
       some (o23++[(41:UInt8)])
      else
       bif x.1.kind==9 then
        need (zQ x.2.length x.1.text.length 1)<|
        some (x.2++x.1.text)
       else
        bif x.1.kind==10 then
         zb (Qu ((x.1.num, !x.1.flag),x.2)) fun y24=>
         some y24
        else
         bif x.1.kind==11 then
          zb (Qu ((x.1.num,false),x.2)) fun y25=>
          need (zQ y25.length 1 1)<|
          some (y25++[(37:UInt8)])
         else
          bif x.1.kind==12 then
           zb (Qu ((x.1.num, !x.1.flag),x.2)) fun y26=>
           zb (geti x.1.unit 0) fun y27=>
           need (decide (1<=(x.1.unit.length:Int))|| !(ibOr IntKind.u8 (y27.toNat:Int) 32==101))<|
           zb (zw (ibOr IntKind.u8 (y27.toNat:Int) 32==101) (Aj (List.drop 1 x.1.unit)) (default:Bool)) fun y28=>
           need (decide (1<=(x.1.unit.length:Int))|| !(bif ibOr IntKind.u8 (y27.toNat:Int) 32==101 then y28 else false))<|
           zb (zw (bif ibOr IntKind.u8 (y27.toNat:Int) 32==101 then y28 else false) (strings_HasPrefix (List.drop 1 x.1.unit,[45,45])) (default:Bool)) fun y29=>
           bif bif bif ibOr IntKind.u8 (y27.toNat:Int) 32==101 then y28 else false then !y29 else false then
            zb (geti x.1.unit 0) fun y30=>
            zb (Zk ((y30.toNat:Int),y26)) fun y31=>
            need (decide (1<=(x.1.unit.length:Int)))<|
            zb (QI ((List.drop 1 x.1.unit,0),y31)) fun y32=>
            some y32
           else
            zb (qg x.1.unit) fun y33=>
            zb (QI ((x.1.unit,y33),y26)) fun y34=>
            some y34
          else
           zb (Xw ()) fun y35=>
           zb (geti [y35.e0,y35.e1,y35.e2,y35.e3,y35.e4,y35.e5,y35.e6,y35.e7,y35.e8,y35.e9,y35.e10,y35.e11] (wu8 (x.1.kind - 13))) fun y36=>
           need (zQ x.2.length y36.length 1)<|
           some (x.2++y36)
def ZE(x:za):Option za:=
 Zb (fun(s1:za)=>
   need (decide (0<=s1.at_)&&decide (s1.at_<=(s1.s.length:Int)))<|
   zb (strings_HasPrefix (List.drop s1.at_.toNat s1.s,[47,42])) fun y2=>
   bif y2 then
    need (decide (0<=w64 (s1.at_+2))&&decide (w64 (s1.at_+2)<=(s1.s.length:Int)))<|
    zb (Si (List.drop (w64 (s1.at_+2)).toNat s1.s,[42,47])) fun y3=>
    bif decide (y3<0)then
     some (LO.ret (⟨s1.s,(s1.s.length:Int)⟩:za))
    else
     some (LO.again (⟨s1.s,w64 (s1.at_+w64 (y3+4))⟩:za))
   else
    some (LO.out s1):za->Option (LO (za) (za) _)) x fun o4=>
 some o4
def zf(x:Int×za):Option Int:=
 bif decide (w64 (x.2.at_+x.1)<(x.2.s.length:Int))then
  zb (geti x.2.s (w64 (x.2.at_+x.1))) fun y1=>
  some (w64 (y1.toNat:Int))
 else
  some (-1)
def Zz(x:Int):Option Bool:=
 some (bif bif x==32 then true else x==9 then true else x==10)
def Za(x:za):Option za:=
 Zb (fun(s1:za)=>
   zb (zf (0,s1)) fun y2=>
   zb (Zz y2) fun y3=>
   bif y3 then
    some (LO.again (⟨s1.s,w64 (s1.at_+1)⟩:za))
   else
    some (LO.out s1):za->Option (LO (za) (za) _)) x fun o4=>
 some o4
def QM(x:Int):Option (List UInt8):=
 bif decide (wu32 x<=2047)then
  zb (qD (ibOr IntKind.u8 192 (wu8 (bg IntKind.i32 x 6)))) fun y1=>
  zb (qD (ibOr IntKind.u8 128 (ig IntKind.u8 (wu8 x) 63))) fun y2=>
  need (zQ 0 2 1)<|
  some [y1,y2]
 else
  zR (X:=Bool) (
    bif decide (wu32 x<55296)then
     some (LX.out (decide (wu32 x<55296)))
    else
     some (LX.out (bif decide (57343<wu32 x)then decide (wu32 x<=65535)else false))) fun j3=>
  bif j3 then
   zb (qD (ibOr IntKind.u8 224 (wu8 (bg IntKind.i32 x 12)))) fun y4=>
   zb (qD (ibOr IntKind.u8 128 (ig IntKind.u8 (wu8 (bg IntKind.i32 x 6)) 63))) fun y5=>
   zb (qD (ibOr IntKind.u8 128 (ig IntKind.u8 (wu8 x) 63))) fun y6=>
   need (zQ 0 3 1)<|
   some [y4,y5,y6]
  else
   bif bif decide (wu32 x>65535)then decide (wu32 x<=1114111)else false then
    zb (qD (ibOr IntKind.u8 240 (wu8 (bg IntKind.i32 x 18)))) fun y7=>
    zb (qD (ibOr IntKind.u8 128 (ig IntKind.u8 (wu8 (bg IntKind.i32 x 12)) 63))) fun y8=>
    zb (qD (ibOr IntKind.u8 128 (ig IntKind.u8 (wu8 (bg IntKind.i32 x 6)) 63))) fun y9=>
    zb (qD (ibOr IntKind.u8 128 (ig IntKind.u8 (wu8 x) 63))) fun y10=>
    need (zQ 0 4 1)<|
    some [y7,y8,y9,y10]
   else
    need (zQ 0 3 1)<|
    some [(239:UInt8),(191:UInt8),(189:UInt8)]
def qV(x:Int):Option (List UInt8):=
 bif decide (wu32 x<=127)then
  zb (qD (wu8 x)) fun y1=>
  need (zQ 0 1 1)<|
  some [y1]
 else
  zb (QM x) fun y2=>
  some y2
def qQ(x:Int×Int×Int):Option Bool:=
 some (bif decide (x.2.1<=x.1)then decide (x.1<=x.2.2)else false)
def ZL(x:Int):Option Bool:=
 zb (qQ (x,48,57)) fun y1=>
 some y1
def Ih(x:Int):Option Int:=
 zb (ZL x) fun y1=>
 bif y1 then
  some (w64 (x - 48))
 else
  zb (zw (x != (-1)) (qQ (ibOr IntKind.i64 x 32,97,102)) (default:Bool)) fun y2=>
  bif bif bif bif x != (-1)then y2 else false then decide (x>64)else false then decide (x<128)else false then
   some (w64 (w64 (ibOr IntKind.i64 x 32 - 97)+10))
  else
   some (-1)
def Z0(x:za):Option (za×List UInt8):=
 zb (zf (0,(⟨x.s,w64 (x.at_+1)⟩:za))) fun y1=>
 bif y1==(-1)then
  zb (qV 65533) fun y2=>
  some ((⟨x.s,w64 (x.at_+1)⟩:za),y2)
 else
  zb (Ih y1) fun y3=>
  bif decide (y3<0)then
   zb (qD (wu8 y1)) fun y4=>
   need (zQ 0 1 1)<|
   some ((⟨x.s,w64 (w64 (x.at_+1)+1)⟩:za),[y4])
  else
   Zb (fun(s5:(Int×Int)×za)=>
     bif decide (s5.1.2<6)then
      zb (zf (0,s5.2)) fun y6=>
      zb (Ih y6) fun y7=>
      bif decide (y7<0)then
       some (LO.out (s5.1.1,s5.2))
      else
       some (LO.again ((ibOr IntKind.i64 (Gu IntKind.i64 s5.1.1 4) y7,w64 (s5.1.2+1)),(⟨s5.2.s,w64 (s5.2.at_+1)⟩:za)))
     else
      some (LO.out (s5.1.1,s5.2)):(Int×Int)×za->Option (LO ((Int×Int)×za) (Int×za) _)) ((0,0),(⟨x.s,w64 (x.at_+1)⟩:za)) fun o8=>
   zR (X:=Int×za) (
     zb (zf (0,o8.2)) fun y9=>
     zb (Zz y9) fun y10=>
     bif y10 then
      some (LX.out (o8.1,(⟨o8.2.s,w64 (o8.2.at_+1)⟩:za)))
     else
      some (LX.out (o8.1,o8.2))) fun j11=>
   zR (X:=Int) (
     bif j11.1==0 then
      some (LX.out 65533)
     else
      some (LX.out j11.1)) fun j12=>
   zb (qV (w32 j12)) fun y13=>
   some (j11.2,y13)
def QN(x:Int×List UInt8):Option (List UInt8):=
 bif decide (wu32 x.1<=2047)then
  zb (qD (ibOr IntKind.u8 192 (wu8 (bg IntKind.i32 x.1 6)))) fun y1=>
  zb (qD (ibOr IntKind.u8 128 (ig IntKind.u8 (wu8 x.1) 63))) fun y2=>
  need (zQ x.2.length 2 1)<|
  some (x.2++[y1,y2])
 else
  zR (X:=Bool×List UInt8) (
    bif decide (wu32 x.1<55296)then
     some (LX.out (decide (wu32 x.1<55296),x.2))
    else
     some (LX.out (bif decide (57343<wu32 x.1)then decide (wu32 x.1<=65535)else false,x.2))) fun j3=>
  bif j3.1 then
   zb (qD (ibOr IntKind.u8 224 (wu8 (bg IntKind.i32 x.1 12)))) fun y4=>
   zb (qD (ibOr IntKind.u8 128 (ig IntKind.u8 (wu8 (bg IntKind.i32 x.1 6)) 63))) fun y5=>
   zb (qD (ibOr IntKind.u8 128 (ig IntKind.u8 (wu8 x.1) 63))) fun y6=>
   need (zQ j3.2.length 3 1)<|
   some (j3.2++[y4,y5,y6])
  else
   bif bif decide (wu32 x.1>65535)then decide (wu32 x.1<=1114111)else false then
    zb (qD (ibOr IntKind.u8 240 (wu8 (bg IntKind.i32 x.1 18)))) fun y7=>
    zb (qD (ibOr IntKind.u8 128 (ig IntKind.u8 (wu8 (bg IntKind.i32 x.1 12)) 63))) fun y8=>
    zb (qD (ibOr IntKind.u8 128 (ig IntKind.u8 (wu8 (bg IntKind.i32 x.1 6)) 63))) fun y9=>
    zb (qD (ibOr IntKind.u8 128 (ig IntKind.u8 (wu8 x.1) 63))) fun y10=>
    need (zQ j3.2.length 4 1)<|
    some (j3.2++[y7,y8,y9,y10])
   else
    need (zQ j3.2.length 3 1)<|
    some (j3.2++[(239:UInt8),(191:UInt8),(189:UInt8)])
def qW(x:Int×List UInt8):Option (List UInt8):=
 bif decide (wu32 x.1<=127)then
  zb (qD (wu8 x.1)) fun y1=>
  need (zQ x.2.length 1 1)<|
  some (x.2++[y1])
 else
  zb (QN (x.1,x.2)) fun y2=>
  some y2
def zV(x:za×List UInt8):Option (za×List UInt8):=
 zb (zf (0,(⟨x.1.s,w64 (x.1.at_+1)⟩:za))) fun y1=>
 bif y1==(-1)then
  zb (qW (65533,x.2)) fun y2=>
  some ((⟨x.1.s,w64 (x.1.at_+1)⟩:za),y2)
 else
  zb (Ih y1) fun y3=>
  bif decide (y3<0)then
   zb (qD (wu8 y1)) fun y4=>
   need (zQ x.2.length 1 1)<|
   some ((⟨x.1.s,w64 (w64 (x.1.at_+1)+1)⟩:za),x.2++[y4])
  else
   Zb (fun(s5:(Int×Int)×za)=>
     bif decide (s5.1.2<6)then
      zb (zf (0,s5.2)) fun y6=>
      zb (Ih y6) fun y7=>
      bif decide (y7<0)then
       some (LO.out (s5.1.1,s5.2))
      else
       some (LO.again ((ibOr IntKind.i64 (Gu IntKind.i64 s5.1.1 4) y7,w64 (s5.1.2+1)),(⟨s5.2.s,w64 (s5.2.at_+1)⟩:za)))
     else
      some (LO.out (s5.1.1,s5.2)):(Int×Int)×za->Option (LO ((Int×Int)×za) (Int×za) _)) ((0,0),(⟨x.1.s,w64 (x.1.at_+1)⟩:za)) fun o8=>
   zR (X:=Int×za×List UInt8) (
     zb (zf (0,o8.2)) fun y9=>
     zb (Zz y9) fun y10=>
     bif y10 then
      some (LX.out (o8.1,(⟨o8.2.s,w64 (o8.2.at_+1)⟩:za),x.2))
     else
      some (LX.out (o8.1,o8.2,x.2))) fun j11=>
   zR (X:=Int×List UInt8) (
     bif j11.1==0 then
      some (LX.out (65533,j11.2.2))
     else
      some (LX.out (j11.1,j11.2.2))) fun j12=>
   zb (qW (w32 j12.1,j12.2)) fun y13=>
   some (j11.2.1,y13)
def qM(x:za):Option (zk×za):=
 zb (zf (0,x)) fun y1=>
 Zb (fun(s2:za×zk×List UInt8)=>
   zb (zf (0,s2.1)) fun y3=>
   bif y3==(-1)then
    some (LO.out (s2.1,s2.2.1,s2.2.2))
   else
    bif y3==y1 then
     some (LO.out ((⟨s2.1.s,w64 (s2.1.at_+1)⟩:za),s2.2.1,s2.2.2))
    else
     bif y3==10 then
      some (LO.ret ((⟨6,[],0,[],false⟩:zk),s2.1))
     else
      zb (zw (y3==92) (zf (1,s2.1)) (default:Int)) fun y4=>
      zb (zw (!(y4==(-1))&&y3==92) (zf (1,s2.1)) (default:Int)) fun y5=>
      bif bif y3==92 then bif y4==(-1)then true else y5==10 else false then
       some (LO.again ((⟨s2.1.s,if(s2.1.s.length:Int)<w64 (s2.1.at_+2)then(s2.1.s.length:Int)else w64 (s2.1.at_+2)⟩:za),s2.2.1,s2.2.2))
      else
       bif y3==92 then
        zb (zV (s2.1,s2.2.2)) fun y6=>
        some (LO.again (y6.1,s2.2.1,y6.2))
       else
        zb (qD (wu8 y3)) fun y7=>
        need (zQ s2.2.2.length 1 1)<|
        some (LO.again ((⟨s2.1.s,w64 (s2.1.at_+1)⟩:za),s2.2.1,s2.2.2++[y7])):za×zk×List UInt8->Option (LO (za×zk×List UInt8) (za×zk×List UInt8) _)) ((⟨x.s,w64 (x.at_+1)⟩:za),(⟨0,[],0,[],false⟩:zk),[]) fun o8=>
 some ((⟨5,o8.2.2,0,[],false⟩:zk),o8.1)
def Un(x:Int):Option Bool:=
 zb (qQ (ibOr IntKind.i64 x 32,97,122)) fun y1=>
 some (bif bif bif bif y1 then decide (x<128)else false then decide (x>64)else false then true else x==95 then true else decide (x>=128))
def ik(x:Int):Option Bool:=
 zb (Un x) fun y1=>
 zb (zw (!y1) (ZL x) (default:Bool)) fun y2=>
 some (bif bif y1 then true else y2 then true else x==45)
def zK(x:Int×za):Option Bool:=
 zb (zf (x.1,x.2)) fun y1=>
 zb (zw (y1==92) (zf (w64 (x.1+1),x.2)) (default:Int)) fun y2=>
 some (bif y1==92 then y2 != 10 else false)
def z8(x:Int×za):Option Bool:=
 zb (zf (x.1,x.2)) fun y1=>
 bif y1 != 45 then
  zb (zf (x.1,x.2)) fun y2=>
  zb (Un y2) fun y3=>
  zb (zw (!y3) (zK (x.1,x.2)) (default:Bool)) fun y4=>
  some (bif y3 then true else y4)
 else
  zb (zf (w64 (x.1+1),x.2)) fun y5=>
  zb (Un y5) fun y6=>
  zb (zw (!y6) (zf (w64 (x.1+1),x.2)) (default:Int)) fun y7=>
  zb (zw (!(bif y6 then true else y7==45)) (zK (w64 (x.1+1),x.2)) (default:Bool)) fun y8=>
  some (bif bif y6 then true else y7==45 then true else y8)
def Zd(x:za):Option (Str×za):=
 Zb (fun(s1:za×List UInt8)=>
   zb (zf (0,s1.1)) fun y2=>
   zb (ik y2) fun y3=>
   bif y3 then
    zb (qD (wu8 y2)) fun y4=>
    need (zQ s1.2.length 1 1)<|
    some (LO.again ((⟨s1.1.s,w64 (s1.1.at_+1)⟩:za),s1.2++[y4]))
   else
    zb (zw (y2 != (-1)) (zK (0,s1.1)) (default:Bool)) fun y5=>
    bif bif y2 != (-1)then y5 else false then
     zb (zV (s1.1,s1.2)) fun y6=>
     some (LO.again (y6.1,y6.2))
    else
     some (LO.ret (s1.2,s1.1)):za×List UInt8->Option (LO (za×List UInt8) (Unit) _)) (x,[]) fun o7=>
 none
def QR(x:za):Option Bool:=
 zR (X:=Int) (
   zb (zf (0,x)) fun y1=>
   bif bif y1==43 then true else y1==45 then
    some (LX.out 1)
   else
    some (LX.out 0)) fun j2=>
 zR (X:=Int) (
   zb (zf (j2,x)) fun y3=>
   bif y3==46 then
    some (LX.out (w64 (j2+1)))
   else
    some (LX.out j2)) fun j4=>
 zb (zf (j4,x)) fun y5=>
 zb (ZL y5) fun y6=>
 some y6
def Zt(x:za):Option za:=
 Zb (fun(s1:za)=>
   zb (zf (0,s1)) fun y2=>
   zb (ZL y2) fun y3=>
   bif y3 then
    some (LO.again (⟨s1.s,w64 (s1.at_+1)⟩:za))
   else
    some (LO.out s1):za->Option (LO (za) (za) _)) x fun o4=>
 some o4
def qo(x:za):Option (Bool×za):=
 zR (X:=za) (
   zb (zf (0,x)) fun y1=>
   bif bif y1==43 then true else y1==45 then
    some (LX.out (⟨x.s,w64 (x.at_+1)⟩:za))
   else
    some (LX.out x)) fun j2=>
 zb (Zt j2) fun y3=>
 zR (X:=Bool×za) (
   zb (zf (0,y3)) fun y4=>
   zb (zw (y4==46) (zf (1,y3)) (default:Int)) fun y5=>
   zb (zw (y4==46) (ZL y5) (default:Bool)) fun y6=>
   bif bif y4==46 then y6 else false then
    zb (Zt (⟨y3.s,w64 (y3.at_+1)⟩:za)) fun y7=>
    some (LX.out (false,y7))
   else
    some (LX.out (true,y3))) fun j8=>
 zR (X:=Bool×za) (
   zb (zf (0,j8.2)) fun y9=>
   zb (zw (!(y9==101)) (zf (0,j8.2)) (default:Int)) fun y10=>
   bif bif y9==101 then true else y10==69 then
    zR (X:=(Bool×Int)×za) (
      zb (zf (1,j8.2)) fun y11=>
      bif bif y11==43 then true else y11==45 then
       some (LX.out ((j8.1,2),j8.2))
      else
       some (LX.out ((j8.1,1),j8.2))) fun j12=>
    zb (zf (j12.1.2,j12.2)) fun y13=>
    zb (ZL y13) fun y14=>
    bif y14 then
     zb (Zt (⟨j12.2.s,w64 (j12.2.at_+j12.1.2)⟩:za)) fun y15=>
     some (LX.out (false,y15))
    else
     some (LX.out (j12.1.1,j12.2))
   else
    some (LX.out (j8.1,j8.2))) fun j16=>
 some (j16.1,j16.2)
def Q7(x:Str):Option Int:=
 zb (geti x 0) fun y1=>
 zb (Oj (x,[43,45])) fun y2=>
 zR (X:=Str×Int) (
   zb (oq (y2,[101,69])) fun y3=>
   bif decide (y3>=0)then
    need (decide (0<=w64 (y3+1))&&decide (w64 (y3+1)<=(y2.length:Int)))<|
    zb (Oj (List.drop (w64 (y3+1)).toNat y2,[43,45])) fun y4=>
    need (decide (y4.length<=maxLen))<|
    Zb (fun(s5:Int×Int)=>
      bif decide (s5.2<(y4.length:Int))then
       need (decide (0<=s5.2)&&decide (s5.2<(y4.length:Int)))<|
       zb y4[s5.2.toNat]? fun y6=>
       some (LO.again (if 1048576<w64 (w64 (10*s5.1)+w64 (wu8 ((y6.toNat:Int) - 48)))then 1048576 else w64 (w64 (10*s5.1)+w64 (wu8 ((y6.toNat:Int) - 48))),w64 (s5.2+1)))
      else
       some (LO.out s5.1):Int×Int->Option (LO (Int×Int) (Int) _)) (0,0) fun o7=>
    zR (X:=Str×Int×Int) (
      zb (geti y2 (w64 (y3+1))) fun y8=>
      bif (y8.toNat:Int)==45 then
       some (LX.out (y2,3,w64 (0 - o7)))
      else
       some (LX.out (y2,3,o7))) fun j9=>
    need (decide (0<=y3)&&decide (y3<=(j9.1.length:Int)))<|
    some (LX.out (List.take y3.toNat j9.1,w64 (j9.2.1+j9.2.2)))
   else
    some (LX.out (y2,3))) fun j10=>
 zb (cutF (j10.1,[46])) fun y11=>
 need (Ue y11.1.length y11.2.1.length)<|
 zR (X:=Str×Int) (
   bif decide (w64 (j10.2 - (y11.2.1.length:Int))<0)then
    need (decide (0<=(if w64 (((y11.1++y11.2.1).length:Int)+w64 (j10.2 - (y11.2.1.length:Int)))>0 then w64 (((y11.1++y11.2.1).length:Int)+w64 (j10.2 - (y11.2.1.length:Int)))else 0))&&decide ((if w64 (((y11.1++y11.2.1).length:Int)+w64 (j10.2 - (y11.2.1.length:Int)))>0 then w64 (((y11.1++y11.2.1).length:Int)+w64 (j10.2 - (y11.2.1.length:Int)))else 0)<=((y11.1++y11.2.1).length:Int)))<|
    some (LX.out (List.take (if w64 (((y11.1++y11.2.1).length:Int)+w64 (j10.2 - (y11.2.1.length:Int)))>0 then w64 (((y11.1++y11.2.1).length:Int)+w64 (j10.2 - (y11.2.1.length:Int)))else 0).toNat (y11.1++y11.2.1),w64 (j10.2 - (y11.2.1.length:Int))))
   else
    some (LX.out (y11.1++y11.2.1,w64 (j10.2 - (y11.2.1.length:Int))))) fun j12=>
 need (decide (j12.1.length<=maxLen))<|
 Zb (fun(s13:Int×Int)=>
   bif decide (s13.2<(j12.1.length:Int))then
    need (decide (0<=s13.2)&&decide (s13.2<(j12.1.length:Int)))<|
    zb j12.1[s13.2.toNat]? fun y14=>
    some (LO.again (if 1000000000000<w64 (w64 (10*s13.1)+w64 (wu8 ((y14.toNat:Int) - 48)))then 1000000000000 else w64 (w64 (10*s13.1)+w64 (wu8 ((y14.toNat:Int) - 48))),w64 (s13.2+1)))
   else
    some (LO.out s13.1):Int×Int->Option (LO (Int×Int) (Int) _)) (0,0) fun o15=>
 Zb (fun(s16:Int×Int)=>
   bif bif bif decide (s16.1>0)then decide (s16.2>0)else false then decide (s16.2<1000000000000)else false then
    some (LO.again (w64 (s16.1 - 1),if 1000000000000<w64 (10*s16.2)then 1000000000000 else w64 (10*s16.2)))
   else
    some (LO.out s16.2):Int×Int->Option (LO (Int×Int) (Int) _)) (j12.2,o15) fun o17=>
 zR (X:=Int) (
   bif (y1.toNat:Int)==45 then
    some (LX.out (w64 (0 - o17)))
   else
    some (LX.out o17)) fun j18=>
 some j18
def qp(x:za):Option (zk×za):=
 zb (qo x) fun y1=>
 need (decide (0<=x.at_)&&(decide (x.at_<=y1.2.at_)&&decide (y1.2.at_<=(y1.2.s.length:Int))))<|
 zb (Q7 (List.drop x.at_.toNat (List.take y1.2.at_.toNat y1.2.s))) fun y2=>
 zR (X:=za×zk×zk) (
   zb (z8 (0,y1.2)) fun y3=>
   bif y3 then
    zb (Zd y1.2) fun y4=>
    some (LX.out (y4.2,(⟨0,[],0,[],false⟩:zk),(⟨12,[],y2,y4.1,y1.1⟩:zk)))
   else
    zb (zf (0,y1.2)) fun y5=>
    bif y5==37 then
     some (LX.out ((⟨y1.2.s,w64 (y1.2.at_+1)⟩:za),(⟨0,[],0,[],false⟩:zk),(⟨11,[],y2,[],false⟩:zk)))
    else
     some (LX.out (y1.2,(⟨0,[],0,[],false⟩:zk),(⟨10,[],y2,[],y1.1⟩:zk)))) fun j6=>
 some (j6.2.2,j6.1)
def qh(x:za):Option (zk×za):=
 Zb (fun(s1:za×zk)=>
   zb (zf (0,s1.1)) fun y2=>
   bif y2==(-1)then
    some (LO.ret ((⟨8,[],0,[],false⟩:zk),s1.1))
   else
    zb (zK (0,s1.1)) fun y3=>
    bif y3 then
     zb (Z0 s1.1) fun y4=>
     some (LO.again (y4.1,s1.2))
    else
     zb (geti s1.1.s (w64 (w64 (s1.1.at_+1) - 1))) fun y5=>
     bif (y5.toNat:Int)==41 then
      some (LO.ret ((⟨8,[],0,[],false⟩:zk),(⟨s1.1.s,w64 (s1.1.at_+1)⟩:za)))
     else
      some (LO.again ((⟨s1.1.s,w64 (s1.1.at_+1)⟩:za),s1.2)):za×zk->Option (LO (za×zk) (Unit) _)) (x,(⟨0,[],0,[],false⟩:zk)) fun o6=>
 none
def Q6(x:za):Option (zk×za):=
 zb (Za x) fun y1=>
 Zb (fun(s2:za×zk×List UInt8)=>
   zb (zf (0,s2.1)) fun y3=>
   zR (X:=Int×za×zk×List UInt8) (
     zb (Zz y3) fun y4=>
     bif y4 then
      zb (Za s2.1) fun y5=>
      zb (zf (0,y5)) fun y6=>
      bif bif y6 != 41 then y6 != (-1)else false then
       zb (qh y5) fun y7=>
       some (LX.ret (LO.ret (y7.1,y7.2)))
      else
       some (LX.out (y6,y5,s2.2.1,s2.2.2))
     else
      some (LX.out (y3,s2.1,s2.2.1,s2.2.2))) fun j8=>
   bif j8.1==(-1)then
    some (LO.ret ((⟨7,j8.2.2.2,0,[],false⟩:zk),j8.2.1))
   else
    bif j8.1==41 then
     some (LO.ret ((⟨7,j8.2.2.2,0,[],false⟩:zk),(⟨j8.2.1.s,w64 (j8.2.1.at_+1)⟩:za)))
    else
     zb (zw (!(bif bif bif bif j8.1==34 then true else j8.1==39 then true else j8.1==40 then true else decide (j8.1<=8)then true else j8.1==11)) (qQ (j8.1,14,31)) (default:Bool)) fun y9=>
     bif bif bif bif bif bif bif j8.1==34 then true else j8.1==39 then true else j8.1==40 then true else decide (j8.1<=8)then true else j8.1==11 then true else y9 then true else j8.1==127 then
      zb (qh j8.2.1) fun y10=>
      some (LO.ret (y10.1,y10.2))
     else
      bif j8.1 != 92 then
       zb (qD (wu8 j8.1)) fun y11=>
       need (zQ j8.2.2.2.length 1 1)<|
       some (LO.again ((⟨j8.2.1.s,w64 (j8.2.1.at_+1)⟩:za),j8.2.2.1,j8.2.2.2++[y11]))
      else
       zb (zK (0,j8.2.1)) fun y12=>
       bif y12 then
        zb (zV (j8.2.1,j8.2.2.2)) fun y13=>
        some (LO.again (y13.1,j8.2.2.1,y13.2))
       else
        zb (qh j8.2.1) fun y14=>
        some (LO.ret (y14.1,y14.2)):za×zk×List UInt8->Option (LO (za×zk×List UInt8) (Unit) _)) (y1,(⟨0,[],0,[],false⟩:zk),[]) fun o15=>
 none
def Qg(x:za):Option (zk×za):=
 zb (Zd x) fun y1=>
 zb (zf (0,y1.2)) fun y2=>
 bif y2 != 40 then
  some ((⟨1,y1.1,0,[],false⟩:zk),y1.2)
 else
  zR (X:=za×zk) (
    zb (ZJ (y1.1,[117,114,108])) fun y3=>
    bif y3 then
     zb (Za (⟨y1.2.s,w64 (y1.2.at_+1)⟩:za)) fun y4=>
     zb (zf (0,y4)) fun y5=>
     bif bif y5 != 34 then y5 != 39 else false then
      zb (Q6 (⟨y1.2.s,w64 (y1.2.at_+1)⟩:za)) fun y6=>
      some (LX.ret (y6.1,y6.2))
     else
      some (LX.out ((⟨y1.2.s,w64 (y1.2.at_+1)⟩:za),(⟨0,[],0,[],false⟩:zk)))
    else
     some (LX.out ((⟨y1.2.s,w64 (y1.2.at_+1)⟩:za),(⟨0,[],0,[],false⟩:zk)))) fun j7=>
  some ((⟨2,y1.1,0,[],false⟩:zk),j7.1)
def QE(x:za):Option (zk×za):=
 zb (zf (0,x)) fun y1=>
 need (decide (0<=x.at_)&&decide (x.at_<=(x.s.length:Int)))<|
 zb (Zz y1) fun y2=>
 bif y2 then
  zb (Za x) fun y3=>
  some ((⟨13,[],0,[],false⟩:zk),y3)
 else
  bif bif y1==34 then true else y1==39 then
   zb (qM x) fun y4=>
   some (y4.1,y4.2)
  else
   zb (zw (y1==35) (zf (1,x)) (default:Int)) fun y5=>
   zb (zw (y1==35) (ik y5) (default:Bool)) fun y6=>
   zb (zw (!y6&&y1==35) (zK (1,x)) (default:Bool)) fun y7=>
   bif bif y1==35 then bif y6 then true else y7 else false then
    zb (z8 (1,x)) fun y8=>
    zb (Zd (⟨x.s,w64 (x.at_+1)⟩:za)) fun y9=>
    some ((⟨4,y9.1,0,[],y8⟩:zk),y9.2)
   else
    zb (QR x) fun y10=>
    bif y10 then
     zb (qp x) fun y11=>
     some (y11.1,y11.2)
    else
     zb (strings_HasPrefix (List.drop x.at_.toNat x.s,[45,45,62])) fun y12=>
     bif y12 then
      some ((⟨15,[],0,[],false⟩:zk),(⟨x.s,w64 (x.at_+3)⟩:za))
     else
      zb (strings_HasPrefix (List.drop x.at_.toNat x.s,[60,33,45,45])) fun y13=>
      bif y13 then
       some ((⟨14,[],0,[],false⟩:zk),(⟨x.s,w64 (x.at_+4)⟩:za))
      else
       zb (zw (y1==64) (z8 (1,x)) (default:Bool)) fun y14=>
       bif bif y1==64 then y14 else false then
        zb (Zd (⟨x.s,w64 (x.at_+1)⟩:za)) fun y15=>
        some ((⟨3,y15.1,0,[],false⟩:zk),y15.2)
       else
        zb (z8 (0,x)) fun y16=>
        bif y16 then
         zb (Qg x) fun y17=>
         some (y17.1,y17.2)
        else
         zb (strings_IndexByte ([58,59,44,91,93,40,41,123,125],wu8 y1)) fun y18=>
         bif decide (y18>=0)then
          some ((⟨wu8 (16+wu8 y18),[],0,[],false⟩:zk),(⟨x.s,w64 (x.at_+1)⟩:za))
         else
          need (decide (1<=((List.drop x.at_.toNat x.s).length:Int)))<|
          some ((⟨9,List.take 1 (List.drop x.at_.toNat x.s),0,[],false⟩:zk),(⟨x.s,w64 (x.at_+1)⟩:za))
def Gy(x:(zk×Int×Int)×List zk):Option (List zk):=
 need (zQ x.2.length 1 56)<|
 some (x.2++[x.1.1])
def Ls(x:Str):Option (Int×List zk):=
 zb (Vl x) fun y1=>
 bif y1.2 != 0 then
  some (y1.2,[])
 else
  zb (ZE (⟨y1.1,0⟩:za)) fun y2=>
  Zb (fun(s3:Int×List zk×za)=>
    bif decide (s3.2.2.at_<(y1.1.length:Int))then
     bif decide (w64 (s3.1+1)>1500)then
      some (LO.ret (4,s3.2.1))
     else
      zb (QE s3.2.2) fun y4=>
      zb (Gy ((y4.1,s3.2.2.at_,y4.2.at_),s3.2.1)) fun y5=>
      zb (ZE y4.2) fun y6=>
      some (LO.again (w64 (s3.1+1),y5,y6))
    else
     some (LO.out (s3.2.1,s3.2.2)):Int×List zk×za->Option (LO (Int×List zk×za) (List zk×za) _)) (0,[],y2) fun o7=>
  some (0,o7.1)
def jk(x:Str):Option (List zk×Int):=
 zb (Ls x) fun y1=>
 bif y1.1 != 0 then
  some ([],y1.1)
 else
  some (y1.2,0)
def QD(x:List zk×List zk):Option Bool:=
 bif (x.1.length:Int) != (x.2.length:Int)then
  some false
 else
  Zb (fun(s1:Int)=>
    bif decide (s1<(x.1.length:Int))then
     zb (geti x.1 s1) fun y2=>
     zb (geti x.2 s1) fun y3=>
     bif !(y2.kind==y3.kind&&(y2.text==y3.text&&(y2.num==y3.num&&(y2.unit==y3.unit&&(y2.flag==y3.flag&&true)))))then
      some (LO.ret false)
     else
      some (LO.again (w64 (s1+1)))
    else
     some (LO.out ()):Int->Option (LO (Int) (Unit) _)) 0 fun o4=>
  some true
def Nr(x:List zk):Option (Str×Int):=
 zb (Qo x) fun y1=>
 bif y1 != 0 then
  some ([],y1)
 else
  Zb (fun(s2:Int×List UInt8×List zO)=>
    bif decide (s2.1<(x.length:Int))then
     need (decide (0<=s2.1)&&decide (s2.1<=(x.length:Int)))<|
     zb (Ii (List.drop s2.1.toNat x)) fun y3=>
     need (decide (0<=s2.1)&&(decide (s2.1<=w64 (s2.1+y3))&&decide (w64 (s2.1+y3)<=(x.length:Int))))<|
     Zb (fun(s4:Int×List UInt8)=>
       bif decide (s4.1<((List.drop s2.1.toNat (List.take (w64 (s2.1+y3)).toNat x)).length:Int))then
        zb (geti (List.drop s2.1.toNat (List.take (w64 (s2.1+y3)).toNat x)) s4.1) fun y5=>
        zb (Xr (y5,s4.2)) fun y6=>
        some (LO.again (w64 (s4.1+1),y6))
       else
        some (LO.out s4.2):Int×List UInt8->Option (LO (Int×List UInt8) (List UInt8) _)) (0,[]) fun o7=>
     zR (X:=Int×List UInt8×List zO×List UInt8) (
       zb (geti x s2.1) fun y8=>
       bif bif y8.kind==9 then y3==2 else false then
        some (LX.out (s2.1,s2.2.1,s2.2.2,[(92:UInt8),(10:UInt8)]))
       else
        some (LX.out (s2.1,s2.2.1,s2.2.2,o7))) fun j9=>
     zR (X:=Int×List UInt8×List zO×zO) (
       bif decide (w64 ((j9.2.2.1.length:Int) - 4)>=0)then
        need (decide (0<=w64 ((j9.2.2.1.length:Int) - 4))&&decide (w64 ((j9.2.2.1.length:Int) - 4)<(j9.2.2.1.length:Int)))<|
        zb (j9.2.2.1[(w64 ((j9.2.2.1.length:Int) - 4)).toNat]?) fun y10=>
        some (LX.out (j9.1,j9.2.1,j9.2.2.1,y10))
       else
        some (LX.out (j9.1,j9.2.1,j9.2.2.1,(⟨0,0⟩:zO)))) fun j11=>
     need (decide (0<=j11.2.2.2.at_)&&decide (j11.2.2.2.at_<=(j11.2.1.length:Int)))<|
     need (decide (j11.2.2.2.at_.toNat+(j11.2.1.length - j11.2.2.2.at_.toNat)<=j11.2.1.length))<|
     need (Ue (List.take (j11.2.1.length - j11.2.2.2.at_.toNat) (List.drop j11.2.2.2.at_.toNat j11.2.1)).length j9.2.2.2.length)<|
     zb (jk (List.take (j11.2.1.length - j11.2.2.2.at_.toNat) (List.drop j11.2.2.2.at_.toNat j11.2.1)++j9.2.2.2)) fun y12=>
     zR (X:=Int×List zO×List UInt8) (
       need (decide (0<=j11.2.2.2.token)&&(decide (j11.2.2.2.token<=w64 (j11.1+y3))&&decide (w64 (j11.1+y3)<=(x.length:Int)))|| !(!(y12.2 != 0)))<|
       zb (zw (!(y12.2 != 0)) (QD (y12.1,List.drop j11.2.2.2.token.toNat (List.take (w64 (j11.1+y3)).toNat x))) (default:Bool)) fun y13=>
       bif bif y12.2 != 0 then true else !y13 then
        need (zQ j11.2.1.length ([47,42,42,47]:Str).length 1)<|
        some (LX.out (j11.1,j11.2.2.1,j11.2.1++([47,42,42,47]:Str)))
       else
        some (LX.out (j11.1,j11.2.2.1,j11.2.1))) fun j14=>
     need (zQ j14.2.1.length 1 16)<|
     need (zQ j14.2.2.length j9.2.2.2.length 1)<|
     bif decide (((j14.2.2++j9.2.2.2).length:Int)>4000)then
      some (LO.ret ([],28))
     else
      some (LO.again (w64 (j14.1+y3),j14.2.2++j9.2.2.2,j14.2.1++[(⟨j14.1,(j14.2.2.length:Int)⟩:zO)]))
    else
     some (LO.out s2.2.1):Int×List UInt8×List zO->Option (LO (Int×List UInt8×List zO) (List UInt8) _)) (0,[],[]) fun o15=>
  some (o15,0)
def Br(x:List ze):Option (Str×Int):=
 zb (Zv x) fun y1=>
 bif y1 != 0 then
  some ([],y1)
 else
  zb (QJ x) fun y2=>
  zb (Nr y2) fun y3=>
  some (y3.1,y3.2)
def rq(x:zA):Option (Str×Int):=
 zb (Qn x) fun y1=>
 bif y1 != 0 then
  some ([],y1)
 else
  zb (Dk x.name) fun y2=>
  bif y2.2 != 0 then
   some ([],y2.2)
  else
   zb (Br x.value) fun y3=>
   bif y3.2 != 0 then
    some ([],y3.2)
   else
    need (Ue y2.1.length ([58,32]:Str).length)<|
    need (Ue (y2.1++([58,32]:Str)).length y3.1.length)<|
    zR (X:=Str) (
      bif x.important then
       need (Ue (y2.1++([58,32]:Str)++y3.1).length ([32,33,105,109,112,111,114,116,97,110,116]:Str).length)<|
       some (LX.out (y2.1++([58,32]:Str)++y3.1++([32,33,105,109,112,111,114,116,97,110,116]:Str)))
      else
       some (LX.out (y2.1++([58,32]:Str)++y3.1))) fun j4=>
    bif decide ((j4.length:Int)>4000)then
     some ([],28)
    else
     some (j4,0)
def qZ(zt:zg×Bool->Option (Str×Bool))(x:zg×Bool):Option (Str×Bool):=
 zb (zt ((⟨x.1.kind,x.1.name,x.1.num,x.1.decl,x.1.list⟩:zg),x.2)) fun y1=>
 zb (Di (⟨x.1.kind,x.1.name,x.1.num,x.1.decl,x.1.list⟩:zg)) fun y2=>
 bif y2 then
  some (y1.1,y1.2)
 else
  need (Ue ([40]:Str).length y1.1.length)<|
  need (Ue (([40]:Str)++y1.1).length ([41]:Str).length)<|
  some (([40]:Str)++y1.1++([41]:Str),y1.2)
def dn(zt:zg×Bool->Option (Str×Bool))(x:(List zg×Str)×Bool):Option (Str×Bool):=
 Zb (fun(s1:Int×Bool×List Str)=>
   bif decide (s1.1<(x.1.1.length:Int))then
    zb (geti x.1.1 s1.1) fun y2=>
    zb (qZ zt ((⟨y2.kind,y2.name,y2.num,y2.decl,y2.list⟩:zg),s1.2.1)) fun y3=>
    need (zQ s1.2.2.length 1 16)<|
    some (LO.again (w64 (s1.1+1),y3.2,s1.2.2++[y3.1]))
   else
    some (LO.out (s1.2.1,s1.2.2)):Int×Bool×List Str->Option (LO (Int×Bool×List Str) (Bool×List Str) _)) (0,x.2,[]) fun o4=>
 zb (Kh (o4.2,x.1.2)) fun y5=>
 some (y5,o4.1)
def yt(zt:zg×Bool->Option (Str×Bool))(x:zg×Bool):Option (Str×Bool):=
 bif x.1.kind==7 then
  zb (rq x.1.decl) fun y1=>
  need (Ue ([40]:Str).length y1.1.length)<|
  need (Ue (([40]:Str)++y1.1).length ([41]:Str).length)<|
  some (([40]:Str)++y1.1++([41]:Str),bif x.2 then true else y1.2 != 0)
 else
  bif x.1.kind==8 then
   some ([40,117,110,107,110,111,119,110,41],x.2)
  else
   bif x.1.kind==3 then
    zb (geti x.1.list 0) fun y2=>
    zb (qZ zt ((⟨y2.kind,y2.name,y2.num,y2.decl,y2.list⟩:zg),x.2)) fun y3=>
    need (Ue ([110,111,116,32]:Str).length y3.1.length)<|
    some (([110,111,116,32]:Str)++y3.1,y3.2)
   else
    bif x.1.kind==2 then
     zb (dn zt ((x.1.list,[32,111,114,32]),x.2)) fun y4=>
     some (y4.1,y4.2)
    else
     zb (dn zt ((x.1.list,[32,97,110,100,32]),x.2)) fun y5=>
     some (y5.1,y5.2)
def zt:zg×Bool->Option (Str×Bool):=recE (yt)
def Mk(x:zg):Option (Str×Int):=
 zb (QT (⟨x.kind,x.name,x.num,x.decl,x.list⟩:zg)) fun y1=>
 bif y1 != 0 then
  some ([],y1)
 else
  zR (X:=Str×Bool) (
    zb (ZV (⟨x.kind,x.name,x.num,x.decl,x.list⟩:zg)) fun y2=>
    bif y2==0 then
     zb (zU (⟨x.kind,x.name,x.num,x.decl,x.list⟩:zg)) fun y3=>
     some (LX.out (y3,false))
    else
     zb (zt ((⟨x.kind,x.name,x.num,x.decl,x.list⟩:zg),false)) fun y4=>
     some (LX.out (y4.1,y4.2))) fun j5=>
  bif bif j5.2 then true else decide ((j5.1.length:Int)>4000)then
   some ([],28)
  else
   some (j5.1,0)
def Yt(x:zg):Option Int:=
 zb (Ms (⟨x.kind,x.name,x.num,x.decl,x.list⟩:zg)) fun y1=>
 bif !y1 then
  some 8
 else
  some 0
def nk(x:Str):Option (List ze):=
 zb (jk x) fun y1=>
 zb (parseF y1.1) fun y2=>
 bif bif y1.2 != 0 then true else y2.2 != 0 then
  some []
 else
  some y2.1
def Er(x:List ze×Int):Option (List (List ze)×Int):=
 zb (Zv x.1) fun y1=>
 bif y1 != 0 then
  some ([],y1)
 else
  bif bif decide (x.2<1)then true else decide (x.2>24)then
   some ([],2)
  else
   Zb (fun(s2:(Int×Int)×List (List ze))=>
     bif decide (s2.1.2<(x.1.length:Int))then
      zR (X:=(Int×Int)×List (List ze)) (
        zb (geti x.1 s2.1.2) fun y3=>
        bif y3.token.kind==x.2 then
         need (decide (0<=s2.1.1)&&(decide (s2.1.1<=s2.1.2)&&(decide (s2.1.2<=s2.1.2)&&decide (s2.1.2<=(x.1.length:Int))))&&decide (s2.1.2=s2.1.2))<|
         zb (ZY (List.drop s2.1.1.toNat (List.take s2.1.2.toNat x.1))) fun y4=>
         need (zQ s2.2.length 1 24)<|
         some (LX.out ((w64 (s2.1.2+1),s2.1.2),s2.2++[y4]))
        else
         some (LX.out ((s2.1.1,s2.1.2),s2.2))) fun j5=>
      some (LO.again ((j5.1.1,w64 (j5.1.2+1)),j5.2))
     else
      some (LO.out (s2.1.1,s2.2)):(Int×Int)×List (List ze)->Option (LO ((Int×Int)×List (List ze)) (Int×List (List ze)) _)) ((0,0),[]) fun o6=>
   need (decide (0<=o6.1)&&decide (o6.1<=(x.1.length:Int)))<|
   zb (ZY (List.drop o6.1.toNat x.1)) fun y7=>
   need (zQ o6.2.length 1 24)<|
   some (o6.2++[y7],0)
def zH(x:zh):Option Int:=
 bif (x.v.length:Int)==0 then
  some 0
 else
  zb (geti x.v 0) fun y1=>
  some y1.token.kind
def zI(x:zh):Option (ze×zh):=
 zb (geti x.v 0) fun y1=>
 need (decide (1<=(x.v.length:Int)))<|
 some ((⟨y1.token,y1.list⟩:ze),(⟨List.drop 1 x.v⟩:zh))
def zx(x:zh):Option (Bool×zh):=
 Zb (fun(s1:zh)=>
   zb (zH s1) fun y2=>
   bif y2==13 then
    zb (zI s1) fun y3=>
    some (LO.again y3.2)
   else
    some (LO.out s1):zh->Option (LO (zh) (zh) _)) x fun o4=>
 some (decide ((o4.v.length:Int)<(x.v.length:Int)),o4)
def Zf(x:List Str×zh):Option (Str×zh):=
 Zb (fun(s1:Int×zh)=>
   bif decide (s1.1<(x.1.length:Int))then
    zb (geti x.1 s1.1) fun y2=>
    zb (zH s1.2) fun y3=>
    zb (zw (y3==1) (geti s1.2.v 0) (default:ze)) fun y4=>
    zb (zw (y3==1) (ZJ (y4.token.text,y2)) (default:Bool)) fun y5=>
    bif bif y3==1 then y5 else false then
     zb (zI s1.2) fun y6=>
     some (LO.ret (y2,y6.2))
    else
     some (LO.again (w64 (s1.1+1),s1.2))
   else
    some (LO.out s1.2):Int×zh->Option (LO (Int×zh) (zh) _)) (0,x.2) fun o7=>
 some ([],o7)
def qf(x:zh):Option ((zg×Bool)×zh):=
 zb (zH x) fun y1=>
 bif y1 != 21 then
  some (((⟨0,[],0,(⟨[],[],false⟩:zA),[]⟩:zg),false),x)
 else
  zb (zI x) fun y2=>
  zb (zx (⟨y2.1.list⟩:zh)) fun y3=>
  zR (X:=(Int×Str×Int×Str×Bool)×zh×(Int×Str×Int×Str×Bool)) (
    zb (Zf ([[109,105,110,45,119,105,100,116,104],[109,97,120,45,119,105,100,116,104]],y3.2)) fun y4=>
    bif y4.1==[]then
     some (LX.ret (((⟨5,[],0,(⟨[],[],false⟩:zA),[]⟩:zg),false),y2.2))
    else
     bif y4.1==[109,97,120,45,119,105,100,116,104]then
      some (LX.out ((0,[],0,[],false),y4.2,(6,[],0,[],false)))
     else
      some (LX.out ((0,[],0,[],false),y4.2,(5,[],0,[],false)))) fun j5=>
  zb (zx j5.2.1) fun y6=>
  zb (zH y6.2) fun y7=>
  bif y7 != 16 then
   some (((⟨j5.2.2.1,j5.2.2.2.1,j5.2.2.2.2.1,(⟨j5.2.2.2.2.2.1,[],j5.2.2.2.2.2.2⟩:zA),[]⟩:zg),false),y2.2)
  else
   zb (zI y6.2) fun y8=>
   zb (zx y8.2) fun y9=>
   zb (zH y9.2) fun y10=>
   zb (zw (y10 != 12) (zH y9.2) (default:Int)) fun y11=>
   bif bif y10 != 12 then y11 != 10 else false then
    some (((⟨j5.2.2.1,j5.2.2.2.1,j5.2.2.2.2.1,(⟨j5.2.2.2.2.2.1,[],j5.2.2.2.2.2.2⟩:zA),[]⟩:zg),false),y2.2)
   else
    zb (zI y9.2) fun y12=>
    zb (zx y12.2) fun y13=>
    zb (zw (y12.1.token.kind==12) (ZJ (y12.1.token.unit,[112,120])) (default:Bool)) fun y14=>
    zb (zw (bif bif bif y12.1.token.kind==12 then y14 else false then true else bif y12.1.token.kind==10 then y12.1.token.num==0 else false then decide (y12.1.token.num>=0)else false) (QH y12.1.token.num) (default:Int)) fun y15=>
    some (((⟨j5.2.2.1,j5.2.2.2.1,y12.1.token.num,(⟨j5.2.2.2.2.2.1,[],j5.2.2.2.2.2.2⟩:zA),[]⟩:zg),bif bif bif bif bif y12.1.token.kind==12 then y14 else false then true else bif y12.1.token.kind==10 then y12.1.token.num==0 else false then decide (y12.1.token.num>=0)else false then y15==0 else false then(y13.2.v.length:Int)==0 else false),y2.2)
def QU(x:zh):Option ((zg×Bool)×zh):=
 zb (zx x) fun y1=>
 zb (Zf ([[110,111,116],[111,110,108,121]],y1.2)) fun y2=>
 zb (zx y2.2) fun y3=>
 zR (X:=zh×(Int×Str×Int×Str×Bool)×(Int×Str×Int×Str×Bool)×List zg) (
   zb (zH y3.2) fun y4=>
   bif y4==1 then
    zb (zI y3.2) fun y5=>
    zb (Zx y5.1.token.text) fun y6=>
    zb (QF y6) fun y7=>
    bif !y7 then
     some (LX.ret (((⟨1,[],0,(⟨[],[],false⟩:zA),[]⟩:zg),false),y5.2))
    else
     need (zQ 0 1 104)<|
     some (LX.out (y5.2,(0,[],0,[],false),(1,[],0,[],false),[(⟨4,y6,0,(⟨[],[],false⟩:zA),[]⟩:zg)]))
   else
    zb (qf y3.2) fun y8=>
    bif bif !y8.1.2 then true else !(y2.1==[])then
     some (LX.ret (((⟨1,[],0,(⟨[],[],false⟩:zA),[]⟩:zg),false),y8.2))
    else
     need (zQ 0 1 104)<|
     some (LX.out (y8.2,(0,[],0,[],false),(1,[],0,[],false),[(⟨y8.1.1.kind,y8.1.1.name,y8.1.1.num,y8.1.1.decl,y8.1.1.list⟩:zg)]))) fun j9=>
 zb (zx j9.1) fun y10=>
 Zb (fun(s11:zh×(Int×Str×Int×Str×Bool)×(Int×Str×Int×Str×Bool)×List zg)=>
   bif decide ((s11.1.v.length:Int)>0)then
    zb (Zf ([[97,110,100]],s11.1)) fun y12=>
    bif y12.1==[]then
     some (LO.ret (((⟨s11.2.2.1.1,s11.2.2.1.2.1,s11.2.2.1.2.2.1,(⟨s11.2.2.1.2.2.2.1,[],s11.2.2.1.2.2.2.2⟩:zA),s11.2.2.2⟩:zg),false),y12.2))
    else
     zb (zx y12.2) fun y13=>
     zb (qf y13.2) fun y14=>
     bif !y14.1.2 then
      some (LO.ret (((⟨s11.2.2.1.1,s11.2.2.1.2.1,s11.2.2.1.2.2.1,(⟨s11.2.2.1.2.2.2.1,[],s11.2.2.1.2.2.2.2⟩:zA),s11.2.2.2⟩:zg),false),y14.2))
     else
      need (zQ s11.2.2.2.length 1 104)<|
      zb (zx y14.2) fun y15=>
      some (LO.again (y15.2,(s11.2.1.1,s11.2.1.2.1,s11.2.1.2.2.1,s11.2.1.2.2.2.1,s11.2.1.2.2.2.2),(s11.2.2.1.1,s11.2.2.1.2.1,s11.2.2.1.2.2.1,s11.2.2.1.2.2.2.1,s11.2.2.1.2.2.2.2),s11.2.2.2++[(⟨y14.1.1.kind,y14.1.1.name,y14.1.1.num,y14.1.1.decl,y14.1.1.list⟩:zg)]))
   else
    some (LO.out (s11.1,(s11.2.1.1,s11.2.1.2.1,s11.2.1.2.2.1,s11.2.1.2.2.2.1,s11.2.1.2.2.2.2),(s11.2.2.1.1,s11.2.2.1.2.1,s11.2.2.1.2.2.1,s11.2.2.1.2.2.2.1,s11.2.2.1.2.2.2.2),s11.2.2.2)):zh×(Int×Str×Int×Str×Bool)×(Int×Str×Int×Str×Bool)×List zg->Option (LO (zh×(Int×Str×Int×Str×Bool)×(Int×Str×Int×Str×Bool)×List zg) (zh×(Int×Str×Int×Str×Bool)×(Int×Str×Int×Str×Bool)×List zg) _)) (y10.2,(j9.2.1.1,j9.2.1.2.1,j9.2.1.2.2.1,j9.2.1.2.2.2.1,j9.2.1.2.2.2.2),(j9.2.2.1.1,j9.2.2.1.2.1,j9.2.2.1.2.2.1,j9.2.2.1.2.2.2.1,j9.2.2.1.2.2.2.2),j9.2.2.2) fun o16=>
 zR (X:=(Int×Str×Int×Str×Bool)×(Int×Str×Int×Str×Bool×List zg)) (
   bif y2.1==[110,111,116]then
    some (LX.out ((o16.2.1.1,o16.2.1.2.1,o16.2.1.2.2.1,o16.2.1.2.2.2.1,o16.2.1.2.2.2.2),(3,[],0,[],false,[(⟨o16.2.2.1.1,o16.2.2.1.2.1,o16.2.2.1.2.2.1,(⟨o16.2.2.1.2.2.2.1,[],o16.2.2.1.2.2.2.2⟩:zA),o16.2.2.2⟩:zg)])))
   else
    some (LX.out ((o16.2.1.1,o16.2.1.2.1,o16.2.1.2.2.1,o16.2.1.2.2.2.1,o16.2.1.2.2.2.2),(o16.2.2.1.1,o16.2.2.1.2.1,o16.2.2.1.2.2.1,o16.2.2.1.2.2.2.1,o16.2.2.1.2.2.2.2,o16.2.2.2)))) fun j17=>
 some (((⟨j17.2.1,j17.2.2.1,j17.2.2.2.1,(⟨j17.2.2.2.2.1,[],j17.2.2.2.2.2.1⟩:zA),j17.2.2.2.2.2.2⟩:zg),true),o16.1)
def Ur(x:List ze):Option (zg×Int):=
 zb (Er (x,18)) fun y1=>
 bif y1.2 != 0 then
  some ((⟨0,[],0,(⟨[],[],false⟩:zA),[]⟩:zg),y1.2)
 else
  zR (X:=Int×Str×Int×Str×Bool) (
    bif (y1.1.length:Int)==1 then
     zb (zx (⟨x⟩:zh)) fun y2=>
     bif (y2.2.v.length:Int)==0 then
      some (LX.ret ((⟨1,[],0,(⟨[],[],false⟩:zA),[]⟩:zg),0))
     else
      some (LX.out (0,[],0,[],false))
    else
     some (LX.out (0,[],0,[],false))) fun j3=>
  bif decide ((y1.1.length:Int)>64)then
   some ((⟨0,[],0,(⟨[],[],false⟩:zA),[]⟩:zg),4)
  else
   Zb (fun(s4:Int×(Int×Str×Int×Str×Bool)×List zg)=>
     bif decide (s4.1<(y1.1.length:Int))then
      zb (geti y1.1 s4.1) fun y5=>
      zb (QU (⟨y5⟩:zh)) fun y6=>
      zR (X:=(Int×Str×Int×Str×Bool)×List zg×zg) (
        bif !y6.1.2 then
         some (LX.out ((s4.2.1.1,s4.2.1.2.1,s4.2.1.2.2.1,s4.2.1.2.2.2.1,s4.2.1.2.2.2.2),s4.2.2,(⟨3,[],0,(⟨[],[],false⟩:zA),[(⟨1,[],0,(⟨[],[],false⟩:zA),[(⟨4,[97,108,108],0,(⟨[],[],false⟩:zA),[]⟩:zg)]⟩:zg)]⟩:zg)))
        else
         some (LX.out ((s4.2.1.1,s4.2.1.2.1,s4.2.1.2.2.1,s4.2.1.2.2.2.1,s4.2.1.2.2.2.2),s4.2.2,(⟨y6.1.1.kind,y6.1.1.name,y6.1.1.num,y6.1.1.decl,y6.1.1.list⟩:zg)))) fun j7=>
      need (zQ j7.2.1.length 1 104)<|
      some (LO.again (w64 (s4.1+1),(j7.1.1,j7.1.2.1,j7.1.2.2.1,j7.1.2.2.2.1,j7.1.2.2.2.2),j7.2.1++[(⟨j7.2.2.kind,j7.2.2.name,j7.2.2.num,j7.2.2.decl,j7.2.2.list⟩:zg)]))
     else
      some (LO.out ((s4.2.1.1,s4.2.1.2.1,s4.2.1.2.2.1,s4.2.1.2.2.2.1,s4.2.1.2.2.2.2),s4.2.2)):Int×(Int×Str×Int×Str×Bool)×List zg->Option (LO (Int×(Int×Str×Int×Str×Bool)×List zg) ((Int×Str×Int×Str×Bool)×List zg) _)) (0,(2,[],0,[],false),[]) fun o8=>
   some ((⟨o8.1.1,o8.1.2.1,o8.1.2.2.1,(⟨o8.1.2.2.2.1,[],o8.1.2.2.2.2⟩:zA),o8.2⟩:zg),0)
def Vr(x:Str×Str×Int×Int):Option Bool:=
 zb (nk x.1) fun y1=>
 zb (Ur y1) fun y2=>
 zb (Mk (⟨y2.1.kind,y2.1.name,y2.1.num,y2.1.decl,y2.1.list⟩:zg)) fun y3=>
 bif bif bif y2.2 != 0 then true else y3.2 != 0 then true else !(y3.1==x.2.1)then
  some false
 else
  Zb (fun(s4:Int)=>
    bif decide (s4<30)then
     zb (Z6 ((⟨y2.1.kind,y2.1.name,y2.1.num,y2.1.decl,y2.1.list⟩:zg),(⟨s4⟩:VEnv),[])) fun y5=>
     bif bif y5.2 != 0 then true else !(y5.1==(bif decide (s4>=x.2.2.1)then decide (s4<=x.2.2.2)else false))then
      some (LO.ret false)
     else
      some (LO.again (w64 (s4+1)))
    else
     some (LO.out ()):Int->Option (LO (Int) (Unit) _)) 0 fun o6=>
  some true
def Ik(x:List ze):Option (List ze):=
 Zb (fun(s1:List ze)=>
   zb (zw (decide ((s1.length:Int)>0)) (geti s1 0) (default:ze)) fun y2=>
   zb (zw (decide ((s1.length:Int)>0)) (Zq ((⟨y2.token,y2.list⟩:ze),13)) (default:Bool)) fun y3=>
   bif bif decide ((s1.length:Int)>0)then y3 else false then
    need (decide (1<=(s1.length:Int)))<|
    some (LO.again (List.drop 1 s1))
   else
    some (LO.out s1):List ze->Option (LO (List ze) (List ze) _)) x fun o4=>
 some o4
def Uk(x:List ze):Option (List ze):=
 Zb (fun(s1:List ze)=>
   zb (zw (decide ((s1.length:Int)>0)) (geti s1 (w64 ((s1.length:Int) - 1))) (default:ze)) fun y2=>
   zb (zw (decide ((s1.length:Int)>0)) (Zq ((⟨y2.token,y2.list⟩:ze),13)) (default:Bool)) fun y3=>
   bif bif decide ((s1.length:Int)>0)then y3 else false then
    need (decide (0<=w64 ((s1.length:Int) - 1))&&decide (w64 ((s1.length:Int) - 1)<=(s1.length:Int)))<|
    some (LO.again (List.take (w64 ((s1.length:Int) - 1)).toNat s1))
   else
    some (LO.out s1):List ze->Option (LO (List ze) (List ze) _)) x fun o4=>
 some o4
def iq(x:List ze):Option (zA×Bool):=
 zb (Ik x) fun y1=>
 zb (Uk y1) fun y2=>
 zb (zw (!((y2.length:Int)==0)) (geti y2 0) (default:ze)) fun y3=>
 zb (zw (!((y2.length:Int)==0)) (Zq ((⟨y3.token,y3.list⟩:ze),1)) (default:Bool)) fun y4=>
 bif bif (y2.length:Int)==0 then true else !y4 then
  some ((⟨[],[],false⟩:zA),false)
 else
  zb (geti y2 0) fun y5=>
  zR (X:=List ze×(Str×Bool)×(Str×Bool)) (
    zb (strings_HasPrefix (y5.token.text,[45,45])) fun y6=>
    bif !y6 then
     zb (Zx y5.token.text) fun y7=>
     some (LX.out (y2,([],false),(y7,false)))
    else
     some (LX.out (y2,([],false),(y5.token.text,false)))) fun j8=>
  need (decide (1<=(j8.1.length:Int)))<|
  zb (Ik (List.drop 1 j8.1)) fun y9=>
  zb (zw (!((y9.length:Int)==0)) (geti y9 0) (default:ze)) fun y10=>
  zb (zw (!((y9.length:Int)==0)) (Zq ((⟨y10.token,y10.list⟩:ze),16)) (default:Bool)) fun y11=>
  bif bif (y9.length:Int)==0 then true else !y11 then
   some ((⟨[],[],false⟩:zA),false)
  else
   need (decide (1<=(y9.length:Int)))<|
   zb (Ik (List.drop 1 y9)) fun y12=>
   zR (X:=List ze×(Str×Bool)×(Str×Bool)) (
     zb (zw (decide (w64 ((y12.length:Int) - 1)>0)) (geti y12 (w64 ((y12.length:Int) - 1))) (default:ze)) fun y13=>
     zb (zw (decide (w64 ((y12.length:Int) - 1)>0)) (Zq ((⟨y13.token,y13.list⟩:ze),1)) (default:Bool)) fun y14=>
     zb (zw (bif decide (w64 ((y12.length:Int) - 1)>0)then y14 else false) (geti y12 (w64 ((y12.length:Int) - 1))) (default:ze)) fun y15=>
     zb (zw (bif decide (w64 ((y12.length:Int) - 1)>0)then y14 else false) (ZJ (y15.token.text,[105,109,112,111,114,116,97,110,116])) (default:Bool)) fun y16=>
     bif bif bif decide (w64 ((y12.length:Int) - 1)>0)then y14 else false then y16 else false then
      need (decide (0<=w64 ((y12.length:Int) - 1))&&decide (w64 ((y12.length:Int) - 1)<=(y12.length:Int)))<|
      zb (Uk (List.take (w64 ((y12.length:Int) - 1)).toNat y12)) fun y17=>
      zb (zw (decide ((y17.length:Int)>0)) (geti y17 (w64 ((y17.length:Int) - 1))) (default:ze)) fun y18=>
      zb (zw (decide ((y17.length:Int)>0)) (Jk (⟨y18.token,y18.list⟩:ze)) (default:Bool)) fun y19=>
      bif bif decide ((y17.length:Int)>0)then y19 else false then
       need (decide (0<=w64 ((y17.length:Int) - 1))&&decide (w64 ((y17.length:Int) - 1)<=(y17.length:Int)))<|
       zb (Uk (List.take (w64 ((y17.length:Int) - 1)).toNat y17)) fun y20=>
       some (LX.out (y20,(j8.2.1.1,j8.2.1.2),(j8.2.2.1,true)))
      else
       some (LX.out (y12,(j8.2.1.1,j8.2.1.2),(j8.2.2.1,j8.2.2.2)))
     else
      some (LX.out (y12,(j8.2.1.1,j8.2.1.2),(j8.2.2.1,j8.2.2.2)))) fun j21=>
   zb (QZ j21.1) fun y22=>
   zb (zw (!(y22.2 != 0)) (Qn (⟨j21.2.2.1,y22.1,j21.2.2.2⟩:zA)) (default:Int)) fun y23=>
   bif bif y22.2 != 0 then true else y23 != 0 then
    some ((⟨[],[],false⟩:zA),false)
   else
    some ((⟨j21.2.2.1,y22.1,j21.2.2.2⟩:zA),true)
def jq(x:List ze):Option (zA×Bool×Int):=
 zb (Zv x) fun y1=>
 bif y1 != 0 then
  some ((⟨[],[],false⟩:zA),false,y1)
 else
  zb (iq x) fun y2=>
  some (y2.1,y2.2,0)
def qE(zu:zh->Option ((zg×Bool)×zh))(x:zh):Option ((zg×Bool)×zh):=
 zb (zH x) fun y1=>
 bif y1==2 then
  zb (zI x) fun y2=>
  some (((⟨8,[],0,(⟨[],[],false⟩:zA),[]⟩:zg),true),y2.2)
 else
  bif y1==21 then
   zb (zI x) fun y3=>
   zb (jq y3.1.list) fun y4=>
   bif bif y4.2.2==0 then y4.2.1 else false then
    some (((⟨7,[],0,y4.1,[]⟩:zg),true),y3.2)
   else
    zb (zu (⟨y3.1.list⟩:zh)) fun y5=>
    bif y5.1.2 then
     some (((⟨y5.1.1.kind,y5.1.1.name,y5.1.1.num,y5.1.1.decl,y5.1.1.list⟩:zg),true),y3.2)
    else
     some (((⟨8,[],0,(⟨[],[],false⟩:zA),[]⟩:zg),true),y3.2)
  else
   some (((⟨8,[],0,(⟨[],[],false⟩:zA),[]⟩:zg),false),x)
def Qs(zu:zh->Option ((zg×Bool)×zh))(x:zh):Option ((zg×Bool)×zh):=
 zb (zx x) fun y1=>
 zb (Zf ([[110,111,116]],y1.2)) fun y2=>
 bif !(y2.1==[])then
  zb (zx y2.2) fun y3=>
  zb (qE zu y3.2) fun y4=>
  zb (zx y4.2) fun y5=>
  some (((⟨3,[],0,(⟨[],[],false⟩:zA),[(⟨y4.1.1.kind,y4.1.1.name,y4.1.1.num,y4.1.1.decl,y4.1.1.list⟩:zg)]⟩:zg),bif bif y4.1.2 then y3.1 else false then(y5.2.v.length:Int)==0 else false),y5.2)
 else
  zb (qE zu y2.2) fun y6=>
  bif !y6.1.2 then
   some (((⟨y6.1.1.kind,y6.1.1.name,y6.1.1.num,y6.1.1.decl,y6.1.1.list⟩:zg),false),y6.2)
  else
   zb (zx y6.2) fun y7=>
   bif (y7.2.v.length:Int)==0 then
    some (((⟨y6.1.1.kind,y6.1.1.name,y6.1.1.num,y6.1.1.decl,y6.1.1.list⟩:zg),true),y7.2)
   else
    Zb (fun(s8:Bool×zh×(Int×Str×Int×Str×Bool)×(Int×Str×Int×Str×Bool)×List zg)=>
      bif decide ((s8.2.1.v.length:Int)>0)then
       zb (Zf ([[97,110,100],[111,114]],s8.2.1)) fun y9=>
       bif bif bif (bif y9.1==[97,110,100]then 1 else bif y9.1==[111,114]then 2 else(0:Int))==0 then true else !s8.1 then true else bif s8.2.2.2.1.1 != 0 then s8.2.2.2.1.1 != (bif y9.1==[97,110,100]then 1 else bif y9.1==[111,114]then 2 else(0:Int))else false then
        some (LO.ret (((⟨s8.2.2.2.1.1,s8.2.2.2.1.2.1,s8.2.2.2.1.2.2.1,(⟨s8.2.2.2.1.2.2.2.1,[],s8.2.2.2.1.2.2.2.2⟩:zA),s8.2.2.2.2⟩:zg),false),y9.2))
       else
        zb (zx y9.2) fun y10=>
        zb (qE zu y10.2) fun y11=>
        bif bif !y10.1 then true else !y11.1.2 then
         some (LO.ret (((⟨bif y9.1==[97,110,100]then 1 else bif y9.1==[111,114]then 2 else(0:Int),s8.2.2.2.1.2.1,s8.2.2.2.1.2.2.1,(⟨s8.2.2.2.1.2.2.2.1,[],s8.2.2.2.1.2.2.2.2⟩:zA),s8.2.2.2.2⟩:zg),false),y11.2))
        else
         need (zQ s8.2.2.2.2.length 1 104)<|
         zb (zx y11.2) fun y12=>
         some (LO.again (y12.1,y12.2,(s8.2.2.1.1,s8.2.2.1.2.1,s8.2.2.1.2.2.1,s8.2.2.1.2.2.2.1,s8.2.2.1.2.2.2.2),(bif y9.1==[97,110,100]then 1 else bif y9.1==[111,114]then 2 else(0:Int),s8.2.2.2.1.2.1,s8.2.2.2.1.2.2.1,s8.2.2.2.1.2.2.2.1,s8.2.2.2.1.2.2.2.2),s8.2.2.2.2++[(⟨y11.1.1.kind,y11.1.1.name,y11.1.1.num,y11.1.1.decl,y11.1.1.list⟩:zg)]))
      else
       some (LO.out (s8.2.1,(s8.2.2.1.1,s8.2.2.1.2.1,s8.2.2.1.2.2.1,s8.2.2.1.2.2.2.1,s8.2.2.1.2.2.2.2),(s8.2.2.2.1.1,s8.2.2.2.1.2.1,s8.2.2.2.1.2.2.1,s8.2.2.2.1.2.2.2.1,s8.2.2.2.1.2.2.2.2),s8.2.2.2.2)):Bool×zh×(Int×Str×Int×Str×Bool)×(Int×Str×Int×Str×Bool)×List zg->Option (LO (Bool×zh×(Int×Str×Int×Str×Bool)×(Int×Str×Int×Str×Bool)×List zg) (zh×(Int×Str×Int×Str×Bool)×(Int×Str×Int×Str×Bool)×List zg) _)) (y7.1,y7.2,(0,[],0,[],false),(0,[],0,[],false),[(⟨y6.1.1.kind,y6.1.1.name,y6.1.1.num,y6.1.1.decl,y6.1.1.list⟩:zg)]) fun o13=>
    some (((⟨o13.2.2.1.1,o13.2.2.1.2.1,o13.2.2.1.2.2.1,(⟨o13.2.2.1.2.2.2.1,[],o13.2.2.1.2.2.2.2⟩:zA),o13.2.2.2⟩:zg),true),o13.1)
def zu:zh->Option ((zg×Bool)×zh):=recE (Qs)
def Xt(x:List ze):Option (zg×Int):=
 zb (Zv x) fun y1=>
 bif y1 != 0 then
  some ((⟨0,[],0,(⟨[],[],false⟩:zA),[]⟩:zg),y1)
 else
  zb (zu (⟨x⟩:zh)) fun y2=>
  zb (zw (!(!y2.1.2)) (zZ (⟨y2.1.1.kind,y2.1.1.name,y2.1.1.num,y2.1.1.decl,y2.1.1.list⟩:zg)) (default:Int)) fun y3=>
  bif bif !y2.1.2 then true else y3 != 0 then
   some ((⟨0,[],0,(⟨[],[],false⟩:zA),[]⟩:zg),12)
  else
   some ((⟨y2.1.1.kind,y2.1.1.name,y2.1.1.num,y2.1.1.decl,y2.1.1.list⟩:zg),0)
def Ay(x:Int×List Bool):Option (Bool×Int):=
 need (decide (0<=w64 (w64 (x.1+1) - 1))&&decide (w64 (w64 (x.1+1) - 1)<(x.2.length:Int)))<|
 zb (x.2[(w64 (w64 (x.1+1) - 1)).toNat]?) fun y1=>
 some (y1,w64 (x.1+1))
def Rt(Zp:(zg×Int)×Int×List Bool->Option (Bool×Int))(x:(zg×Int)×Int×List Bool):Option (Bool×Int):=
 bif x.1.1.kind==4 then
  some (bif x.1.1.name==[97,108,108]then true else x.1.1.name==[115,99,114,101,101,110],x.2.1)
 else
  bif x.1.1.kind==5 then
   some (decide (x.1.2>=x.1.1.num),x.2.1)
  else
   bif x.1.1.kind==6 then
    some (decide (x.1.2<=x.1.1.num),x.2.1)
   else
    bif x.1.1.kind==7 then
     zb (Ay (x.2.1,x.2.2)) fun y1=>
     some (y1.1,y1.2)
    else
     bif x.1.1.kind==8 then
      some (false,x.2.1)
     else
      Zb (fun(s2:(Bool×Bool×Int)×Int)=>
        bif decide (s2.1.2.2<(x.1.1.list.length:Int))then
         zb (geti x.1.1.list s2.1.2.2) fun y3=>
         zb (Zp (((⟨y3.kind,y3.name,y3.num,y3.decl,y3.list⟩:zg),x.1.2),s2.2,x.2.2)) fun y4=>
         some (LO.again ((bif s2.1.1 then y4.1 else false,bif s2.1.2.1 then true else y4.1,w64 (s2.1.2.2+1)),y4.2))
        else
         some (LO.out ((s2.1.1,s2.1.2.1),s2.2)):(Bool×Bool×Int)×Int->Option (LO ((Bool×Bool×Int)×Int) ((Bool×Bool)×Int) _)) ((true,false,0),x.2.1) fun o5=>
      bif x.1.1.kind==1 then
       some (o5.1.1,o5.2)
      else
       bif x.1.1.kind==2 then
        some (o5.1.2,o5.2)
       else
        some (!o5.1.2,o5.2)
def Zp:(zg×Int)×Int×List Bool->Option (Bool×Int):=recE (Rt)
def Mo(x:(zg×VEnv)×List Bool):Option (Bool×Int):=
 zb (QT (⟨x.1.1.kind,x.1.1.name,x.1.1.num,x.1.1.decl,x.1.1.list⟩:zg)) fun y1=>
 bif y1 != 0 then
  some (false,y1)
 else
  zb (zw (!(bif decide (x.1.2.width<0)then true else decide (x.1.2.width>1000000000))) (Zl (⟨x.1.1.kind,x.1.1.name,x.1.1.num,x.1.1.decl,x.1.1.list⟩:zg)) (default:List zA)) fun y2=>
  bif bif bif decide (x.1.2.width<0)then true else decide (x.1.2.width>1000000000)then true else(x.2.length:Int) != (y2.length:Int)then
   some (false,2)
  else
   zb (Zp (((⟨x.1.1.kind,x.1.1.name,x.1.1.num,x.1.1.decl,x.1.1.list⟩:zg),w64 (1000*x.1.2.width)),0,x.2)) fun y3=>
   some (y3.1,0)
def Pt(x:Str×Str×Bool×Bool):Option Bool:=
 zb (nk x.1) fun y1=>
 zb (Xt y1) fun y2=>
 zb (Mk (⟨y2.1.kind,y2.1.name,y2.1.num,y2.1.decl,y2.1.list⟩:zg)) fun y3=>
 zb (Kr (⟨y2.1.kind,y2.1.name,y2.1.num,y2.1.decl,y2.1.list⟩:zg)) fun y4=>
 bif bif bif bif y2.2 != 0 then true else y3.2 != 0 then true else y4.2 != 0 then true else !(y3.1==x.2.1)then
  some false
 else
  need (decide (0<=(y4.1.length:Int))&&decide ((y4.1.length:Int)<=(y4.1.length:Int))&&decide ((y4.1.length:Int)*1<=140737488355328)&&decide ((y4.1.length:Int)<=9223372036854775807))<|
  zb (Mo (((⟨y2.1.kind,y2.1.name,y2.1.num,y2.1.decl,y2.1.list⟩:zg),(⟨0⟩:VEnv)),List.replicate (Int.toNat (y4.1.length:Int)) false)) fun y5=>
  Zb (fun(s6:Int×List Bool)=>
    bif decide (s6.1<(s6.2.length:Int))then
     need (decide (0<=s6.1)&&decide (s6.1<(s6.2.length:Int)))<|
     zb s6.2[s6.1.toNat]? fun y7=>
     some (LO.again (w64 (s6.1+1),List.set s6.2 s6.1.toNat true))
    else
     some (LO.out s6.2):Int×List Bool->Option (LO (Int×List Bool) (List Bool) _)) (0,List.replicate (Int.toNat (y4.1.length:Int)) false) fun o8=>
  zb (Mo (((⟨y2.1.kind,y2.1.name,y2.1.num,y2.1.decl,y2.1.list⟩:zg),(⟨0⟩:VEnv)),o8)) fun y9=>
  some (bif bif bif y5.2==0 then y9.2==0 else false then y5.1==x.2.2.2 else false then y9.1==x.2.2.1 else false)
def Xk(x:Unit):Option Bool:=
 zb (Vr ([83,99,114,101,101,110,32,65,78,68,32,40,109,105,110,45,119,105,100,116,104,58,49,48,46,53,112,120,41,44,32,40,102,111,111,41],[115,99,114,101,101,110,32,97,110,100,32,40,109,105,110,45,119,105,100,116,104,58,32,49,48,46,53,112,120,41,44,32,110,111,116,32,97,108,108],11,99)) fun y1=>
 zb (zw y1 (Pt ([110,111,116,32,40,40,97,58,98,41,32,111,114,32,40,99,41,41],[110,111,116,32,40,40,97,58,32,98,41,32,111,114,32,40,117,110,107,110,111,119,110,41,41],false,true)) (default:Bool)) fun y2=>
 some (bif y1 then y2 else false)
def ax(x:zg×Int×Int):Option Bool:=
 zb (Ir (⟨x.1.kind,x.1.name,x.1.num,x.1.decl,x.1.list⟩:zg)) fun y1=>
 zb (zw (!y1) (Yt (⟨x.1.kind,x.1.name,x.1.num,x.1.decl,x.1.list⟩:zg)) (default:Int)) fun y2=>
 bif bif bif bif bif y1 then true else y2 != 0 then true else decide (x.2.1<0)then true else decide (x.2.2<x.2.1)then true else decide (x.2.2>1000000000)then
  zb (Xk ()) fun y3=>
  some y3
 else
  zb (Z6 ((⟨x.1.kind,x.1.name,x.1.num,x.1.decl,x.1.list⟩:zg),(⟨x.2.1⟩:VEnv),[])) fun y4=>
  Zb (fun(s5:Bool×Int)=>
    bif decide (s5.2<(x.1.list.length:Int))then
     zR (X:=Bool×Int) (
       need (decide (0<=s5.2)&&(decide (s5.2<=w64 (s5.2+1))&&decide (w64 (s5.2+1)<=(x.1.list.length:Int))))<|
       zb (Z6 ((⟨2,[],0,(⟨[],[],false⟩:zA),List.drop s5.2.toNat (List.take (w64 (s5.2+1)).toNat x.1.list)⟩:zg),(⟨x.2.1⟩:VEnv),[])) fun y6=>
       bif y6.2 != 0 then
        some (LX.ret (LO.ret false))
       else
        zb (geti x.1.list s5.2) fun y7=>
        bif y7.kind != 1 then
         some (LX.out (bif s5.1 then true else y6.1,s5.2))
        else
         Zb (fun(s8:Int)=>
           zb (geti x.1.list s5.2) fun y9=>
           bif decide (s8<(y9.list.length:Int))then
            zR (X:=Int) (
              zb (geti x.1.list s5.2) fun y10=>
              zb (geti y10.list s8) fun y11=>
              bif y11.kind==4 then
               some (LX.out s8)
              else
               zb (Z6 ((⟨2,[],0,(⟨[],[],false⟩:zA),[(⟨1,[],0,(⟨[],[],false⟩:zA),[(⟨y11.kind,y11.name,y11.num,y11.decl,y11.list⟩:zg)]⟩:zg)]⟩:zg),(⟨x.2.1⟩:VEnv),[])) fun y12=>
               zb (Z6 ((⟨2,[],0,(⟨[],[],false⟩:zA),[(⟨1,[],0,(⟨[],[],false⟩:zA),[(⟨y11.kind,y11.name,y11.num,y11.decl,y11.list⟩:zg)]⟩:zg)]⟩:zg),(⟨x.2.2⟩:VEnv),[])) fun y13=>
               bif bif bif bif bif y12.2 != 0 then true else y13.2 != 0 then true else bif bif y11.kind==5 then y12.1 else false then !y13.1 else false then true else bif bif y11.kind==6 then y13.1 else false then !y12.1 else false then true else bif y6.1 then !y12.1 else false then
                some (LX.ret (LO.ret (LX.ret (LO.ret false))))
               else
                some (LX.out s8)) fun j14=>
            some (LO.again (w64 (j14+1)))
           else
            some (LO.out ()):Int->Option (LO (Int) (Unit) _)) 0 fun o15=>
         some (LX.out (bif s5.1 then true else y6.1,s5.2))) fun j16=>
     some (LO.again (j16.1,w64 (j16.2+1)))
    else
     some (LO.out s5.1):Bool×Int->Option (LO (Bool×Int) (Bool) _)) (x.1.kind==1,0) fun o17=>
  zb (zw (bif y4.2==0 then y4.1==o17 else false) (Xk ()) (default:Bool)) fun y18=>
  some (bif bif y4.2==0 then y4.1==o17 else false then y18 else false)
end Go.Lv.VT
end
