/- Texts. -/
import Derived.Test.YtkecjfeffabgiaaGreatDoorTy
import Derived.Test.YtkecjfeffabgiaaGreatDoorLf
noncomputable section
set_option linter.unusedSimpArgs false
set_option linter.unusedVariables false
namespace Go.Lv.VT
set_option maxRecDepth 100000
def Wp(qj:zh×Int->Option Int)(x:zh×Int):Option Int:=
 zY (fun(s1:Int×Int)=>
   bif bif decide (s1.2<(x.1.list.length:Int))then decide (s1.1<=x.2)else false then
    zb (geti x.1.list s1.2) fun y2=>
    zb (qj ((⟨y2.kind,y2.name,y2.num,y2.decl,y2.list⟩:zh),w64 (x.2 - s1.1))) fun y3=>
    some (LO.again (w64 (s1.1+y3),w64 (s1.2+1)))
   else
    some (LO.out s1.1):Int×Int->Option (LO (Int×Int) (Int) _)) (1,0) fun o4=>
 some o4
def qj:zh×Int->Option Int:=recE (Wp)
def Xp(Ql:List ze×Int->Option Int)(x:List ze×Int):Option Int:=
 zY (fun(s1:Int×Int)=>
   bif bif decide (s1.2<(x.1.length:Int))then decide (s1.1<=x.2)else false then
    zb (geti x.1 s1.2) fun y2=>
    zb (geti x.1 s1.2) fun y3=>
    zb (geti x.1 s1.2) fun y4=>
    zb (Ql (y4.list,w64 (x.2 - s1.1))) fun y5=>
    some (LO.again (w64 (s1.1+w64 (w64 (w64 (1+(y2.token.text.length:Int))+(y3.token.unit.length:Int))+y5)),w64 (s1.2+1)))
   else
    some (LO.out s1.1):Int×Int->Option (LO (Int×Int) (Int) _)) (0,0) fun o6=>
 some o6
def Ql:List ze×Int->Option Int:=recE (Xp)
def QX(x:Int):Option Int:=
 bif x==19 then
  some 20
 else
  zF (X:=Bool) (
    bif x==21 then
     some (LX.out (x==21))
    else
     some (LX.out (x==2))) fun j1=>
  bif j1 then
   some 22
  else
   bif x==23 then
    some 24
   else
    some 0
def Dz(qP:List ze->Option Int)(x:List ze):Option Int:=
 zY (fun(s1:Int×Int)=>
   bif decide (s1.2<(x.length:Int))then
    zF (X:=Int×Int) (
      zb (geti x s1.2) fun y2=>
      zb (QX y2.token.kind) fun y3=>
      bif y3 != 0 then
       zb (geti x s1.2) fun y4=>
       zb (qP y4.list) fun y5=>
       some (LX.out (if w64 (1+y5)>s1.1 then w64 (1+y5)else s1.1,s1.2))
      else
       some (LX.out (s1.1,s1.2))) fun j6=>
    some (LO.again (j6.1,w64 (j6.2+1)))
   else
    some (LO.out s1.1):Int×Int->Option (LO (Int×Int) (Int) _)) (0,0) fun o7=>
 some o7
def qP:List ze->Option Int:=recE (Dz)
def Du(x:List zB):Option Bool:=
 bif decide ((x.length:Int)>40)then
  some true
 else
  zY (fun(s1:Int×Int)=>
    bif decide (s1.2<(x.length:Int))then
     zb (geti x s1.2) fun y2=>
     zb (geti x s1.2) fun y3=>
     zb (Ql (y3.value,300)) fun y4=>
     zb (zo (!(decide (w64 (s1.1+w64 ((y2.name.length:Int)+y4))>300))) (geti x s1.2) (default:zB)) fun y5=>
     zb (zo (!(decide (w64 (s1.1+w64 ((y2.name.length:Int)+y4))>300))) (qP y5.value) (default:Int)) fun y6=>
     bif bif decide (w64 (s1.1+w64 ((y2.name.length:Int)+y4))>300)then true else decide (y6>40)then
      some (LO.ret true)
     else
      some (LO.again (w64 (s1.1+w64 ((y2.name.length:Int)+y4)),w64 (s1.2+1)))
    else
     some (LO.out ()):Int×Int->Option (LO (Int×Int) (Unit) _)) (0,0) fun o7=>
  some false
def Vp(jh:zh->Option Bool)(x:zh):Option Bool:=
 zb (Du [x.decl]) fun y1=>
 bif bif y1 then true else decide ((x.name.length:Int)>200)then
  some true
 else
  zY (fun(s2:Int)=>
    bif decide (s2<(x.list.length:Int))then
     zb (geti x.list s2) fun y3=>
     zb (jh (⟨y3.kind,y3.name,y3.num,y3.decl,y3.list⟩:zh)) fun y4=>
     bif y4 then
      some (LO.ret true)
     else
      some (LO.again (w64 (s2+1)))
    else
     some (LO.out ()):Int->Option (LO (Int) (Unit) _)) 0 fun o5=>
  some false
def jh:zh->Option Bool:=recE (Vp)
def Bp(x:zh):Option Bool:=
 zb (qj ((⟨x.kind,x.name,x.num,x.decl,x.list⟩:zh),100)) fun y1=>
 zb (zo (!(decide (y1>100))) (jh (⟨x.kind,x.name,x.num,x.decl,x.list⟩:zh)) (default:Bool)) fun y2=>
 some (bif decide (y1>100)then true else y2)
def qW(x:Int):Option Int:=
 bif x==2 then
  some 22
 else
  zF (X:=Bool) (
    bif x==19 then
     some (LX.out (x==19))
    else
     bif x==21 then
      some (LX.out (x==21))
     else
      some (LX.out (x==23))) fun j1=>
  bif j1 then
   some (wu8 (x+1))
  else
   some 0
def Gp(qp:List ze×Int->Option zA)(x:List ze×Int):Option zA:=
 zY (fun(s1:Int×zA)=>
   bif decide (s1.1<(x.1.length:Int))then
    zF (X:=Int×zA) (
      zb (geti x.1 s1.1) fun y2=>
      zb (qW y2.token.kind) fun y3=>
      zF (X:=zA) (
        bif bif bif x.2 != 0 then y2.token.kind==x.2 else false then true else bif y3==0 then decide ((y2.list.length:Int)>0)else false then
         some (LX.out (⟨s1.2.depth,w64 (s1.2.tokens+1),true⟩:zA))
        else
         some (LX.out (⟨s1.2.depth,w64 (s1.2.tokens+1),s1.2.bad⟩:zA))) fun j4=>
      bif y3==0 then
       some (LX.out (s1.1,j4))
      else
       zb (qp (y2.list,y3)) fun y5=>
       some (LX.out (s1.1,(⟨if w64 (y5.depth+1)>j4.depth then w64 (y5.depth+1)else j4.depth,w64 (w64 (j4.tokens+y5.tokens)+1),bif j4.bad then true else y5.bad⟩:zA)))) fun j6=>
    some (LO.again (w64 (j6.1+1),j6.2))
   else
    some (LO.out s1.2):Int×zA->Option (LO (Int×zA) (zA) _)) (0,(⟨0,0,false⟩:zA)) fun o7=>
 some o7
def qp:List ze×Int->Option zA:=recE (Gp)
def ZG(x:List ze):Option Int:=
 zb (qp (x,0)) fun y1=>
 bif decide (y1.depth>16)then
  some 20
 else
  bif decide (y1.tokens>1500)then
   some 4
  else
   bif y1.bad then
    some 8
   else
    some 0
def Rl(x:List ze):Option (Int×Int):=
 zb (ZG x) fun y1=>
 bif y1 != 0 then
  some (0,y1)
 else
  zb (qp (x,0)) fun y2=>
  some (y2.depth,0)
def Cq(ZL:List ze×List zf->Option (List zf))(x:List ze×List zf):Option (List zf):=
 zY (fun(s1:Int×List zf)=>
   bif decide (s1.1<(x.1.length:Int))then
    zF (X:=Int×List zf) (
      zb (geti x.1 s1.1) fun y2=>
      need (zQ s1.2.length 1 56)<|
      zb (qW y2.token.kind) fun y3=>
      bif y3 != 0 then
       zb (ZL (y2.list,s1.2++[y2.token])) fun y4=>
       need (zQ y4.length 1 56)<|
       some (LX.out (s1.1,y4++[(⟨y3,[],0,[],false⟩:zf)]))
      else
       some (LX.out (s1.1,s1.2++[y2.token]))) fun j5=>
    some (LO.again (w64 (j5.1+1),j5.2))
   else
    some (LO.out s1.2):Int×List zf->Option (LO (Int×List zf) (List zf) _)) (0,x.2) fun o6=>
 some o6
def ZL:List ze×List zf->Option (List zf):=recE (Cq)
def Q7(x:List ze):Option (List zf):=
 zY (fun(s1:Int×List zf)=>
   bif decide (s1.1<(x.length:Int))then
    zF (X:=Int×List zf) (
      zb (geti x s1.1) fun y2=>
      need (zQ s1.2.length 1 56)<|
      zb (qW y2.token.kind) fun y3=>
      bif y3 != 0 then
       zb (ZL (y2.list,s1.2++[y2.token])) fun y4=>
       need (zQ y4.length 1 56)<|
       some (LX.out (s1.1,y4++[(⟨y3,[],0,[],false⟩:zf)]))
      else
       some (LX.out (s1.1,s1.2++[y2.token]))) fun j5=>
    some (LO.again (w64 (j5.1+1),j5.2))
   else
    some (LO.out s1.2):Int×List zf->Option (LO (Int×List zf) (List zf) _)) (0,[]) fun o6=>
 some o6
def El(x:List ze):Option (List zf×Int):=
 zb (ZG x) fun y1=>
 bif y1 != 0 then
  some ([],y1)
 else
  zb (Q7 x) fun y2=>
  some (y2,0)
def strings_IndexByte(x:Str×Int):Option Int:=
 zb (Yr (x.1,x.2)) fun y1=>
 some y1
def stringslite_HasPrefix(x:Str×Str):Option Bool:=
 need (decide (0<=(x.2.length:Int))&&decide ((x.2.length:Int)<=(x.1.length:Int))|| !(decide ((x.1.length:Int)>=(x.2.length:Int))))<|
 some (bif decide ((x.1.length:Int)>=(x.2.length:Int))then List.take x.2.length x.1==x.2 else false)
def strings_HasPrefix(x:Str×Str):Option Bool:=
 zb (stringslite_HasPrefix (x.1,x.2)) fun y1=>
 some y1
def ZJ(x:Str):Option Str:=
 need (decide (x.length<=maxLen))<|
 zY (fun(s1:Int×List UInt8)=>
   bif decide (s1.1<(x.length:Int))then
    zF (X:=Int×List UInt8) (
      need (decide (0<=s1.1)&&decide (s1.1<(s1.2.length:Int)))<|
      zb s1.2[s1.1.toNat]? fun y2=>
      bif bif decide (65<=(y2.toNat:Int))then decide ((y2.toNat:Int)<=90)else false then
       need (decide (0<=s1.1)&&decide (s1.1<(s1.2.length:Int)))<|
       zb s1.2[s1.1.toNat]? fun y3=>
       need (decide (0<=s1.1)&&decide (s1.1<(s1.2.length:Int)))<|
       zb s1.2[s1.1.toNat]? fun y4=>
       zb (ZT (ibOr IntKind.u8 (y3.toNat:Int) 32)) fun y5=>
       some (LX.out (s1.1,List.set s1.2 s1.1.toNat y5))
      else
       some (LX.out (s1.1,s1.2))) fun j6=>
    some (LO.again (w64 (j6.1+1),j6.2))
   else
    some (LO.out s1.2):Int×List UInt8->Option (LO (Int×List UInt8) (List UInt8) _)) (0,x) fun o7=>
 some o7
def Vl(x:Str):Option Bool:=
 zb (zo (!(bif x==[]then true else decide ((x.length:Int)>64))) (strings_IndexByte (x,0)) (default:Int)) fun y1=>
 bif bif bif x==[]then true else decide ((x.length:Int)>64)then true else decide (y1>=0)then
  some false
 else
  zb (strings_HasPrefix (x,[45,45])) fun y2=>
  bif y2 then
   some (!(x==[45,45]))
  else
   zb (ZJ x) fun y3=>
   some (x==y3)
def stringslite_TrimPrefix(x:Str×Str):Option Str:=
 zb (stringslite_HasPrefix (x.1,x.2)) fun y1=>
 bif y1 then
  need (decide (0<=(x.2.length:Int))&&decide ((x.2.length:Int)<=(x.1.length:Int)))<|
  some (List.drop x.2.length x.1)
 else
  some x.1
def strings_TrimPrefix(x:Str×Str):Option Str:=
 zb (stringslite_TrimPrefix (x.1,x.2)) fun y1=>
 some y1
def qh(x:Int):Option Bool:=
 some (bif decide (48<=x)then decide (x<=57)else false)
def aj(x:Str):Option Bool:=
 zb (strings_TrimPrefix (x,[45])) fun y1=>
 zb (zo (!(y1==[])) (geti y1 0) 0) fun y2=>
 zb (zo (!(y1==[])) (qh (y2.toNat:Int)) (default:Bool)) fun y3=>
 some (bif !(y1==[])then y3 else false)
def Ou(x:Int):Option Bool:=
 some (bif bif decide (97<=ibOr IntKind.u8 x 32)then decide (ibOr IntKind.u8 x 32<=122)else false then decide (x<128)else false)
def lh(x:Int):Option Bool:=
 zb (Ou x) fun y1=>
 zb (zo (!y1) (qh x) (default:Bool)) fun y2=>
 some (bif bif bif bif y1 then true else y2 then true else x==95 then true else x==45 then true else decide (x>=128))
def strings_Contains(x:Str×Str):Option Bool:=
 zb (Dj (x.1,x.2)) fun y1=>
 some (decide (y1>=0))
def Uo(x:zf):Option Bool:=
 need (Qa x.text.length x.unit.length)<|
 zb (strings_IndexByte (x.text++x.unit,0)) fun y1=>
 zF (X:=Bool×Bool×Bool×Bool×Bool) (
   zF (X:=Bool×Bool×Bool×Bool×Bool×Bool) (
     bif x.kind==1 then
      some (LX.out (false,false,false,false,decide (y1<0),x.kind==1))
     else
      bif x.kind==2 then
       some (LX.out (false,false,false,false,decide (y1<0),x.kind==2))
      else
       some (LX.out (false,false,false,false,decide (y1<0),x.kind==3))) fun j2=>
   bif j2.2.2.2.2.2 then
    some (LX.out (true,j2.2.1,j2.2.2.1,j2.2.2.2.1,bif j2.2.2.2.2.1 then !(x.text==[])else false))
   else
    bif x.kind==4 then
     zb (zo (!x.flag&&(bif j2.2.2.2.2.1 then !(x.text==[])else false)) (aj x.text) (default:Bool)) fun y3=>
     zb (zo (y3&&(!x.flag&&(bif j2.2.2.2.2.1 then !(x.text==[])else false))) (strings_HasPrefix (x.text,[45,45])) (default:Bool)) fun y4=>
     some (LX.out (true,j2.2.1,j2.2.2.1,true,bif bif j2.2.2.2.2.1 then !(x.text==[])else false then bif bif x.flag then true else bif y3 then !y4 else false then true else x.text==[45]else false))
    else
     zF (X:=Bool×Bool×Bool×Bool×Bool×Bool) (
       bif x.kind==5 then
        some (LX.out (j2.1,j2.2.1,j2.2.2.1,j2.2.2.2.1,j2.2.2.2.2.1,x.kind==5))
       else
        some (LX.out (j2.1,j2.2.1,j2.2.2.1,j2.2.2.2.1,j2.2.2.2.2.1,x.kind==7))) fun j5=>
     bif j5.2.2.2.2.2 then
      some (LX.out (true,j5.2.1,j5.2.2.1,j5.2.2.2.1,j5.2.2.2.2.1))
     else
      bif x.kind==9 then
       zb (zo (bif j5.2.2.2.2.1 then(x.text.length:Int)==1 else false) (geti x.text 0) 0) fun y6=>
       zb (zo (bif j5.2.2.2.2.1 then(x.text.length:Int)==1 else false) (lh (y6.toNat:Int)) (default:Bool)) fun y7=>
       zb (zo (bif bif bif j5.2.2.2.2.1 then(x.text.length:Int)==1 else false then !y7 else false then true else x.text==[45]) (strings_Contains ([32,9,10,12,13,34,39,58,59,44,91,93,40,41,123,125],x.text)) (default:Bool)) fun y8=>
       some (LX.out (true,j5.2.1,j5.2.2.1,j5.2.2.2.1,bif bif bif bif j5.2.2.2.2.1 then(x.text.length:Int)==1 else false then !y7 else false then true else x.text==[45]then !y8 else false))
      else
       zF (X:=Bool×Bool×Bool×Bool×Bool) (
         bif x.kind==10 then
          some (LX.out (j5.2.1,j5.2.2.1,j5.2.2.2.1,j5.2.2.2.2.1,x.kind==10))
         else
          bif x.kind==11 then
           some (LX.out (j5.2.1,j5.2.2.1,j5.2.2.2.1,j5.2.2.2.2.1,x.kind==11))
          else
           some (LX.out (j5.2.1,j5.2.2.1,j5.2.2.2.1,j5.2.2.2.2.1,x.kind==12))) fun j9=>
       bif j9.2.2.2.2 then
        some (LX.out (j5.1,x.kind==12,true,x.kind != 11,bif bif bif bif j9.2.2.2.1 then decide (x.num>=(-1000000000000))else false then decide (x.num<=1000000000000)else false then bif !x.flag then true else Int.tmod x.num 1000==0 else false then bif !(x.kind==12)then true else !(x.unit==[])else false))
       else
        some (LX.out (j5.1,j9.1,j9.2.1,j9.2.2.1,bif decide (x.kind>=13)then decide (x.kind<=24)else false))) fun j10=>
 some (bif bif bif bif j10.2.2.2.2 then bif j10.1 then true else x.text==[]else false then bif j10.2.1 then true else x.unit==[]else false then bif j10.2.2.1 then true else x.num==0 else false then bif j10.2.2.2.1 then true else !x.flag else false)
def qm(x:(Int×Int)×List zf):Option Bool:=
 zb (zo (decide (x.1.1<(x.2.length:Int))) (geti x.2 x.1.1) (default:zf)) fun y1=>
 some (bif decide (x.1.1<(x.2.length:Int))then y1.kind==x.1.2 else false)
def ZW(x:Str×Str):Option Bool:=
 zb (ZJ x.1) fun y1=>
 zb (ZJ x.2) fun y2=>
 some (y1==y2)
def bi(x:List zf):Option Int:=
 zb (geti x 0) fun y1=>
 bif bif y1.kind==9 then y1.text==[92]else false then
  zb (qm ((1,13),x)) fun y2=>
  bif !y2 then
   some 0
  else
   some 2
 else
  zb (zo (y1.kind==2) (ZW (y1.text,[117,114,108])) (default:Bool)) fun y3=>
  bif bif y1.kind==2 then y3 else false then
   zF (X:=Int) (
     zb (qm ((1,13),x)) fun y4=>
     bif y4 then
      some (LX.out 2)
     else
      some (LX.out 1)) fun j5=>
   zb (qm ((j5,5),x)) fun y6=>
   bif !y6 then
    some 0
   else
    some (w64 (j5+1))
  else
   some 1
def QJ(x:List zf):Option Int:=
 bif decide ((x.length:Int)>1500)then
  some 4
 else
  zY (fun(s1:Int)=>
    bif decide (s1<(x.length:Int))then
     zb (geti x s1) fun y2=>
     zb (Uo y2) fun y3=>
     need (decide (0<=s1)&&decide (s1<=(x.length:Int))|| !(!(!y3)))<|
     zb (zo (!(!y3)) (bi (List.drop s1.toNat x)) (default:Int)) fun y4=>
     bif bif !y3 then true else y4==0 then
      some (LO.ret 8)
     else
      some (LO.again (w64 (s1+1)))
    else
     some (LO.out ()):Int->Option (LO (Int) (Unit) _)) 0 fun o5=>
  some 0
def Zz(x:ze×Int):Option Bool:=
 some (x.1.token.kind==x.2)
def Qf(zt:List ze->Option Bool)(x:ze):Option Bool:=
 zb (Zz ((⟨x.token,x.list⟩:ze),20)) fun y1=>
 zb (zo (!y1) (Zz ((⟨x.token,x.list⟩:ze),22)) (default:Bool)) fun y2=>
 zb (zo (!(bif y1 then true else y2)) (Zz ((⟨x.token,x.list⟩:ze),24)) (default:Bool)) fun y3=>
 zb (zo (!(bif bif y1 then true else y2 then true else y3)) (zt x.list) (default:Bool)) fun y4=>
 some (bif bif bif y1 then true else y2 then true else y3 then true else y4)
def ZP(zt:List ze->Option Bool)(x:List ze):Option Int:=
 zY (fun(s1:Int)=>
   bif decide (s1<(x.length:Int))then
    zb (geti x s1) fun y2=>
    zb (Qf zt (⟨y2.token,y2.list⟩:ze)) fun y3=>
    bif y3 then
     some (LO.ret s1)
    else
     some (LO.again (w64 (s1+1)))
   else
    some (LO.out ()):Int->Option (LO (Int) (Unit) _)) 0 fun o4=>
 some (-1)
def Zp(zt:List ze->Option Bool)(x:List ze):Option Bool:=
 zb (ZP zt x) fun y1=>
 some (decide (y1>=0))
def Jq(zt:List ze->Option Bool)(x:List ze):Option Bool:=
 zb (Zp zt x) fun y1=>
 some y1
def zt:List ze->Option Bool:=recE (Jq)
def Il(x:ze):Option Bool:=
 zb (Zz ((⟨x.token,x.list⟩:ze),9)) fun y1=>
 some (bif y1 then x.token.text==[33]else false)
def gp(x:ze):Option Bool:=
 zb (Zz ((⟨x.token,x.list⟩:ze),17)) fun y1=>
 zb (zo (!y1) (Il (⟨x.token,x.list⟩:ze)) (default:Bool)) fun y2=>
 some (bif y1 then true else y2)
def Zy(x:List ze):Option Int:=
 zY (fun(s1:Int)=>
   bif decide (s1<(x.length:Int))then
    zb (geti x s1) fun y2=>
    zb (gp (⟨y2.token,y2.list⟩:ze)) fun y3=>
    bif y3 then
     some (LO.ret s1)
    else
     some (LO.again (w64 (s1+1)))
   else
    some (LO.out ()):Int->Option (LO (Int) (Unit) _)) 0 fun o4=>
 some (-1)
def Za(x:List ze):Option Bool:=
 zb (Zy x) fun y1=>
 some (decide (y1>=0))
def QI(x:zB):Option Int:=
 zb (El x.value) fun y1=>
 zb (Vl x.name) fun y2=>
 zb (zo (!(bif !y2 then true else y1.2 != 0)) (QJ y1.1) (default:Int)) fun y3=>
 zb (zo (!(bif bif !y2 then true else y1.2 != 0 then true else y3 != 0)) (zt x.value) (default:Bool)) fun y4=>
 bif bif bif bif !y2 then true else y1.2 != 0 then true else y3 != 0 then true else y4 then
  some 8
 else
  zb (Za x.value) fun y5=>
  bif y5 then
   some 8
  else
   zb (zo ((x.value.length:Int)==0) (strings_HasPrefix (x.name,[45,45])) (default:Bool)) fun y6=>
   zb (zo (decide ((x.value.length:Int)>0)&& !(bif (x.value.length:Int)==0 then !y6 else false)) (geti x.value 0) (default:ze)) fun y7=>
   zb (zo (decide ((x.value.length:Int)>0)&& !(bif (x.value.length:Int)==0 then !y6 else false)) (Zz ((⟨y7.token,y7.list⟩:ze),13)) (default:Bool)) fun y8=>
   zb (zo (!y8&&(decide ((x.value.length:Int)>0)&& !(bif (x.value.length:Int)==0 then !y6 else false))) (geti x.value (w64 ((x.value.length:Int) - 1))) (default:ze)) fun y9=>
   zb (zo (!y8&&(decide ((x.value.length:Int)>0)&& !(bif (x.value.length:Int)==0 then !y6 else false))) (Zz ((⟨y9.token,y9.list⟩:ze),13)) (default:Bool)) fun y10=>
   bif bif bif (x.value.length:Int)==0 then !y6 else false then true else bif decide ((x.value.length:Int)>0)then bif y8 then true else y10 else false then
    some 8
   else
    some 0
def ZZ(x:zh):Option Bool:=
 some (bif bif bif bif x.name==[]then x.num==0 else false then x.decl.name==[]else false then(x.decl.value.length:Int)==0 else false then !x.decl.important else false)
def Xi(x:zh):Option Bool:=
 some (bif x.kind==7 then true else x.kind==8)
def Yj(Z9:zh×Int->Option ((Int×Bool)×Int))(x:zh×Int):Option ((Int×Bool)×Int):=
 bif decide (w64 (x.2+1)>1500)then
  some ((0,false),w64 (x.2+1))
 else
  bif x.1.kind==7 then
   zb (Rl x.1.decl.value) fun y1=>
   zb (zo (bif bif bif (x.1.list.length:Int)==0 then x.1.name==[]else false then x.1.num==0 else false then y1.2==0 else false) (QI x.1.decl) (default:Int)) fun y2=>
   some ((w64 (y1.1+1),bif bif bif bif (x.1.list.length:Int)==0 then x.1.name==[]else false then x.1.num==0 else false then y1.2==0 else false then y2==0 else false),w64 (x.2+1))
  else
   bif x.1.kind==8 then
    zb (zo ((x.1.list.length:Int)==0) (ZZ (⟨x.1.kind,x.1.name,x.1.num,x.1.decl,x.1.list⟩:zh)) (default:Bool)) fun y3=>
    some ((1,bif (x.1.list.length:Int)==0 then y3 else false),w64 (x.2+1))
   else
    zF (X:=Bool) (
      bif x.1.kind==3 then
       some (LX.out (x.1.kind==3))
      else
       bif x.1.kind==1 then
        some (LX.out (x.1.kind==1))
       else
        some (LX.out (x.1.kind==2))) fun j4=>
    bif j4 then
     zb (ZZ (⟨x.1.kind,x.1.name,x.1.num,x.1.decl,x.1.list⟩:zh)) fun y5=>
     bif bif bif !y5 then true else bif x.1.kind==3 then(x.1.list.length:Int) != 1 else false then true else bif x.1.kind != 3 then decide ((x.1.list.length:Int)<2)else false then
      some ((0,false),w64 (x.2+1))
     else
      zY (fun(s6:(Int×Int)×Int)=>
        bif decide (s6.1.2<(x.1.list.length:Int))then
         zb (geti x.1.list s6.1.2) fun y7=>
         zb (Z9 ((⟨y7.kind,y7.name,y7.num,y7.decl,y7.list⟩:zh),s6.2)) fun y8=>
         bif !y8.1.2 then
          some (LO.ret ((0,false),y8.2))
         else
          zF (X:=Int×Int) (
            zb (Xi (⟨y7.kind,y7.name,y7.num,y7.decl,y7.list⟩:zh)) fun y9=>
            bif !y9 then
             some (LX.out (s6.1.1,w64 (y8.1.1+1)))
            else
             some (LX.out (s6.1.1,y8.1.1))) fun j10=>
          some (LO.again ((if j10.2>j10.1 then j10.2 else j10.1,w64 (s6.1.2+1)),y8.2))
        else
         some (LO.out (s6.1.1,s6.2)):(Int×Int)×Int->Option (LO ((Int×Int)×Int) (Int×Int) _)) ((0,0),w64 (x.2+1)) fun o11=>
      some ((o11.1,true),o11.2)
    else
     some ((0,false),w64 (x.2+1))
def Z9:zh×Int->Option ((Int×Bool)×Int):=recE (Yj)
def Ze(x:zh):Option Int:=
 zb (Z9 ((⟨x.kind,x.name,x.num,x.decl,x.list⟩:zh),0)) fun y1=>
 bif bif !y1.1.2 then true else decide (y1.1.1>16)then
  some 8
 else
  some 0
def Vj(x:Int×List ze):Option Bool:=
 zb (geti x.2 x.1) fun y1=>
 some (y1.token.kind==13)
def qQ(x:List ze):Option (List ze):=
 bif x.isEmpty then
  both (
    some []) (
    need (zQ 0 x.length 80)<|
    some x)
 else
  need (zQ 0 x.length 80)<|
  some x
def Ep(qb:List ze->Option (List ze))(x:List ze):Option (List ze):=
 zb (qQ x) fun y1=>
 zY (fun(s2:Int×List ze)=>
   bif decide (s2.1<(y1.length:Int))then
    need (decide (0<=s2.1)&&decide (s2.1<(s2.2.length:Int)))<|
    zb s2.2[s2.1.toNat]? fun y3=>
    zb (qb y3.list) fun y4=>
    need (decide (0<=s2.1)&&decide (s2.1<(s2.2.length:Int)))<|
    zb s2.2[s2.1.toNat]? fun y5=>
    some (LO.again (w64 (s2.1+1),List.set s2.2 s2.1.toNat (⟨y5.token,y4⟩:ze)))
   else
    some (LO.out s2.2):Int×List ze->Option (LO (Int×List ze) (List ze) _)) (0,y1) fun o6=>
 some o6
def qb:List ze->Option (List ze):=recE (Ep)
def lg(x:List ze):Option (List ze×Int):=
 zb (ZG x) fun y1=>
 bif y1 != 0 then
  some ([],y1)
 else
  zY (fun(s2:Int)=>
    zb (zo (decide (s2<(x.length:Int))) (Vj (s2,x)) (default:Bool)) fun y3=>
    bif bif decide (s2<(x.length:Int))then y3 else false then
     some (LO.again (w64 (s2+1)))
    else
     some (LO.out s2):Int->Option (LO (Int) (Int) _)) 0 fun o4=>
  zY (fun(s5:Int)=>
    zb (zo (decide (o4<s5)) (Vj (w64 (s5 - 1),x)) (default:Bool)) fun y6=>
    bif bif decide (o4<s5)then y6 else false then
     some (LO.again (w64 (s5 - 1)))
    else
     some (LO.out s5):Int->Option (LO (Int) (Int) _)) (x.length:Int) fun o7=>
  need (decide (0<=o4)&&(decide (o4<=o7)&&(decide (o7<=o7)&&decide (o7<=(x.length:Int))))&&decide (o7=o7))<|
  zb (qb (List.drop o4.toNat (List.take o7.toNat x))) fun y8=>
  some (y8,0)
def Aq(Zx:zh->Option (List zB))(x:zh):Option (List zB):=
 bif x.kind==7 then
  zb (lg x.decl.value) fun y1=>
  some [(⟨x.decl.name,y1.1,x.decl.important⟩:zB)]
 else
  zY (fun(s2:Int×List zB)=>
    bif decide (s2.1<(x.list.length:Int))then
     zb (geti x.list s2.1) fun y3=>
     zb (Zx (⟨y3.kind,y3.name,y3.num,y3.decl,y3.list⟩:zh)) fun y4=>
     need (zQ s2.2.length y4.length 48)<|
     some (LO.again (w64 (s2.1+1),s2.2++y4))
    else
     some (LO.out s2.2):Int×List zB->Option (LO (Int×List zB) (List zB) _)) (0,[]) fun o5=>
  some o5
def Zx:zh->Option (List zB):=recE (Aq)
def Tt(x:zh):Option (List zB×Int):=
 zb (Ze (⟨x.kind,x.name,x.num,x.decl,x.list⟩:zh)) fun y1=>
 bif y1 != 0 then
  some ([],y1)
 else
  zb (Zx (⟨x.kind,x.name,x.num,x.decl,x.list⟩:zh)) fun y2=>
  some (y2,0)
def Cz(Di:zh->Option Int)(x:zh):Option Int:=
 bif x.kind==7 then
  zb (qP x.decl.value) fun y1=>
  some (w64 (1+y1))
 else
  bif x.kind==8 then
   some 1
  else
   zY (fun(s2:Int×Int)=>
     bif decide (s2.2<(x.list.length:Int))then
      zb (geti x.list s2.2) fun y3=>
      zF (X:=Int×Int) (
        bif bif y3.kind==7 then true else y3.kind==8 then
         some (LX.out (s2.1,0))
        else
         some (LX.out (s2.1,1))) fun j4=>
      zb (geti x.list s2.2) fun y5=>
      zb (Di (⟨y5.kind,y5.name,y5.num,y5.decl,y5.list⟩:zh)) fun y6=>
      some (LO.again (if w64 (j4.2+y6)>j4.1 then w64 (j4.2+y6)else j4.1,w64 (s2.2+1)))
     else
      some (LO.out s2.1):Int×Int->Option (LO (Int×Int) (Int) _)) (0,0) fun o7=>
   some o7
def Di:zh->Option Int:=recE (Cz)
def Ci(x:Int):Option Int:=
 bif bif decide (x>=65)then decide (x<=90)else false then
  some (wu8 (wu8 (x - 65)+97))
 else
  some x
def Qw(x:Str):Option Str:=
 need (decide (x.length<=maxLen))<|
 zY (fun(s1:Int×List UInt8)=>
   bif decide (s1.1<(s1.2.length:Int))then
    need (decide (0<=s1.1)&&decide (s1.1<(s1.2.length:Int)))<|
    zb s1.2[s1.1.toNat]? fun y2=>
    zb (Ci (y2.toNat:Int)) fun y3=>
    need (decide (0<=s1.1)&&decide (s1.1<(s1.2.length:Int)))<|
    zb s1.2[s1.1.toNat]? fun y4=>
    zb (ZT y3) fun y5=>
    some (LO.again (w64 (s1.1+1),List.set s1.2 s1.1.toNat y5))
   else
    some (LO.out s1.2):Int×List UInt8->Option (LO (Int×List UInt8) (List UInt8) _)) (0,x) fun o6=>
 some o6
def Cu(x:Str):Option Bool:=
 bif bif decide ((x.length:Int)<1)then true else decide ((x.length:Int)>64)then
  some false
 else
  zY (fun(s1:Int)=>
    bif decide (s1<(x.length:Int))then
     zb (geti x s1) fun y2=>
     bif (y2.toNat:Int)==0 then
      some (LO.ret false)
     else
      some (LO.again (w64 (s1+1)))
    else
     some (LO.out ()):Int->Option (LO (Int) (Unit) _)) 0 fun o3=>
  need (decide (2<=(x.length:Int))|| !(decide ((x.length:Int)>=2)))<|
  bif bif decide ((x.length:Int)>=2)then List.take 2 x==[45,45]else false then
   some (decide ((x.length:Int)>2))
  else
   zb (Qw x) fun y4=>
   some (x==y4)
def uz(qo:List ze->Option (List zf))(x:List ze):Option (List zf):=
 zY (fun(s1:Int×List zf)=>
   bif decide (s1.1<(x.length:Int))then
    zF (X:=Int×List zf) (
      zb (geti x s1.1) fun y2=>
      need (zQ s1.2.length 1 56)<|
      zb (geti x s1.1) fun y3=>
      zb (QX y3.token.kind) fun y4=>
      bif y4 != 0 then
       zb (geti x s1.1) fun y5=>
       zb (qo y5.list) fun y6=>
       need (zQ (s1.2++[y2.token]).length y6.length 56)<|
       need (zQ (s1.2++[y2.token]++y6).length 1 56)<|
       some (LX.out (s1.1,s1.2++[y2.token]++y6++[(⟨y4,[],0,[],false⟩:zf)]))
      else
       some (LX.out (s1.1,s1.2++[y2.token]))) fun j7=>
    some (LO.again (w64 (j7.1+1),j7.2))
   else
    some (LO.out s1.2):Int×List zf->Option (LO (Int×List zf) (List zf) _)) (0,[]) fun o8=>
 some o8
def qo:List ze->Option (List zf):=recE (uz)
def rz(Qi:List ze×Int->Option Bool)(x:List ze×Int):Option Bool:=
 zY (fun(s1:Int)=>
   bif decide (s1<(x.1.length:Int))then
    zb (geti x.1 s1) fun y2=>
    zb (QX y2.token.kind) fun y3=>
    zb (zo (y3==0) (geti x.1 s1) (default:ze)) fun y4=>
    zb (zo (x.2 != 0&& !(bif y3==0 then decide ((y4.list.length:Int)>0)else false)) (geti x.1 s1) (default:ze)) fun y5=>
    zb (zo (y3 != 0&& !(bif bif y3==0 then decide ((y4.list.length:Int)>0)else false then true else bif x.2 != 0 then y5.token.kind==x.2 else false)) (geti x.1 s1) (default:ze)) fun y6=>
    zb (zo (y3 != 0&& !(bif bif y3==0 then decide ((y4.list.length:Int)>0)else false then true else bif x.2 != 0 then y5.token.kind==x.2 else false)) (Qi (y6.list,y3)) (default:Bool)) fun y7=>
    bif bif bif bif y3==0 then decide ((y4.list.length:Int)>0)else false then true else bif x.2 != 0 then y5.token.kind==x.2 else false then true else bif y3 != 0 then !y7 else false then
     some (LO.ret false)
    else
     some (LO.again (w64 (s1+1)))
   else
    some (LO.out ()):Int->Option (LO (Int) (Unit) _)) 0 fun o8=>
 some true
def Qi:List ze×Int->Option Bool:=recE (rz)
def Eu(x:List ze):Option Int:=
 zb (qP x) fun y1=>
 bif decide (y1>16)then
  some 20
 else
  zb (qo x) fun y2=>
  bif decide ((y2.length:Int)>1500)then
   some 4
  else
   zb (Qi (x,0)) fun y3=>
   bif !y3 then
    some 8
   else
    some 0
def Uj(x:Str):Option Bool:=
 zY (fun(s1:Int)=>
   bif decide (s1<(x.length:Int))then
    zb (geti x s1) fun y2=>
    bif (y2.toNat:Int)==0 then
     some (LO.ret false)
    else
     some (LO.again (w64 (s1+1)))
   else
    some (LO.out ()):Int->Option (LO (Int) (Unit) _)) 0 fun o3=>
 some true
def zZ(x:Int):Option Bool:=
 some (bif decide (x>=48)then decide (x<=57)else false)
def Xt(x:Str):Option Bool:=
 bif x==[]then
  some false
 else
  zb (geti x 0) fun y1=>
  zb (zZ (y1.toNat:Int)) fun y2=>
  zb (zo (!(bif y2 then true else x==[45])) (geti x 0) 0) fun y3=>
  zb (zo ((y3.toNat:Int)==45&& !(bif y2 then true else x==[45])) (geti x 1) 0) fun y4=>
  zb (zo ((y3.toNat:Int)==45&& !(bif y2 then true else x==[45])) (zZ (y4.toNat:Int)) (default:Bool)) fun y5=>
  some (bif bif y2 then true else x==[45]then true else bif (y3.toNat:Int)==45 then y5 else false)
def qz(x:Int):Option Bool:=
 some (bif bif x==10 then true else x==9 then true else x==32)
def zT(x:Str×Int):Option Int:=
 bif decide (x.2<(x.1.length:Int))then
  zb (geti x.1 x.2) fun y1=>
  some (y1.toNat:Int)
 else
  some 0
def Qh(x:Str×Int):Option Int:=
 zY (fun(s1:Int)=>
   zb (zT (x.1,s1)) fun y2=>
   zb (qz y2) fun y3=>
   bif y3 then
    some (LO.again (w64 (s1+1)))
   else
    some (LO.out s1):Int->Option (LO (Int) (Int) _)) x.2 fun o4=>
 some o4
def oo(x:Unit):Option Str:=
 some [(239:UInt8),(191:UInt8),(189:UInt8)]
def Rj(x:Int):Option Int:=
 zb (zZ x) fun y1=>
 bif y1 then
  some (w64 (wu8 (x - 48)))
 else
  zb (Ci x) fun y2=>
  bif bif decide (y2>=97)then decide (y2<=102)else false then
   some (w64 (w64 (wu8 (y2 - 97))+10))
  else
   some (-1)
def Xy(x:Int):Option Str:=
 bif bif bif x==0 then true else bif decide (x>=55296)then decide (x<=57343)else false then true else decide (x>1114111)then
  zb (oo ()) fun y1=>
  some y1
 else
  bif decide (x<128)then
   zb (ZT (wu8 x)) fun y2=>
   some [y2]
  else
   bif decide (x<2048)then
    zb (ZT (wu8 (w64 (192+w64 (Int.tdiv x 64))))) fun y3=>
    zb (ZT (wu8 (w64 (128+Int.tmod x 64)))) fun y4=>
    some [y3,y4]
   else
    bif decide (x<65536)then
     zb (ZT (wu8 (w64 (224+w64 (Int.tdiv x 4096))))) fun y5=>
     zb (ZT (wu8 (w64 (128+Int.tmod (w64 (Int.tdiv x 64)) 64)))) fun y6=>
     zb (ZT (wu8 (w64 (128+Int.tmod x 64)))) fun y7=>
     some [y5,y6,y7]
    else
     zb (ZT (wu8 (w64 (240+w64 (Int.tdiv x 262144))))) fun y8=>
     zb (ZT (wu8 (w64 (128+Int.tmod (w64 (Int.tdiv x 4096)) 64)))) fun y9=>
     zb (ZT (wu8 (w64 (128+Int.tmod (w64 (Int.tdiv x 64)) 64)))) fun y10=>
     zb (ZT (wu8 (w64 (128+Int.tmod x 64)))) fun y11=>
     some [y8,y9,y10,y11]
def qd(x:Str×Int):Option (Str×Int):=
 bif decide (w64 (x.2+1)>=(x.1.length:Int))then
  zb (oo ()) fun y1=>
  some (y1,w64 (x.2+1))
 else
  zb (geti x.1 (w64 (x.2+1))) fun y2=>
  zb (Rj (y2.toNat:Int)) fun y3=>
  bif decide (y3<0)then
   need (decide (0<=w64 (x.2+1))&&(decide (w64 (x.2+1)<=w64 (w64 (x.2+1)+1))&&decide (w64 (w64 (x.2+1)+1)<=(x.1.length:Int))))<|
   some (List.drop (w64 (x.2+1)).toNat (List.take (w64 (w64 (x.2+1)+1)).toNat x.1),w64 (w64 (x.2+1)+1))
  else
   zY (fun(s4:Int×Int)=>
     zb (zo (bif decide (s4.2<(x.1.length:Int))then decide (s4.2<w64 (w64 (x.2+1)+6))else false) (geti x.1 s4.2) 0) fun y5=>
     zb (zo (bif decide (s4.2<(x.1.length:Int))then decide (s4.2<w64 (w64 (x.2+1)+6))else false) (Rj (y5.toNat:Int)) (default:Int)) fun y6=>
     bif bif bif decide (s4.2<(x.1.length:Int))then decide (s4.2<w64 (w64 (x.2+1)+6))else false then decide (y6>=0)else false then
      zb (geti x.1 s4.2) fun y7=>
      zb (Rj (y7.toNat:Int)) fun y8=>
      some (LO.again (w64 (w64 (16*s4.1)+y8),w64 (s4.2+1)))
     else
      some (LO.out (s4.1,s4.2)):Int×Int->Option (LO (Int×Int) (Int×Int) _)) (0,w64 (x.2+1)) fun o9=>
   zF (X:=Int) (
     zb (zT (x.1,o9.2)) fun y10=>
     zb (qz y10) fun y11=>
     bif y11 then
      some (LX.out (w64 (o9.2+1)))
     else
      some (LX.out o9.2)) fun j12=>
   zb (Xy o9.1) fun y13=>
   some (y13,j12)
def eu(x:Str×Int):Option (zf×Int):=
 zb (geti x.1 x.2) fun y1=>
 zY (fun(s2:Int×zf×zf)=>
   bif decide (s2.1<(x.1.length:Int))then
    zb (geti x.1 s2.1) fun y3=>
    bif (y3.toNat:Int)==(y1.toNat:Int)then
     some (LO.ret (s2.2.2,w64 (s2.1+1)))
    else
     zb (geti x.1 s2.1) fun y4=>
     bif (y4.toNat:Int)==10 then
      some (LO.ret ((⟨6,[],0,[],false⟩:zf),s2.1))
     else
      zb (geti x.1 s2.1) fun y5=>
      bif bif (y5.toNat:Int)==92 then w64 (s2.1+1)==(x.1.length:Int)else false then
       some (LO.again (w64 (s2.1+1),s2.2.1,s2.2.2))
      else
       zb (geti x.1 s2.1) fun y6=>
       zb (zo ((y6.toNat:Int)==92) (geti x.1 (w64 (s2.1+1))) 0) fun y7=>
       bif bif (y6.toNat:Int)==92 then(y7.toNat:Int)==10 else false then
        some (LO.again (w64 (s2.1+2),s2.2.1,s2.2.2))
       else
        zb (geti x.1 s2.1) fun y8=>
        bif (y8.toNat:Int)==92 then
         zb (qd (x.1,s2.1)) fun y9=>
         need (Qa s2.2.2.text.length y9.1.length)<|
         some (LO.again (y9.2,s2.2.1,(⟨s2.2.2.kind,s2.2.2.text++y9.1,s2.2.2.num,s2.2.2.unit,s2.2.2.flag⟩:zf)))
        else
         need (decide (0<=s2.1)&&(decide (s2.1<=w64 (s2.1+1))&&decide (w64 (s2.1+1)<=(x.1.length:Int))))<|
         need (Qa s2.2.2.text.length (List.drop s2.1.toNat (List.take (w64 (s2.1+1)).toNat x.1)).length)<|
         some (LO.again (w64 (s2.1+1),s2.2.1,(⟨s2.2.2.kind,s2.2.2.text++List.drop s2.1.toNat (List.take (w64 (s2.1+1)).toNat x.1),s2.2.2.num,s2.2.2.unit,s2.2.2.flag⟩:zf)))
   else
    some (LO.out (s2.1,s2.2.1,s2.2.2)):Int×zf×zf->Option (LO (Int×zf×zf) (Int×zf×zf) _)) (w64 (x.2+1),(⟨0,[],0,[],false⟩:zf),(⟨5,[],0,[],false⟩:zf)) fun o10=>
 some (o10.2.2,o10.1)
def Yp(x:Int):Option Bool:=
 zb (Ci x) fun y1=>
 some (bif bif bif decide (y1>=97)then decide (y1<=122)else false then true else x==95 then true else decide (x>=128))
def Yl(x:Int):Option Bool:=
 zb (Yp x) fun y1=>
 zb (zo (!y1) (zZ x) (default:Bool)) fun y2=>
 some (bif bif y1 then true else y2 then true else x==45)
def Zt(x:Str×Int):Option Bool:=
 zb (zT (x.1,x.2)) fun y1=>
 zb (zo (y1==92) (zT (x.1,w64 (x.2+1))) (default:Int)) fun y2=>
 some (bif y1==92 then y2 != 10 else false)
def Bi(x:Str×Int):Option (Str×Int):=
 zY (fun(s1:Int×Str)=>
   zb (zo (decide (s1.1<(x.1.length:Int))) (geti x.1 s1.1) 0) fun y2=>
   zb (zo (decide (s1.1<(x.1.length:Int))) (Yl (y2.toNat:Int)) (default:Bool)) fun y3=>
   bif bif decide (s1.1<(x.1.length:Int))then y3 else false then
    need (decide (0<=s1.1)&&(decide (s1.1<=w64 (s1.1+1))&&decide (w64 (s1.1+1)<=(x.1.length:Int))))<|
    need (Qa s1.2.length (List.drop s1.1.toNat (List.take (w64 (s1.1+1)).toNat x.1)).length)<|
    some (LO.again (w64 (s1.1+1),s1.2++List.drop s1.1.toNat (List.take (w64 (s1.1+1)).toNat x.1)))
   else
    zb (zo (decide (s1.1<(x.1.length:Int))) (Zt (x.1,s1.1)) (default:Bool)) fun y4=>
    bif bif decide (s1.1<(x.1.length:Int))then y4 else false then
     zb (qd (x.1,s1.1)) fun y5=>
     need (Qa s1.2.length y5.1.length)<|
     some (LO.again (y5.2,s1.2++y5.1))
    else
     some (LO.ret (s1.2,s1.1)):Int×Str->Option (LO (Int×Str) (Unit) _)) (x.2,[]) fun o6=>
 none
def qH(x:Str×Int):Option Bool:=
 zb (zT (x.1,x.2)) fun y1=>
 bif y1==45 then
  zb (zT (x.1,w64 (x.2+1))) fun y2=>
  zb (Yp y2) fun y3=>
  zb (zo (!y3) (zT (x.1,w64 (x.2+1))) (default:Int)) fun y4=>
  zb (zo (!(bif y3 then true else y4==45)) (Zt (x.1,w64 (x.2+1))) (default:Bool)) fun y5=>
  some (bif bif y3 then true else y4==45 then true else y5)
 else
  zb (zT (x.1,x.2)) fun y6=>
  zb (Yp y6) fun y7=>
  zb (zo (!y7) (Zt (x.1,x.2)) (default:Bool)) fun y8=>
  some (bif y7 then true else y8)
def vz(x:Str×Int):Option Bool:=
 zF (X:=Int) (
   zb (zT (x.1,x.2)) fun y1=>
   bif bif y1==43 then true else y1==45 then
    some (LX.out (w64 (x.2+1)))
   else
    some (LX.out x.2)) fun j2=>
 zF (X:=Int) (
   zb (zT (x.1,j2)) fun y3=>
   bif y3==46 then
    some (LX.out (w64 (j2+1)))
   else
    some (LX.out j2)) fun j4=>
 zb (zT (x.1,j4)) fun y5=>
 zb (zZ y5) fun y6=>
 some y6
def Xl(x:Str×Int):Option Int:=
 zY (fun(s1:Int)=>
   zb (zT (x.1,s1)) fun y2=>
   zb (zZ y2) fun y3=>
   bif y3 then
    some (LO.again (w64 (s1+1)))
   else
    some (LO.out s1):Int->Option (LO (Int) (Int) _)) x.2 fun o4=>
 some o4
def Cv(x:Str×Int):Option (Int×Bool):=
 zF (X:=Int) (
   zb (zT (x.1,x.2)) fun y1=>
   bif bif y1==43 then true else y1==45 then
    some (LX.out (w64 (x.2+1)))
   else
    some (LX.out x.2)) fun j2=>
 zb (Xl (x.1,j2)) fun y3=>
 zF (X:=Int×Bool) (
   zb (zT (x.1,y3)) fun y4=>
   zb (zo (y4==46) (zT (x.1,w64 (y3+1))) (default:Int)) fun y5=>
   zb (zo (y4==46) (zZ y5) (default:Bool)) fun y6=>
   bif bif y4==46 then y6 else false then
    zb (Xl (x.1,w64 (y3+1))) fun y7=>
    some (LX.out (y7,false))
   else
    some (LX.out (y3,true))) fun j8=>
 zF (X:=Int×Bool) (
   zb (zT (x.1,j8.1)) fun y9=>
   bif bif y9==101 then true else y9==69 then
    zF (X:=Int×Bool×Int) (
      zb (zT (x.1,w64 (j8.1+1))) fun y10=>
      bif bif y10==43 then true else y10==45 then
       some (LX.out (j8.1,j8.2,w64 (w64 (j8.1+1)+1)))
      else
       some (LX.out (j8.1,j8.2,w64 (j8.1+1)))) fun j11=>
    zb (zT (x.1,j11.2.2)) fun y12=>
    zb (zZ y12) fun y13=>
    bif y13 then
     zb (Xl (x.1,j11.2.2)) fun y14=>
     some (LX.out (y14,false))
    else
     some (LX.out (j11.1,j11.2.1))
   else
    some (LX.out (j8.1,j8.2))) fun j15=>
 some (j15.1,j15.2)
def Mv(x:Str):Option Int:=
 zb (geti x 0) fun y1=>
 zF (X:=Str×Int×Int) (
   zb (geti x 0) fun y2=>
   bif bif (y2.toNat:Int)==43 then true else(y1.toNat:Int)==45 then
    some (LX.out ([],3,1))
   else
    some (LX.out ([],3,0))) fun j3=>
 zY (fun(s4:Str×Int)=>
   zb (zT (x,s4.2)) fun y5=>
   zb (zZ y5) fun y6=>
   bif y6 then
    need (decide (0<=s4.2)&&(decide (s4.2<=w64 (s4.2+1))&&decide (w64 (s4.2+1)<=(x.length:Int))))<|
    need (Qa s4.1.length (List.drop s4.2.toNat (List.take (w64 (s4.2+1)).toNat x)).length)<|
    some (LO.again (s4.1++List.drop s4.2.toNat (List.take (w64 (s4.2+1)).toNat x),w64 (s4.2+1)))
   else
    some (LO.out (s4.1,s4.2)):Str×Int->Option (LO (Str×Int) (Str×Int) _)) (j3.1,j3.2.2) fun o7=>
 zF (X:=Str×Int×Int) (
   zb (zT (x,o7.2)) fun y8=>
   bif y8==46 then
    zY (fun(s9:Str×Int×Int)=>
      zb (zT (x,s9.2.2)) fun y10=>
      zb (zZ y10) fun y11=>
      bif y11 then
       need (decide (0<=s9.2.2)&&(decide (s9.2.2<=w64 (s9.2.2+1))&&decide (w64 (s9.2.2+1)<=(x.length:Int))))<|
       need (Qa s9.1.length (List.drop s9.2.2.toNat (List.take (w64 (s9.2.2+1)).toNat x)).length)<|
       some (LO.again (s9.1++List.drop s9.2.2.toNat (List.take (w64 (s9.2.2+1)).toNat x),w64 (s9.2.1 - 1),w64 (s9.2.2+1)))
      else
       some (LO.out (s9.1,s9.2.1,s9.2.2)):Str×Int×Int->Option (LO (Str×Int×Int) (Str×Int×Int) _)) (o7.1,j3.2.1,w64 (o7.2+1)) fun o12=>
    some (LX.out (o12.1,o12.2.1,o12.2.2))
   else
    some (LX.out (o7.1,j3.2.1,o7.2))) fun j13=>
 zF (X:=Int) (
   bif decide (j13.2.2<(x.length:Int))then
    zb (geti x (w64 (j13.2.2+1))) fun y14=>
    zF (X:=Int×Int) (
      zb (geti x (w64 (j13.2.2+1))) fun y15=>
      bif bif (y15.toNat:Int)==43 then true else(y14.toNat:Int)==45 then
       some (LX.out (j13.2.1,w64 (w64 (j13.2.2+1)+1)))
      else
       some (LX.out (j13.2.1,w64 (j13.2.2+1)))) fun j16=>
    zY (fun(s17:Int×Int)=>
      bif decide (s17.1<(x.length:Int))then
       zb (geti x s17.1) fun y18=>
       some (LO.again (w64 (s17.1+1),if w64 (w64 (10*s17.2)+w64 (wu8 ((y18.toNat:Int) - 48)))<10000 then w64 (w64 (10*s17.2)+w64 (wu8 ((y18.toNat:Int) - 48)))else 10000))
      else
       some (LO.out s17.2):Int×Int->Option (LO (Int×Int) (Int) _)) (j16.2,0) fun o19=>
    zF (X:=Int×Int) (
      bif (y14.toNat:Int)==45 then
       some (LX.out (j16.1,w64 (0 - o19)))
      else
       some (LX.out (j16.1,o19))) fun j20=>
    some (LX.out (w64 (j20.1+j20.2)))
   else
    some (LX.out j13.2.1)) fun j21=>
 zY (fun(s22:Int×Int)=>
   bif bif decide (s22.2<w64 ((j13.1.length:Int)+j21))then decide (s22.2<(j13.1.length:Int))else false then
    zb (geti j13.1 s22.2) fun y23=>
    some (LO.again (if w64 (w64 (10*s22.1)+w64 (wu8 ((y23.toNat:Int) - 48)))<1000000000000 then w64 (w64 (10*s22.1)+w64 (wu8 ((y23.toNat:Int) - 48)))else 1000000000000,w64 (s22.2+1)))
   else
    some (LO.out s22.1):Int×Int->Option (LO (Int×Int) (Int) _)) (0,0) fun o24=>
 zY (fun(s25:Int×Int)=>
   bif bif bif decide (s25.1>0)then decide (s25.2>0)else false then decide (s25.2<1000000000000)else false then
    some (LO.again (w64 (s25.1 - 1),if w64 (10*s25.2)<1000000000000 then w64 (10*s25.2)else 1000000000000))
   else
    some (LO.out s25.2):Int×Int->Option (LO (Int×Int) (Int) _)) (j21,o24) fun o26=>
 bif (y1.toNat:Int)==45 then
  some (w64 (0 - o26))
 else
  some o26
def Av(x:Str×Int):Option (zf×Int):=
 zb (Cv (x.1,x.2)) fun y1=>
 need (decide (0<=x.2)&&(decide (x.2<=y1.1)&&decide (y1.1<=(x.1.length:Int))))<|
 zb (Mv (List.drop x.2.toNat (List.take y1.1.toNat x.1))) fun y2=>
 zF (X:=Int×zf×zf) (
   zb (qH (x.1,y1.1)) fun y3=>
   bif y3 then
    zb (Bi (x.1,y1.1)) fun y4=>
    some (LX.out (y4.2,(⟨0,[],0,[],false⟩:zf),(⟨12,[],y2,y4.1,y1.2⟩:zf)))
   else
    zb (zT (x.1,y1.1)) fun y5=>
    bif y5==37 then
     some (LX.out (w64 (y1.1+1),(⟨0,[],0,[],false⟩:zf),(⟨11,[],y2,[],false⟩:zf)))
    else
     some (LX.out (y1.1,(⟨0,[],0,[],false⟩:zf),(⟨10,[],y2,[],y1.2⟩:zf)))) fun j6=>
 some (j6.2.2,j6.1)
def Xo(x:Str×Int×Str):Option Bool:=
 need (decide (0<=x.2.1)&&(decide (x.2.1<=w64 (x.2.1+(x.2.2.length:Int)))&&decide (w64 (x.2.1+(x.2.2.length:Int))<=(x.1.length:Int)))|| !(decide (w64 ((x.1.length:Int) - x.2.1)>=(x.2.2.length:Int))))<|
 some (bif decide (w64 ((x.1.length:Int) - x.2.1)>=(x.2.2.length:Int))then List.drop x.2.1.toNat (List.take (w64 (x.2.1+(x.2.2.length:Int))).toNat x.1)==x.2.2 else false)
def Qv(x:Str×Str):Option Bool:=
 zb (Qw x.1) fun y1=>
 zb (Qw x.2) fun y2=>
 some (y1==y2)
def Yo(x:Str×Int):Option (zf×Int):=
 zY (fun(s1:Int)=>
   zb (zo (decide (s1<(x.1.length:Int))) (geti x.1 s1) 0) fun y2=>
   bif bif decide (s1<(x.1.length:Int))then(y2.toNat:Int) != 41 else false then
    zb (Zt (x.1,s1)) fun y3=>
    bif y3 then
     zb (qd (x.1,s1)) fun y4=>
     some (LO.again y4.2)
    else
     some (LO.again (w64 (s1+1)))
   else
    some (LO.out s1):Int->Option (LO (Int) (Int) _)) x.2 fun o5=>
 some ((⟨8,[],0,[],false⟩:zf),if w64 (o5+1)<(x.1.length:Int)then w64 (o5+1)else(x.1.length:Int))
def OA(x:Int):Option Bool:=
 some (bif bif bif decide (x<=8)then true else x==11 then true else bif decide (x>=14)then decide (x<=31)else false then true else x==127)
def Bt(x:Str×Int):Option (zf×Int):=
 zb (Qh (x.1,x.2)) fun y1=>
 zY (fun(s2:Int×zf×zf)=>
   zb (zo (decide (s2.1<(x.1.length:Int))) (geti x.1 s2.1) 0) fun y3=>
   bif bif decide (s2.1<(x.1.length:Int))then(y3.toNat:Int) != 41 else false then
    zb (geti x.1 s2.1) fun y4=>
    zb (qz (y4.toNat:Int)) fun y5=>
    bif y5 then
     zb (Qh (x.1,s2.1)) fun y6=>
     zb (zo (decide (y6<(x.1.length:Int))) (geti x.1 y6) 0) fun y7=>
     bif bif decide (y6<(x.1.length:Int))then(y7.toNat:Int) != 41 else false then
      zb (Yo (x.1,y6)) fun y8=>
      some (LO.ret (y8.1,y8.2))
     else
      some (LO.again (y6,s2.2.1,s2.2.2))
    else
     zb (zo (!(bif bif (y4.toNat:Int)==34 then true else(y4.toNat:Int)==39 then true else(y4.toNat:Int)==40)) (OA (y4.toNat:Int)) (default:Bool)) fun y9=>
     zb (zo ((y4.toNat:Int)==92&& !(bif bif bif (y4.toNat:Int)==34 then true else(y4.toNat:Int)==39 then true else(y4.toNat:Int)==40 then true else y9)) (Zt (x.1,s2.1)) (default:Bool)) fun y10=>
     bif bif bif bif bif (y4.toNat:Int)==34 then true else(y4.toNat:Int)==39 then true else(y4.toNat:Int)==40 then true else y9 then true else bif (y4.toNat:Int)==92 then !y10 else false then
      zb (Yo (x.1,s2.1)) fun y11=>
      some (LO.ret (y11.1,y11.2))
     else
      bif (y4.toNat:Int)==92 then
       zb (qd (x.1,s2.1)) fun y12=>
       need (Qa s2.2.2.text.length y12.1.length)<|
       some (LO.again (y12.2,s2.2.1,(⟨s2.2.2.kind,s2.2.2.text++y12.1,s2.2.2.num,s2.2.2.unit,s2.2.2.flag⟩:zf)))
      else
       need (decide (0<=s2.1)&&(decide (s2.1<=w64 (s2.1+1))&&decide (w64 (s2.1+1)<=(x.1.length:Int))))<|
       need (Qa s2.2.2.text.length (List.drop s2.1.toNat (List.take (w64 (s2.1+1)).toNat x.1)).length)<|
       some (LO.again (w64 (s2.1+1),s2.2.1,(⟨s2.2.2.kind,s2.2.2.text++List.drop s2.1.toNat (List.take (w64 (s2.1+1)).toNat x.1),s2.2.2.num,s2.2.2.unit,s2.2.2.flag⟩:zf)))
   else
    some (LO.out (s2.1,s2.2.1,s2.2.2)):Int×zf×zf->Option (LO (Int×zf×zf) (Int×zf×zf) _)) (y1,(⟨0,[],0,[],false⟩:zf),(⟨7,[],0,[],false⟩:zf)) fun o13=>
 some (o13.2.2,if w64 (o13.1+1)<(x.1.length:Int)then w64 (o13.1+1)else(x.1.length:Int))
def Yt(x:Str×Int):Option (zf×Int):=
 zb (Bi (x.1,x.2)) fun y1=>
 zb (zT (x.1,y1.2)) fun y2=>
 bif y2 != 40 then
  some ((⟨1,y1.1,0,[],false⟩:zf),y1.2)
 else
  zF (X:=zf) (
    zb (Qv (y1.1,[117,114,108])) fun y3=>
    bif y3 then
     zb (Qh (x.1,w64 (y1.2+1))) fun y4=>
     zb (zT (x.1,y4)) fun y5=>
     bif bif y5 != 34 then y5 != 39 else false then
      zb (Bt (x.1,w64 (y1.2+1))) fun y6=>
      some (LX.ret (y6.1,y6.2))
     else
      some (LX.out (⟨0,[],0,[],false⟩:zf))
    else
     some (LX.out (⟨0,[],0,[],false⟩:zf))) fun j7=>
  some ((⟨2,y1.1,0,[],false⟩:zf),w64 (y1.2+1))
def mo(x:Int):Option Int:=
 bif x==58 then
  some 16
 else
  bif x==59 then
   some 17
  else
   bif x==44 then
    some 18
   else
    bif x==91 then
     some 19
    else
     bif x==93 then
      some 20
     else
      bif x==40 then
       some 21
      else
       bif x==41 then
        some 22
       else
        bif x==123 then
         some 23
        else
         bif x==125 then
          some 24
         else
          some 0
def Dt(x:Str×Int):Option (zf×Int):=
 zb (geti x.1 x.2) fun y1=>
 zb (qz (y1.toNat:Int)) fun y2=>
 bif y2 then
  zb (Qh (x.1,x.2)) fun y3=>
  some ((⟨13,[],0,[],false⟩:zf),y3)
 else
  bif bif (y1.toNat:Int)==34 then true else(y1.toNat:Int)==39 then
   zb (eu (x.1,x.2)) fun y4=>
   some (y4.1,y4.2)
  else
   zb (zo (decide (w64 (x.2+1)<(x.1.length:Int))&&(y1.toNat:Int)==35) (geti x.1 (w64 (x.2+1))) 0) fun y5=>
   zb (zo (decide (w64 (x.2+1)<(x.1.length:Int))&&(y1.toNat:Int)==35) (Yl (y5.toNat:Int)) (default:Bool)) fun y6=>
   zb (zo (!(bif decide (w64 (x.2+1)<(x.1.length:Int))then y6 else false)&&(y1.toNat:Int)==35) (Zt (x.1,w64 (x.2+1))) (default:Bool)) fun y7=>
   bif bif (y1.toNat:Int)==35 then bif bif decide (w64 (x.2+1)<(x.1.length:Int))then y6 else false then true else y7 else false then
    zb (Bi (x.1,w64 (x.2+1))) fun y8=>
    zb (qH (x.1,w64 (x.2+1))) fun y9=>
    some ((⟨4,y8.1,0,[],y9⟩:zf),y8.2)
   else
    zb (vz (x.1,x.2)) fun y10=>
    bif y10 then
     zb (Av (x.1,x.2)) fun y11=>
     some (y11.1,y11.2)
    else
     zb (Xo (x.1,x.2,[45,45,62])) fun y12=>
     bif y12 then
      some ((⟨15,[],0,[],false⟩:zf),w64 (x.2+3))
     else
      zb (Xo (x.1,x.2,[60,33,45,45])) fun y13=>
      bif y13 then
       some ((⟨14,[],0,[],false⟩:zf),w64 (x.2+4))
      else
       zb (zo ((y1.toNat:Int)==64) (qH (x.1,w64 (x.2+1))) (default:Bool)) fun y14=>
       bif bif (y1.toNat:Int)==64 then y14 else false then
        zb (Bi (x.1,w64 (x.2+1))) fun y15=>
        some ((⟨3,y15.1,0,[],false⟩:zf),y15.2)
       else
        zb (qH (x.1,x.2)) fun y16=>
        bif y16 then
         zb (Yt (x.1,x.2)) fun y17=>
         some (y17.1,y17.2)
        else
         zb (mo (y1.toNat:Int)) fun y18=>
         bif y18 != 0 then
          zb (mo (y1.toNat:Int)) fun y19=>
          some ((⟨y19,[],0,[],false⟩:zf),w64 (x.2+1))
         else
          need (decide (0<=x.2)&&(decide (x.2<=w64 (x.2+1))&&decide (w64 (x.2+1)<=(x.1.length:Int))))<|
          some ((⟨9,List.drop x.2.toNat (List.take (w64 (x.2+1)).toNat x.1),0,[],false⟩:zf),w64 (x.2+1))
def Qx(x:Int):Option Bool:=
 zb (ZT x) fun y1=>
 zb (Dt ([y1,(10:UInt8)],0)) fun y2=>
 some (bif bif bif bif decide (x>=1)then decide (x<=127)else false then x != 12 else false then x != 13 else false then y2.1.kind==9 else false)
def Wt(x:zf):Option Bool:=
 zF (X:=Bool×zf) (
   bif x.kind==1 then
    some (LX.out (x.kind==1,x))
   else
    bif x.kind==2 then
     some (LX.out (x.kind==2,x))
    else
     some (LX.out (x.kind==3,x))) fun j1=>
 bif j1.1 then
  zb (zo (!(x.text==[])) (Uj x.text) (default:Bool)) fun y2=>
  some (bif bif !(x.text==[])then y2 else false then j1.2.kind==x.kind&&(([]:Str)==[]&&(j1.2.num==0&&(j1.2.unit==[]&&(j1.2.flag==false&&true))))else false)
 else
  bif x.kind==4 then
   zb (zo (!(x.text==[])) (Uj x.text) (default:Bool)) fun y3=>
   zb (zo (!x.flag&&(bif !(x.text==[])then y3 else false)) (Xt x.text) (default:Bool)) fun y4=>
   some (bif bif bif !(x.text==[])then y3 else false then bif x.flag then true else y4 else false then j1.2.kind==x.kind&&(([]:Str)==[]&&(j1.2.num==0&&(j1.2.unit==[]&&(false==false&&true))))else false)
  else
   zF (X:=Bool×zf) (
     bif x.kind==5 then
      some (LX.out (x.kind==5,j1.2))
     else
      some (LX.out (x.kind==7,j1.2))) fun j5=>
   bif j5.1 then
    zb (Uj x.text) fun y6=>
    some (bif y6 then j5.2.kind==x.kind&&(([]:Str)==[]&&(j5.2.num==0&&(j5.2.unit==[]&&(j5.2.flag==false&&true))))else false)
   else
    bif x.kind==9 then
     zb (zo ((x.text.length:Int)==1) (geti x.text 0) 0) fun y7=>
     zb (zo ((x.text.length:Int)==1) (Qx (y7.toNat:Int)) (default:Bool)) fun y8=>
     some (bif bif (x.text.length:Int)==1 then y8 else false then j5.2.kind==x.kind&&(([]:Str)==[]&&(j5.2.num==0&&(j5.2.unit==[]&&(j5.2.flag==false&&true))))else false)
    else
     zF (X:=Bool×zf) (
       bif x.kind==10 then
        some (LX.out (x.kind==10,j5.2))
       else
        bif x.kind==11 then
         some (LX.out (x.kind==11,j5.2))
        else
         some (LX.out (x.kind==12,j5.2))) fun j9=>
     bif j9.1 then
      zb (zo ((!(x.unit==[]))==(x.kind==12)) (Uj x.unit) (default:Bool)) fun y10=>
      some (bif bif bif bif bif decide (x.num>=(-1000000000000))then decide (x.num<=1000000000000)else false then bif !x.flag then true else Int.tmod x.num 1000==0 else false then bif (!(x.unit==[]))==(x.kind==12)then y10 else false else false then bif x.kind != 11 then true else !x.flag else false then j9.2.kind==x.kind&&(j9.2.text==[]&&(0==0&&(([]:Str)==[]&&(false==false&&true))))else false)
     else
      zF (X:=Bool) (
        bif x.kind==6 then
         some (LX.out (x.kind==6))
        else
         some (LX.out (x.kind==8))) fun j11=>
      bif j11 then
       some false
      else
       some (bif bif decide (x.kind>=1)then decide (x.kind<=24)else false then x.kind==x.kind&&(x.text==[]&&(x.num==0&&(x.unit==[]&&(x.flag==false&&true))))else false)
def Wl(x:List zf):Option Int:=
 bif decide ((x.length:Int)>1500)then
  some 4
 else
  zY (fun(s1:Int)=>
    bif decide (s1<(x.length:Int))then
     zb (geti x s1) fun y2=>
     zb (Wt y2) fun y3=>
     bif !y3 then
      some (LO.ret 8)
     else
      zF (X:=Unit) (
        zb (geti x s1) fun y4=>
        zb (zo (y4.kind==2) (geti x s1) (default:zf)) fun y5=>
        zb (zo (y4.kind==2) (Qv (y5.text,[117,114,108])) (default:Bool)) fun y6=>
        bif bif y4.kind==2 then y6 else false then
         zF (X:=Int) (
           zb (zo (decide (w64 (s1+1)<(x.length:Int))) (geti x (w64 (s1+1))) (default:zf)) fun y7=>
           bif bif decide (w64 (s1+1)<(x.length:Int))then y7.kind==13 else false then
            some (LX.out (w64 (w64 (s1+1)+1)))
           else
            some (LX.out (w64 (s1+1)))) fun j8=>
         zb (zo (!(decide (j8>=(x.length:Int)))) (geti x j8) (default:zf)) fun y9=>
         bif bif decide (j8>=(x.length:Int))then true else y9.kind != 5 then
          some (LX.ret (LO.ret 8))
         else
          some (LX.out ())
        else
         some (LX.out ())) fun j10=>
      zb (geti x s1) fun y11=>
      zb (zo (y11.kind==9) (geti x s1) (default:zf)) fun y12=>
      zb (zo (!(w64 (s1+1)==(x.length:Int))&&(bif y11.kind==9 then y12.text==[92]else false)) (geti x (w64 (s1+1))) (default:zf)) fun y13=>
      bif bif bif y11.kind==9 then y12.text==[92]else false then bif w64 (s1+1)==(x.length:Int)then true else y13.kind != 13 else false then
       some (LO.ret 8)
      else
       some (LO.again (w64 (s1+1)))
    else
     some (LO.out ()):Int->Option (LO (Int) (Unit) _)) 0 fun o14=>
  some 0
def JA(qE:List ze->Option Bool)(x:List ze):Option Bool:=
 zY (fun(s1:Int)=>
   bif decide (s1<(x.length:Int))then
    zb (geti x s1) fun y2=>
    zb (zo (!(bif bif y2.token.kind==20 then true else y2.token.kind==22 then true else y2.token.kind==24)) (geti x s1) (default:ze)) fun y3=>
    zb (zo (!(bif bif y2.token.kind==20 then true else y2.token.kind==22 then true else y2.token.kind==24)) (qE y3.list) (default:Bool)) fun y4=>
    bif bif bif bif y2.token.kind==20 then true else y2.token.kind==22 then true else y2.token.kind==24 then true else y4 then
     some (LO.ret true)
    else
     some (LO.again (w64 (s1+1)))
   else
    some (LO.out ()):Int->Option (LO (Int) (Unit) _)) 0 fun o5=>
 some false
def qE:List ze->Option Bool:=recE (JA)
def yu(x:List ze):Option (List ze):=
 zY (fun(s1:List ze)=>
   zb (zo (decide ((s1.length:Int)>0)) (geti s1 0) (default:ze)) fun y2=>
   bif bif decide ((s1.length:Int)>0)then y2.token.kind==13 else false then
    need (decide (1<=(s1.length:Int)))<|
    some (LO.again (List.drop 1 s1))
   else
    some (LO.out s1):List ze->Option (LO (List ze) (List ze) _)) x fun o3=>
 zY (fun(s4:List ze)=>
   zb (zo (decide ((s4.length:Int)>0)) (geti s4 (w64 ((s4.length:Int) - 1))) (default:ze)) fun y5=>
   bif bif decide ((s4.length:Int)>0)then y5.token.kind==13 else false then
    need (decide (0<=w64 ((s4.length:Int) - 1))&&decide (w64 ((s4.length:Int) - 1)<=(s4.length:Int)))<|
    some (LO.again (List.take (w64 ((s4.length:Int) - 1)).toNat s4))
   else
    some (LO.out s4):List ze->Option (LO (List ze) (List ze) _)) o3 fun o6=>
 some o6
def cu(x:Str):Option Bool:=
 need (decide (2<=(x.length:Int))|| !(decide ((x.length:Int)>2)))<|
 some (bif decide ((x.length:Int)>2)then List.take 2 x==[45,45]else false)
def bu(x:Str×List ze):Option Bool:=
 zb (Eu x.2) fun y1=>
 zb (zo (!(y1 != 0)) (qo x.2) (default:List zf)) fun y2=>
 zb (zo (!(y1 != 0)) (Wl y2) (default:Int)) fun y3=>
 zb (zo (!(bif y1 != 0 then true else y3 != 0)) (qE x.2) (default:Bool)) fun y4=>
 bif bif bif y1 != 0 then true else y3 != 0 then true else y4 then
  some false
 else
  zb (yu x.2) fun y5=>
  zb (zo ((x.2.length:Int)==0&& !((y5.length:Int) != (x.2.length:Int))) (cu x.1) (default:Bool)) fun y6=>
  bif bif (y5.length:Int) != (x.2.length:Int)then true else bif (x.2.length:Int)==0 then !y6 else false then
   some false
  else
   zY (fun(s7:Int)=>
     bif decide (s7<(x.2.length:Int))then
      zb (geti x.2 s7) fun y8=>
      bif bif y8.token.kind==17 then true else bif y8.token.kind==9 then y8.token.text==[33]else false then
       some (LO.ret false)
      else
       some (LO.again (w64 (s7+1)))
     else
      some (LO.out ()):Int->Option (LO (Int) (Unit) _)) 0 fun o9=>
   some true
def Dp(x:zB):Option Int:=
 zb (Cu x.name) fun y1=>
 zb (zo (!(!y1)) (bu (x.name,x.value)) (default:Bool)) fun y2=>
 bif bif !y1 then true else !y2 then
  some 8
 else
  some 0
def Bu(x:zB):Option Bool:=
 some (bif bif x.name==[]then(x.value.length:Int)==0 else false then !x.important else false)
def Dm(x:zh):Option Bool:=
 zb (zo (bif x.name==[]then x.num==0 else false) (Bu x.decl) (default:Bool)) fun y1=>
 some (bif bif x.name==[]then x.num==0 else false then y1 else false)
def NA(ZC:zh->Option Bool)(x:zh):Option Bool:=
 bif x.kind==7 then
  zb (zo (bif bif x.name==[]then x.num==0 else false then(x.list.length:Int)==0 else false) (Dp x.decl) (default:Int)) fun y1=>
  some (bif bif bif x.name==[]then x.num==0 else false then(x.list.length:Int)==0 else false then y1==0 else false)
 else
  bif x.kind==8 then
   zb (Dm (⟨x.kind,x.name,x.num,x.decl,x.list⟩:zh)) fun y2=>
   some (bif y2 then(x.list.length:Int)==0 else false)
  else
   bif x.kind==3 then
    zb (Dm (⟨x.kind,x.name,x.num,x.decl,x.list⟩:zh)) fun y3=>
    zb (zo (bif y3 then(x.list.length:Int)==1 else false) (geti x.list 0) (default:zh)) fun y4=>
    zb (zo (bif y3 then(x.list.length:Int)==1 else false) (ZC (⟨y4.kind,y4.name,y4.num,y4.decl,y4.list⟩:zh)) (default:Bool)) fun y5=>
    some (bif bif y3 then(x.list.length:Int)==1 else false then y5 else false)
   else
    zF (X:=Bool) (
      bif x.kind==1 then
       some (LX.out (x.kind==1))
      else
       some (LX.out (x.kind==2))) fun j6=>
    bif j6 then
     zb (Dm (⟨x.kind,x.name,x.num,x.decl,x.list⟩:zh)) fun y7=>
     bif bif !y7 then true else decide ((x.list.length:Int)<2)then
      some false
     else
      zY (fun(s8:Int)=>
        bif decide (s8<(x.list.length:Int))then
         zb (geti x.list s8) fun y9=>
         zb (ZC (⟨y9.kind,y9.name,y9.num,y9.decl,y9.list⟩:zh)) fun y10=>
         bif !y10 then
          some (LO.ret false)
         else
          some (LO.again (w64 (s8+1)))
        else
         some (LO.out ()):Int->Option (LO (Int) (Unit) _)) 0 fun o11=>
      some true
    else
     some false
def ZC:zh->Option Bool:=recE (NA)
def Pv(x:zh):Option Bool:=
 zb (qj ((⟨x.kind,x.name,x.num,x.decl,x.list⟩:zh),1500)) fun y1=>
 zb (zo (decide (y1<=1500)) (Di (⟨x.kind,x.name,x.num,x.decl,x.list⟩:zh)) (default:Int)) fun y2=>
 zb (zo (bif decide (y1<=1500)then decide (y2<=16)else false) (ZC (⟨x.kind,x.name,x.num,x.decl,x.list⟩:zh)) (default:Bool)) fun y3=>
 some (bif bif decide (y1<=1500)then decide (y2<=16)else false then y3 else false)
def slices_Index_string(x:List Str×Str):Option Int:=
 zY (fun(s1:Int)=>
   bif decide (s1<(x.1.length:Int))then
    zb (geti x.1 s1) fun y2=>
    bif x.2==y2 then
     some (LO.ret s1)
    else
     some (LO.again (w64 (s1+1)))
   else
    some (LO.out ()):Int->Option (LO (Int) (Unit) _)) 0 fun o3=>
 some (-1)
def slices_Contains_string(x:List Str×Str):Option Bool:=
 zb (slices_Index_string (x.1,x.2)) fun y1=>
 some (decide (y1>=0))
def Q3(x:Str):Option Bool:=
 zb (slices_Contains_string ([[],[97,110,100],[111,114],[110,111,116],[111,110,108,121]],x)) fun y1=>
 zb (zo (bif !y1 then decide ((x.length:Int)<=64)else false) (ZJ x) (default:Str)) fun y2=>
 zb (zo (bif bif !y1 then decide ((x.length:Int)<=64)else false then y2==x else false) (strings_IndexByte (x,0)) (default:Int)) fun y3=>
 some (bif bif bif !y1 then decide ((x.length:Int)<=64)else false then y2==x else false then decide (y3<0)else false)
def Wj(x:List Int):Option Int:=
 zY (fun(s1:Int)=>
   bif decide (s1<(x.length:Int))then
    zb (geti x s1) fun y2=>
    bif bif decide (y2<(-1000000000000))then true else decide (y2>1000000000000)then
     some (LO.ret 8)
    else
     some (LO.again (w64 (s1+1)))
   else
    some (LO.out ()):Int->Option (LO (Int) (Unit) _)) 0 fun o3=>
 some 0
def Q5(x:Int):Option Int:=
 zb (Wj [x]) fun y1=>
 some y1
def Tj(x:zh):Option Bool:=
 zb (zo (!(x.kind != 1)) (ZZ (⟨x.kind,x.name,x.num,x.decl,x.list⟩:zh)) (default:Bool)) fun y1=>
 bif bif bif x.kind != 1 then true else !y1 then true else(x.list.length:Int)==0 then
  some false
 else
  zY (fun(s2:Int)=>
    bif decide (s2<(x.list.length:Int))then
     zF (X:=Int) (
       zb (geti x.list s2) fun y3=>
       zb (zo (!(decide ((y3.list.length:Int)>0))) (ZZ (⟨y3.kind,[],0,y3.decl,y3.list⟩:zh)) (default:Bool)) fun y4=>
       bif bif decide ((y3.list.length:Int)>0)then true else !y4 then
        some (LX.ret (LO.ret false))
       else
        bif y3.kind==4 then
         zb (zo (!(bif decide (s2>0)then true else y3.num != 0)) (Q3 y3.name) (default:Bool)) fun y5=>
         bif bif bif decide (s2>0)then true else y3.num != 0 then true else !y5 then
          some (LX.ret (LO.ret false))
         else
          some (LX.out s2)
        else
         zF (X:=Bool) (
           bif y3.kind==5 then
            some (LX.out (y3.kind==5))
           else
            some (LX.out (y3.kind==6))) fun j6=>
         bif j6 then
          zb (zo (!(bif !(y3.name==[])then true else decide (y3.num<0))) (Q5 y3.num) (default:Int)) fun y7=>
          bif bif bif !(y3.name==[])then true else decide (y3.num<0)then true else y7 != 0 then
           some (LX.ret (LO.ret false))
          else
           some (LX.out s2)
         else
          some (LX.ret (LO.ret false))) fun j8=>
     some (LO.again (w64 (j8+1)))
    else
     some (LO.out ()):Int->Option (LO (Int) (Unit) _)) 0 fun o9=>
  some true
def vo(x:zh):Option Bool:=
 zb (zo (decide ((x.list.length:Int)>0)) (geti x.list 0) (default:zh)) fun y1=>
 some (bif decide ((x.list.length:Int)>0)then y1.kind==4 else false)
def Jl(x:zh):Option Bool:=
 bif x.kind==3 then
  zb (ZZ (⟨x.kind,x.name,x.num,x.decl,x.list⟩:zh)) fun y1=>
  zb (zo (bif y1 then(x.list.length:Int)==1 else false) (geti x.list 0) (default:zh)) fun y2=>
  zb (zo (bif y1 then(x.list.length:Int)==1 else false) (Tj (⟨y2.kind,y2.name,y2.num,y2.decl,y2.list⟩:zh)) (default:Bool)) fun y3=>
  zb (zo (bif bif y1 then(x.list.length:Int)==1 else false then y3 else false) (geti x.list 0) (default:zh)) fun y4=>
  zb (zo (bif bif y1 then(x.list.length:Int)==1 else false then y3 else false) (vo (⟨y4.kind,y4.name,y4.num,y4.decl,y4.list⟩:zh)) (default:Bool)) fun y5=>
  some (bif bif bif y1 then(x.list.length:Int)==1 else false then y3 else false then y5 else false)
 else
  zb (Tj (⟨x.kind,x.name,x.num,x.decl,x.list⟩:zh)) fun y6=>
  some y6
def qw(x:zh):Option Bool:=
 zb (Jl (⟨x.kind,x.name,x.num,x.decl,x.list⟩:zh)) fun y1=>
 some (!y1)
def Z4(x:List zh):Option Int:=
 zY (fun(s1:Int)=>
   bif decide (s1<(x.length:Int))then
    zb (geti x s1) fun y2=>
    zb (qw (⟨y2.kind,y2.name,y2.num,y2.decl,y2.list⟩:zh)) fun y3=>
    bif y3 then
     some (LO.ret s1)
    else
     some (LO.again (w64 (s1+1)))
   else
    some (LO.out ()):Int->Option (LO (Int) (Unit) _)) 0 fun o4=>
 some (-1)
def Zj(x:List zh):Option Bool:=
 zb (Z4 x) fun y1=>
 some (decide (y1>=0))
def Z8(x:zh):Option Int:=
 zb (zo (bif bif x.kind==2 then decide ((x.list.length:Int)>0)else false then decide ((x.list.length:Int)<=64)else false) (Zj x.list) (default:Bool)) fun y1=>
 zb (ZZ (⟨x.kind,x.name,x.num,x.decl,x.list⟩:zh)) fun y2=>
 bif bif !y2 then true else bif !(bif x.kind==1 then(x.list.length:Int)==0 else false)then !(bif bif bif x.kind==2 then decide ((x.list.length:Int)>0)else false then decide ((x.list.length:Int)<=64)else false then !y1 else false)else false then
  some 8
 else
  some 0
def mh(x:zh):Option Int:=
 zb (Z8 (⟨x.kind,x.name,x.num,x.decl,x.list⟩:zh)) fun y1=>
 bif y1 != 0 then
  zb (Ze (⟨x.kind,x.name,x.num,x.decl,x.list⟩:zh)) fun y2=>
  some y2
 else
  some 0
def ll(x:Int×List Bool):Option (Bool×Int):=
 zb (geti x.2 (w64 (w64 (x.1+1) - 1))) fun y1=>
 some (y1,w64 (x.1+1))
def sj(Z0:(zh×Int)×Int×List Bool->Option (Bool×Int))(x:(zh×Int)×Int×List Bool):Option (Bool×Int):=
 bif x.1.1.kind==4 then
  some (bif x.1.1.name==[97,108,108]then true else x.1.1.name==[115,99,114,101,101,110],x.2.1)
 else
  bif x.1.1.kind==5 then
   some (decide (x.1.2>=x.1.1.num),x.2.1)
  else
   bif x.1.1.kind==6 then
    some (decide (x.1.2<=x.1.1.num),x.2.1)
   else
    bif x.1.1.kind==7 then
     zb (ll (x.2.1,x.2.2)) fun y1=>
     some (y1.1,y1.2)
    else
     bif x.1.1.kind==8 then
      some (false,x.2.1)
     else
      zY (fun(s2:(Bool×Bool×Int)×Int)=>
        bif decide (s2.1.2.2<(x.1.1.list.length:Int))then
         zb (geti x.1.1.list s2.1.2.2) fun y3=>
         zb (Z0 (((⟨y3.kind,y3.name,y3.num,y3.decl,y3.list⟩:zh),x.1.2),s2.2,x.2.2)) fun y4=>
         some (LO.again ((bif s2.1.1 then y4.1 else false,bif s2.1.2.1 then true else y4.1,w64 (s2.1.2.2+1)),y4.2))
        else
         some (LO.out ((s2.1.1,s2.1.2.1),s2.2)):(Bool×Bool×Int)×Int->Option (LO ((Bool×Bool×Int)×Int) ((Bool×Bool)×Int) _)) ((true,false,0),x.2.1) fun o5=>
      bif x.1.1.kind==1 then
       some (o5.1.1,o5.2)
      else
       bif x.1.1.kind==2 then
        some (o5.1.2,o5.2)
       else
        some (!o5.1.2,o5.2)
def Z0:(zh×Int)×Int×List Bool->Option (Bool×Int):=recE (sj)
def Qk(x:zh×VEnv×List Bool):Option (Bool×Int):=
 zb (mh (⟨x.1.kind,x.1.name,x.1.num,x.1.decl,x.1.list⟩:zh)) fun y1=>
 bif y1 != 0 then
  some (false,y1)
 else
  zb (zo (!(bif decide (x.2.1.width<0)then true else decide (x.2.1.width>1000000000))) (Zx (⟨x.1.kind,x.1.name,x.1.num,x.1.decl,x.1.list⟩:zh)) (default:List zB)) fun y2=>
  bif bif bif decide (x.2.1.width<0)then true else decide (x.2.1.width>1000000000)then true else(x.2.2.length:Int) != (y2.length:Int)then
   some (false,2)
  else
   zb (Z0 (((⟨x.1.kind,x.1.name,x.1.num,x.1.decl,x.1.list⟩:zh),w64 (1000*x.2.1.width)),0,x.2.2)) fun y3=>
   some (y3.1,0)
def qy(x:Str):Option Int:=
 zb (strings_HasPrefix (x,[45])) fun y1=>
 bif y1 then
  some 2
 else
  some 1
def Zv(x:Int×List UInt8):Option (List UInt8):=
 zb (zo (bif decide (x.1>32)then decide (x.1<127)else false) (qh x.1) (default:Bool)) fun y1=>
 zb (zo (bif bif decide (x.1>32)then decide (x.1<127)else false then !y1 else false) (Ou x.1) (default:Bool)) fun y2=>
 bif bif bif bif decide (x.1>32)then decide (x.1<127)else false then !y1 else false then !y2 else false then
  zb (ZT x.1) fun y3=>
  need (zQ x.2.length 2 1)<|
  some (x.2++[(92:UInt8),y3])
 else
  need (zQ x.2.length 1 1)<|
  zb (Fy ((wu64 x.1,16),x.2++[(92:UInt8)])) fun y4=>
  need (zQ y4.length 1 1)<|
  some (y4++[(32:UInt8)])
def Nu(x:Str×Int):Option (List UInt8):=
 zY (fun(s1:Int×List UInt8)=>
   bif decide (s1.1<(x.1.length:Int))then
    zF (X:=Int×List UInt8) (
      zb (geti x.1 s1.1) fun y2=>
      zb (lh (y2.toNat:Int)) fun y3=>
      zb (zo (!(decide (s1.1>=x.2))&&y3) (qh (y2.toNat:Int)) (default:Bool)) fun y4=>
      bif bif bif y3 then bif decide (s1.1>=x.2)then true else !y4 else false then bif x.2==0 then true else !(x.1==[45])else false then
       zb (ZT (y2.toNat:Int)) fun y5=>
       need (zQ s1.2.length 1 1)<|
       some (LX.out (s1.1,s1.2++[y5]))
      else
       zb (Zv ((y2.toNat:Int),s1.2)) fun y6=>
       some (LX.out (s1.1,y6))) fun j7=>
    some (LO.again (w64 (j7.1+1),j7.2))
   else
    some (LO.out s1.2):Int×List UInt8->Option (LO (Int×List UInt8) (List UInt8) _)) (0,[]) fun o8=>
 some o8
def Ml(x:Str):Option (Str×Int):=
 zb (zo (!(x==[])) (strings_IndexByte (x,0)) (default:Int)) fun y1=>
 bif bif x==[]then true else decide (y1>=0)then
  some ([],8)
 else
  zb (qy x) fun y2=>
  zb (Nu (x,y2)) fun y3=>
  bif bif decide ((x.length:Int)>4000)then true else decide ((y3.length:Int)>4000)then
   some ([],28)
  else
   some (y3,0)
def qC(x:Int×Int×List UInt8):Option (Int×List UInt8):=
 need (decide (0<=w64 (x.2.1 - 1))&&(decide (w64 (x.2.1 - 1)<20)&&decide (w64 (x.2.1 - 1)<(x.2.2.length:Int))))<|
 zb (x.2.2[(w64 (x.2.1 - 1)).toNat]?) fun y1=>
 zb (ZT x.1) fun y2=>
 some (w64 (x.2.1 - 1),List.set x.2.2 (w64 (x.2.1 - 1)).toNat y2)
def Fu(x:Int):Option (Str×Int):=
 zb (Wj [x]) fun y1=>
 bif y1 != 0 then
  some ([],y1)
 else
  zF (X:=Int) (
    bif decide (x<0)then
     some (LX.out (w64 (0 - x)))
    else
     some (LX.out x)) fun j2=>
  zY (fun(s3:(Int×Int)×List UInt8×Int)=>
    bif decide (s3.1.2<3)then
     zF (X:=(Int×Int)×List UInt8×Int) (
       zF (X:=Int×List UInt8×Int) (
         bif bif Int.tmod s3.1.1 10 != 0 then true else decide (s3.2.2<20)then
          zb (qC (wu8 (w64 (48+Int.tmod s3.1.1 10)),s3.2.2,s3.2.1)) fun y4=>
          some (LX.out (s3.1.1,y4.2,y4.1))
         else
          some (LX.out (s3.1.1,s3.2.1,s3.2.2))) fun j5=>
       bif bif s3.1.2==2 then decide (j5.2.2<20)else false then
        zb (qC (46,j5.2.2,j5.2.1)) fun y6=>
        some (LX.out ((w64 (Int.tdiv j5.1 10),s3.1.2),y6.2,y6.1))
       else
        some (LX.out ((w64 (Int.tdiv j5.1 10),s3.1.2),j5.2.1,j5.2.2))) fun j7=>
     some (LO.again ((j7.1.1,w64 (j7.1.2+1)),j7.2.1,j7.2.2))
    else
     some (LO.out (s3.2.1,s3.2.2)):(Int×Int)×List UInt8×Int->Option (LO ((Int×Int)×List UInt8×Int) (List UInt8×Int) _)) ((Int.tmod j2 1000,0),List.replicate 20 (0:UInt8),20) fun o8=>
  zY (fun(s9:Int×List UInt8×Int)=>
    zb (qC (wu8 (w64 (48+Int.tmod s9.1 10)),s9.2.2,s9.2.1)) fun y10=>
    bif decide (s9.1<10)then
     some (LO.out (y10.2,y10.1))
    else
     some (LO.again (w64 (Int.tdiv s9.1 10),y10.2,y10.1)):Int×List UInt8×Int->Option (LO (Int×List UInt8×Int) (List UInt8×Int) _)) (w64 (Int.tdiv j2 1000),o8.1,o8.2) fun o11=>
  zF (X:=List UInt8×Int) (
    bif decide (x<0)then
     zb (qC (45,o11.2,o11.1)) fun y12=>
     some (LX.out (y12.2,y12.1))
    else
     some (LX.out (o11.1,o11.2))) fun j13=>
  need (decide (0<=j13.2)&&decide (j13.2<=20)&&Nat.beq j13.1.length 20)<|
  need (decide (j13.2.toNat+(20 - j13.2.toNat)<=j13.1.length))<|
  some (List.take (20 - j13.2.toNat) (List.drop j13.2.toNat j13.1),0)
def Vo(zX:zh->Option Str)(x:List zh×Str):Option Str:=
 zY (fun(s1:Int×List Str)=>
   bif decide (s1.1<(x.1.length:Int))then
    zb (geti x.1 s1.1) fun y2=>
    zb (zX (⟨y2.kind,y2.name,y2.num,y2.decl,y2.list⟩:zh)) fun y3=>
    need (zQ s1.2.length 1 16)<|
    some (LO.again (w64 (s1.1+1),s1.2++[y3]))
   else
    some (LO.out s1.2):Int×List Str->Option (LO (Int×List Str) (List Str) _)) (0,[]) fun o4=>
 zb (wh (o4,x.2)) fun y5=>
 some y5
def Tu(zX:zh->Option Str)(x:zh):Option Str:=
 bif x.kind==4 then
  zb (Ml x.name) fun y1=>
  some y1.1
 else
  bif x.kind==3 then
   zb (geti x.list 0) fun y2=>
   zb (zX (⟨y2.kind,y2.name,y2.num,y2.decl,y2.list⟩:zh)) fun y3=>
   need (Qa ([110,111,116,32]:Str).length y3.length)<|
   some (([110,111,116,32]:Str)++y3)
  else
   bif x.kind==2 then
    zb (Vo zX (x.list,[44,32])) fun y4=>
    some y4
   else
    bif x.kind==1 then
     zb (Vo zX (x.list,[32,97,110,100,32])) fun y5=>
     some y5
    else
     zb (Fu x.num) fun y6=>
     bif x.kind==5 then
      need (Qa ([40,109,105,110,45,119,105,100,116,104,58,32]:Str).length y6.1.length)<|
      need (Qa (([40,109,105,110,45,119,105,100,116,104,58,32]:Str)++y6.1).length ([112,120,41]:Str).length)<|
      some (([40,109,105,110,45,119,105,100,116,104,58,32]:Str)++y6.1++([112,120,41]:Str))
     else
      need (Qa ([40,109,97,120,45,119,105,100,116,104,58,32]:Str).length y6.1.length)<|
      need (Qa (([40,109,97,120,45,119,105,100,116,104,58,32]:Str)++y6.1).length ([112,120,41]:Str).length)<|
      some (([40,109,97,120,45,119,105,100,116,104,58,32]:Str)++y6.1++([112,120,41]:Str))
def zX:zh->Option Str:=recE (Tu)
def Q6(x:(Str×Int)×List UInt8):Option (List UInt8):=
 zY (fun(s1:Int×List UInt8)=>
   bif decide (s1.1<(x.1.1.length:Int))then
    zF (X:=Int×List UInt8) (
      zb (geti x.1.1 s1.1) fun y2=>
      zb (lh (y2.toNat:Int)) fun y3=>
      zb (zo (!(decide (s1.1>=x.1.2))&&y3) (qh (y2.toNat:Int)) (default:Bool)) fun y4=>
      bif bif bif y3 then bif decide (s1.1>=x.1.2)then true else !y4 else false then bif x.1.2==0 then true else !(x.1.1==[45])else false then
       zb (ZT (y2.toNat:Int)) fun y5=>
       need (zQ s1.2.length 1 1)<|
       some (LX.out (s1.1,s1.2++[y5]))
      else
       zb (Zv ((y2.toNat:Int),s1.2)) fun y6=>
       some (LX.out (s1.1,y6))) fun j7=>
    some (LO.again (w64 (j7.1+1),j7.2))
   else
    some (LO.out s1.2):Int×List UInt8->Option (LO (Int×List UInt8) (List UInt8) _)) (0,x.2) fun o8=>
 some o8
def gy(x:Unit):Option zaV:=
 some (⟨[32],[60,33,45,45],[45,45,62],[58],[59],[44],[91],[93],[40],[41],[123],[125]⟩:zaV)
def QQ(x:(Int×Bool)×List UInt8):Option (List UInt8):=
 zF (X:=Int×List UInt8) (
   bif decide (x.1.1<0)then
    need (zQ x.2.length 1 1)<|
    some (LX.out (w64 (0 - x.1.1),x.2++[(45:UInt8)]))
   else
    some (LX.out (x.1.1,x.2))) fun j1=>
 zb (Gy ((w64 (Int.tdiv j1.1 1000),10),j1.2)) fun y2=>
 zb (yw (w64 (1000+Int.tmod j1.1 1000),10)) fun y3=>
 need (decide (1<=(y3.length:Int)))<|
 zb (Bn (List.drop 1 y3,[48])) fun y4=>
 zF (X:=List UInt8) (
   bif !(y4==[])then
    need (zQ y2.length 1 1)<|
    need (zQ (y2++[(46:UInt8)]).length y4.length 1)<|
    some (LX.out (y2++[(46:UInt8)]++y4))
   else
    bif x.1.2 then
     need (zQ y2.length ([46,48]:Str).length 1)<|
     some (LX.out (y2++([46,48]:Str)))
    else
     some (LX.out y2)) fun j5=>
 some j5
def Lu(x:zf×List UInt8):Option (List UInt8):=
 bif x.1.kind==1 then
  zb (qy x.1.text) fun y1=>
  zb (Q6 ((x.1.text,y1),x.2)) fun y2=>
  some y2
 else
  bif x.1.kind==2 then
   zb (qy x.1.text) fun y3=>
   zb (Q6 ((x.1.text,y3),x.2)) fun y4=>
   need (zQ y4.length 1 1)<|
   some (y4++[(40:UInt8)])
  else
   bif x.1.kind==3 then
    need (zQ x.2.length 1 1)<|
    zb (qy x.1.text) fun y5=>
    zb (Q6 ((x.1.text,y5),x.2++[(64:UInt8)])) fun y6=>
    some y6
   else
    bif x.1.kind==4 then
     zF (X:=Int×List UInt8) (
       bif x.1.flag then
        zb (qy x.1.text) fun y7=>
        some (LX.out (y7,x.2))
       else
        some (LX.out (0,x.2))) fun j8=>
     need (zQ j8.2.length 1 1)<|
     zb (Q6 ((x.1.text,j8.1),j8.2++[(35:UInt8)])) fun y9=>
     some y9
    else
     bif x.1.kind==5 then
      need (zQ x.2.length 1 1)<|
      need (decide (x.1.text.length<=maxLen))<|
      zY (fun(s10:Int×List UInt8)=>
        bif decide (s10.1<(x.1.text.length:Int))then
         zF (X:=Int×List UInt8) (
           need (decide (0<=s10.1)&&decide (s10.1<(x.1.text.length:Int)))<|
           zb x.1.text[s10.1.toNat]? fun y11=>
           zb (strings_IndexByte ([10,12,13,34,92],(y11.toNat:Int))) fun y12=>
           bif decide (y12>=0)then
            zb (Zv ((y11.toNat:Int),s10.2)) fun y13=>
            some (LX.out (s10.1,y13))
           else
            zb (ZT (y11.toNat:Int)) fun y14=>
            need (zQ s10.2.length 1 1)<|
            some (LX.out (s10.1,s10.2++[y14]))) fun j15=>
         some (LO.again (w64 (j15.1+1),j15.2))
        else
         some (LO.out s10.2):Int×List UInt8->Option (LO (Int×List UInt8) (List UInt8) _)) (0,x.2++[(34:UInt8)]) fun o16=>
      need (zQ o16.length 1 1)<|
      some (o16++[(34:UInt8)])
     else
      bif x.1.kind==7 then
       need (zQ x.2.length ([117,114,108,40]:Str).length 1)<|
       need (decide (x.1.text.length<=maxLen))<|
       zY (fun(s17:Int×List UInt8)=>
         bif decide (s17.1<(x.1.text.length:Int))then
          zF (X:=Int×List UInt8) (
            need (decide (0<=s17.1)&&decide (s17.1<(x.1.text.length:Int)))<|
            zb x.1.text[s17.1.toNat]? fun y18=>
            zb (zo (!(decide ((y18.toNat:Int)<=32))) (strings_IndexByte ([34,39,40,41,92,127],(y18.toNat:Int))) (default:Int)) fun y19=>
            bif bif decide ((y18.toNat:Int)<=32)then true else decide (y19>=0)then
             zb (Zv ((y18.toNat:Int),s17.2)) fun y20=>
             some (LX.out (s17.1,y20))
            else
             zb (ZT (y18.toNat:Int)) fun y21=>
             need (zQ s17.2.length 1 1)<|
             some (LX.out (s17.1,s17.2++[y21]))) fun j22=>
          some (LO.again (w64 (j22.1+1),j22.2))
         else
          some (LO.out s17.2):Int×List UInt8->Option (LO (Int×List UInt8) (List UInt8) _)) (0,x.2++([117,114,108,40]:Str)) fun o23=>
       need (zQ o23.length 1 1)<|
       some (o23++[(41:UInt8)])
      else
       bif x.1.kind==9 then
        need (zQ x.2.length x.1.text.length 1)<|
        some (x.2++x.1.text)
       else
        bif x.1.kind==10 then
         zb (QQ ((x.1.num, !x.1.flag),x.2)) fun y24=>
         some y24
        else
         bif x.1.kind==11 then
          zb (QQ ((x.1.num,false),x.2)) fun y25=>
          need (zQ y25.length 1 1)<|
          some (y25++[(37:UInt8)])
         else
          bif x.1.kind==12 then
           zb (QQ ((x.1.num, !x.1.flag),x.2)) fun y26=>
           zb (geti x.1.unit 0) fun y27=>
           need (decide (1<=(x.1.unit.length:Int))|| !(ibOr IntKind.u8 (y27.toNat:Int) 32==101))<|
           zb (zo (ibOr IntKind.u8 (y27.toNat:Int) 32==101) (aj (List.drop 1 x.1.unit)) (default:Bool)) fun y28=>
           need (decide (1<=(x.1.unit.length:Int))|| !(bif ibOr IntKind.u8 (y27.toNat:Int) 32==101 then y28 else false))<|
           zb (zo (bif ibOr IntKind.u8 (y27.toNat:Int) 32==101 then y28 else false) (strings_HasPrefix (List.drop 1 x.1.unit,[45,45])) (default:Bool)) fun y29=>
           bif bif bif ibOr IntKind.u8 (y27.toNat:Int) 32==101 then y28 else false then !y29 else false then
            zb (geti x.1.unit 0) fun y30=>
            zb (Zv ((y30.toNat:Int),y26)) fun y31=>
            need (decide (1<=(x.1.unit.length:Int)))<|
            zb (Q6 ((List.drop 1 x.1.unit,0),y31)) fun y32=>
            some y32
           else
            zb (qy x.1.unit) fun y33=>
            zb (Q6 ((x.1.unit,y33),y26)) fun y34=>
            some y34
          else
           zb (gy ()) fun y35=>
           zb (geti [y35.e0,y35.e1,y35.e2,y35.e3,y35.e4,y35.e5,y35.e6,y35.e7,y35.e8,y35.e9,y35.e10,y35.e11] (wu8 (x.1.kind - 13))) fun y36=>
           need (zQ x.2.length y36.length 1)<|
           some (x.2++y36)
def ZQ(x:za):Option za:=
 zY (fun(s1:za)=>
   need (decide (0<=s1.at_)&&decide (s1.at_<=(s1.s.length:Int)))<|
   zb (strings_HasPrefix (List.drop s1.at_.toNat s1.s,[47,42])) fun y2=>
   bif y2 then
    need (decide (0<=w64 (s1.at_+2))&&decide (w64 (s1.at_+2)<=(s1.s.length:Int)))<|
    zb (Dj (List.drop (w64 (s1.at_+2)).toNat s1.s,[42,47])) fun y3=>
    bif decide (y3<0)then
     some (LO.ret (⟨s1.s,(s1.s.length:Int)⟩:za))
    else
     some (LO.again (⟨s1.s,w64 (s1.at_+w64 (y3+4))⟩:za))
   else
    some (LO.out s1):za->Option (LO (za) (za) _)) x fun o4=>
 some o4
def zg(x:Int×za):Option Int:=
 bif decide (w64 (x.2.at_+x.1)<(x.2.s.length:Int))then
  zb (geti x.2.s (w64 (x.2.at_+x.1))) fun y1=>
  some (w64 (y1.toNat:Int))
 else
  some (-1)
def ZM(x:Int):Option Bool:=
 some (bif bif x==32 then true else x==9 then true else x==10)
def Zg(x:za):Option za:=
 zY (fun(s1:za)=>
   zb (zg (0,s1)) fun y2=>
   zb (ZM y2) fun y3=>
   bif y3 then
    some (LO.again (⟨s1.s,w64 (s1.at_+1)⟩:za))
   else
    some (LO.out s1):za->Option (LO (za) (za) _)) x fun o4=>
 some o4
def UH(x:Int):Option (List UInt8):=
 bif decide (wu32 x<=2047)then
  zb (ZT (ibOr IntKind.u8 192 (wu8 (mg IntKind.i32 x 6)))) fun y1=>
  zb (ZT (ibOr IntKind.u8 128 (ng IntKind.u8 (wu8 x) 63))) fun y2=>
  need (zQ 0 2 1)<|
  some [y1,y2]
 else
  zF (X:=Bool) (
    bif decide (wu32 x<55296)then
     some (LX.out (decide (wu32 x<55296)))
    else
     some (LX.out (bif decide (57343<wu32 x)then decide (wu32 x<=65535)else false))) fun j3=>
  bif j3 then
   zb (ZT (ibOr IntKind.u8 224 (wu8 (mg IntKind.i32 x 12)))) fun y4=>
   zb (ZT (ibOr IntKind.u8 128 (ng IntKind.u8 (wu8 (mg IntKind.i32 x 6)) 63))) fun y5=>
   zb (ZT (ibOr IntKind.u8 128 (ng IntKind.u8 (wu8 x) 63))) fun y6=>
   need (zQ 0 3 1)<|
   some [y4,y5,y6]
  else
   bif bif decide (wu32 x>65535)then decide (wu32 x<=1114111)else false then
    zb (ZT (ibOr IntKind.u8 240 (wu8 (mg IntKind.i32 x 18)))) fun y7=>
    zb (ZT (ibOr IntKind.u8 128 (ng IntKind.u8 (wu8 (mg IntKind.i32 x 12)) 63))) fun y8=>
    zb (ZT (ibOr IntKind.u8 128 (ng IntKind.u8 (wu8 (mg IntKind.i32 x 6)) 63))) fun y9=>
    zb (ZT (ibOr IntKind.u8 128 (ng IntKind.u8 (wu8 x) 63))) fun y10=>
    need (zQ 0 4 1)<|
    some [y7,y8,y9,y10]
   else
    need (zQ 0 3 1)<|
    some [(239:UInt8),(191:UInt8),(189:UInt8)]
def Qm(x:Int):Option (List UInt8):=
 bif decide (wu32 x<=127)then
  zb (ZT (wu8 x)) fun y1=>
  need (zQ 0 1 1)<|
  some [y1]
 else
  zb (UH x) fun y2=>
  some y2
def Qj(x:Int×Int×Int):Option Bool:=
 some (bif decide (x.2.1<=x.1)then decide (x.1<=x.2.2)else false)
def ZX(x:Int):Option Bool:=
 zb (Qj (x,48,57)) fun y1=>
 some y1
def dh(x:Int):Option Int:=
 zb (ZX x) fun y1=>
 bif y1 then
  some (w64 (x - 48))
 else
  zb (zo (x != (-1)) (Qj (ibOr IntKind.i64 x 32,97,102)) (default:Bool)) fun y2=>
  bif bif bif bif x != (-1)then y2 else false then decide (x>64)else false then decide (x<128)else false then
   some (w64 (w64 (ibOr IntKind.i64 x 32 - 97)+10))
  else
   some (-1)
def qf(x:za):Option (za×List UInt8):=
 zb (zg (0,(⟨x.s,w64 (x.at_+1)⟩:za))) fun y1=>
 bif y1==(-1)then
  zb (Qm 65533) fun y2=>
  some ((⟨x.s,w64 (x.at_+1)⟩:za),y2)
 else
  zb (dh y1) fun y3=>
  bif decide (y3<0)then
   zb (ZT (wu8 y1)) fun y4=>
   need (zQ 0 1 1)<|
   some ((⟨x.s,w64 (w64 (x.at_+1)+1)⟩:za),[y4])
  else
   zY (fun(s5:(Int×Int)×za)=>
     bif decide (s5.1.2<6)then
      zb (zg (0,s5.2)) fun y6=>
      zb (dh y6) fun y7=>
      bif decide (y7<0)then
       some (LO.out (s5.1.1,s5.2))
      else
       some (LO.again ((ibOr IntKind.i64 (Vv IntKind.i64 s5.1.1 4) y7,w64 (s5.1.2+1)),(⟨s5.2.s,w64 (s5.2.at_+1)⟩:za)))
     else
      some (LO.out (s5.1.1,s5.2)):(Int×Int)×za->Option (LO ((Int×Int)×za) (Int×za) _)) ((0,0),(⟨x.s,w64 (x.at_+1)⟩:za)) fun o8=>
   zF (X:=Int×za) (
     zb (zg (0,o8.2)) fun y9=>
     zb (ZM y9) fun y10=>
     bif y10 then
      some (LX.out (o8.1,(⟨o8.2.s,w64 (o8.2.at_+1)⟩:za)))
     else
      some (LX.out (o8.1,o8.2))) fun j11=>
   zF (X:=Int) (
     bif j11.1==0 then
      some (LX.out 65533)
     else
      some (LX.out j11.1)) fun j12=>
   zb (Qm (w32 j12)) fun y13=>
   some (j11.2,y13)
def TH(x:Int×List UInt8):Option (List UInt8):=
 bif decide (wu32 x.1<=2047)then
  zb (ZT (ibOr IntKind.u8 192 (wu8 (mg IntKind.i32 x.1 6)))) fun y1=>
  zb (ZT (ibOr IntKind.u8 128 (ng IntKind.u8 (wu8 x.1) 63))) fun y2=>
  need (zQ x.2.length 2 1)<|
  some (x.2++[y1,y2])
 else
  zF (X:=Bool×List UInt8) (
    bif decide (wu32 x.1<55296)then
     some (LX.out (decide (wu32 x.1<55296),x.2))
    else
     some (LX.out (bif decide (57343<wu32 x.1)then decide (wu32 x.1<=65535)else false,x.2))) fun j3=>
  bif j3.1 then
   zb (ZT (ibOr IntKind.u8 224 (wu8 (mg IntKind.i32 x.1 12)))) fun y4=>
   zb (ZT (ibOr IntKind.u8 128 (ng IntKind.u8 (wu8 (mg IntKind.i32 x.1 6)) 63))) fun y5=>
   zb (ZT (ibOr IntKind.u8 128 (ng IntKind.u8 (wu8 x.1) 63))) fun y6=>
   need (zQ j3.2.length 3 1)<|
   some (j3.2++[y4,y5,y6])
  else
   bif bif decide (wu32 x.1>65535)then decide (wu32 x.1<=1114111)else false then
    zb (ZT (ibOr IntKind.u8 240 (wu8 (mg IntKind.i32 x.1 18)))) fun y7=>
    zb (ZT (ibOr IntKind.u8 128 (ng IntKind.u8 (wu8 (mg IntKind.i32 x.1 12)) 63))) fun y8=>
    zb (ZT (ibOr IntKind.u8 128 (ng IntKind.u8 (wu8 (mg IntKind.i32 x.1 6)) 63))) fun y9=>
    zb (ZT (ibOr IntKind.u8 128 (ng IntKind.u8 (wu8 x.1) 63))) fun y10=>
    need (zQ j3.2.length 4 1)<|
    some (j3.2++[y7,y8,y9,y10])
   else
    need (zQ j3.2.length 3 1)<|
    some (j3.2++[(239:UInt8),(191:UInt8),(189:UInt8)])
def Qn(x:Int×List UInt8):Option (List UInt8):=
 bif decide (wu32 x.1<=127)then
  zb (ZT (wu8 x.1)) fun y1=>
  need (zQ x.2.length 1 1)<|
  some (x.2++[y1])
 else
  zb (TH (x.1,x.2)) fun y2=>
  some y2
def z8(x:za×List UInt8):Option (za×List UInt8):=
 zb (zg (0,(⟨x.1.s,w64 (x.1.at_+1)⟩:za))) fun y1=>
 bif y1==(-1)then
  zb (Qn (65533,x.2)) fun y2=>
  some ((⟨x.1.s,w64 (x.1.at_+1)⟩:za),y2)
 else
  zb (dh y1) fun y3=>
  bif decide (y3<0)then
   zb (ZT (wu8 y1)) fun y4=>
   need (zQ x.2.length 1 1)<|
   some ((⟨x.1.s,w64 (w64 (x.1.at_+1)+1)⟩:za),x.2++[y4])
  else
   zY (fun(s5:(Int×Int)×za)=>
     bif decide (s5.1.2<6)then
      zb (zg (0,s5.2)) fun y6=>
      zb (dh y6) fun y7=>
      bif decide (y7<0)then
       some (LO.out (s5.1.1,s5.2))
      else
       some (LO.again ((ibOr IntKind.i64 (Vv IntKind.i64 s5.1.1 4) y7,w64 (s5.1.2+1)),(⟨s5.2.s,w64 (s5.2.at_+1)⟩:za)))
     else
      some (LO.out (s5.1.1,s5.2)):(Int×Int)×za->Option (LO ((Int×Int)×za) (Int×za) _)) ((0,0),(⟨x.1.s,w64 (x.1.at_+1)⟩:za)) fun o8=>
   zF (X:=Int×za×List UInt8) (
     zb (zg (0,o8.2)) fun y9=>
     zb (ZM y9) fun y10=>
     bif y10 then
      some (LX.out (o8.1,(⟨o8.2.s,w64 (o8.2.at_+1)⟩:za),x.2))
     else
      some (LX.out (o8.1,o8.2,x.2))) fun j11=>
   zF (X:=Int×List UInt8) (
     bif j11.1==0 then
      some (LX.out (65533,j11.2.2))
     else
      some (LX.out (j11.1,j11.2.2))) fun j12=>
   zb (Qn (w32 j12.1,j12.2)) fun y13=>
   some (j11.2.1,y13)
def Qb(x:za):Option (zf×za):=
 zb (zg (0,x)) fun y1=>
 zY (fun(s2:za×zf×List UInt8)=>
   zb (zg (0,s2.1)) fun y3=>
   bif y3==(-1)then
    some (LO.out (s2.1,s2.2.1,s2.2.2))
   else
    bif y3==y1 then
     some (LO.out ((⟨s2.1.s,w64 (s2.1.at_+1)⟩:za),s2.2.1,s2.2.2))
    else
     bif y3==10 then
      some (LO.ret ((⟨6,[],0,[],false⟩:zf),s2.1))
     else
      zb (zo (y3==92) (zg (1,s2.1)) (default:Int)) fun y4=>
      zb (zo (!(y4==(-1))&&y3==92) (zg (1,s2.1)) (default:Int)) fun y5=>
      bif bif y3==92 then bif y4==(-1)then true else y5==10 else false then
       some (LO.again ((⟨s2.1.s,if(s2.1.s.length:Int)<w64 (s2.1.at_+2)then(s2.1.s.length:Int)else w64 (s2.1.at_+2)⟩:za),s2.2.1,s2.2.2))
      else
       bif y3==92 then
        zb (z8 (s2.1,s2.2.2)) fun y6=>
        some (LO.again (y6.1,s2.2.1,y6.2))
       else
        zb (ZT (wu8 y3)) fun y7=>
        need (zQ s2.2.2.length 1 1)<|
        some (LO.again ((⟨s2.1.s,w64 (s2.1.at_+1)⟩:za),s2.2.1,s2.2.2++[y7])):za×zf×List UInt8->Option (LO (za×zf×List UInt8) (za×zf×List UInt8) _)) ((⟨x.s,w64 (x.at_+1)⟩:za),(⟨0,[],0,[],false⟩:zf),[]) fun o8=>
 some ((⟨5,o8.2.2,0,[],false⟩:zf),o8.1)
def wo(x:Int):Option Bool:=
 zb (Qj (ibOr IntKind.i64 x 32,97,122)) fun y1=>
 some (bif bif bif bif y1 then decide (x<128)else false then decide (x>64)else false then true else x==95 then true else decide (x>=128))
def Am(x:Int):Option Bool:=
 zb (wo x) fun y1=>
 zb (zo (!y1) (ZX x) (default:Bool)) fun y2=>
 some (bif bif y1 then true else y2 then true else x==45)
def zM(x:Int×za):Option Bool:=
 zb (zg (x.1,x.2)) fun y1=>
 zb (zo (y1==92) (zg (w64 (x.1+1),x.2)) (default:Int)) fun y2=>
 some (bif y1==92 then y2 != 10 else false)
def Zf(x:Int×za):Option Bool:=
 zb (zg (x.1,x.2)) fun y1=>
 bif y1 != 45 then
  zb (zg (x.1,x.2)) fun y2=>
  zb (wo y2) fun y3=>
  zb (zo (!y3) (zM (x.1,x.2)) (default:Bool)) fun y4=>
  some (bif y3 then true else y4)
 else
  zb (zg (w64 (x.1+1),x.2)) fun y5=>
  zb (wo y5) fun y6=>
  zb (zo (!y6) (zg (w64 (x.1+1),x.2)) (default:Int)) fun y7=>
  zb (zo (!(bif y6 then true else y7==45)) (zM (w64 (x.1+1),x.2)) (default:Bool)) fun y8=>
  some (bif bif y6 then true else y7==45 then true else y8)
def Zk(x:za):Option (Str×za):=
 zY (fun(s1:za×List UInt8)=>
   zb (zg (0,s1.1)) fun y2=>
   zb (Am y2) fun y3=>
   bif y3 then
    zb (ZT (wu8 y2)) fun y4=>
    need (zQ s1.2.length 1 1)<|
    some (LO.again ((⟨s1.1.s,w64 (s1.1.at_+1)⟩:za),s1.2++[y4]))
   else
    zb (zo (y2 != (-1)) (zM (0,s1.1)) (default:Bool)) fun y5=>
    bif bif y2 != (-1)then y5 else false then
     zb (z8 (s1.1,s1.2)) fun y6=>
     some (LO.again (y6.1,y6.2))
    else
     some (LO.ret (s1.2,s1.1)):za×List UInt8->Option (LO (za×List UInt8) (Unit) _)) (x,[]) fun o7=>
 none
def TA(x:za):Option Bool:=
 zF (X:=Int) (
   zb (zg (0,x)) fun y1=>
   bif bif y1==43 then true else y1==45 then
    some (LX.out 1)
   else
    some (LX.out 0)) fun j2=>
 zF (X:=Int) (
   zb (zg (j2,x)) fun y3=>
   bif y3==46 then
    some (LX.out (w64 (j2+1)))
   else
    some (LX.out j2)) fun j4=>
 zb (zg (j4,x)) fun y5=>
 zb (ZX y5) fun y6=>
 some y6
def ZE(x:za):Option za:=
 zY (fun(s1:za)=>
   zb (zg (0,s1)) fun y2=>
   zb (ZX y2) fun y3=>
   bif y3 then
    some (LO.again (⟨s1.s,w64 (s1.at_+1)⟩:za))
   else
    some (LO.out s1):za->Option (LO (za) (za) _)) x fun o4=>
 some o4
def qI(x:za):Option (Bool×za):=
 zF (X:=za) (
   zb (zg (0,x)) fun y1=>
   bif bif y1==43 then true else y1==45 then
    some (LX.out (⟨x.s,w64 (x.at_+1)⟩:za))
   else
    some (LX.out x)) fun j2=>
 zb (ZE j2) fun y3=>
 zF (X:=Bool×za) (
   zb (zg (0,y3)) fun y4=>
   zb (zo (y4==46) (zg (1,y3)) (default:Int)) fun y5=>
   zb (zo (y4==46) (ZX y5) (default:Bool)) fun y6=>
   bif bif y4==46 then y6 else false then
    zb (ZE (⟨y3.s,w64 (y3.at_+1)⟩:za)) fun y7=>
    some (LX.out (false,y7))
   else
    some (LX.out (true,y3))) fun j8=>
 zF (X:=Bool×za) (
   zb (zg (0,j8.2)) fun y9=>
   zb (zo (!(y9==101)) (zg (0,j8.2)) (default:Int)) fun y10=>
   bif bif y9==101 then true else y10==69 then
    zF (X:=(Bool×Int)×za) (
      zb (zg (1,j8.2)) fun y11=>
      bif bif y11==43 then true else y11==45 then
       some (LX.out ((j8.1,2),j8.2))
      else
       some (LX.out ((j8.1,1),j8.2))) fun j12=>
    zb (zg (j12.1.2,j12.2)) fun y13=>
    zb (ZX y13) fun y14=>
    bif y14 then
     zb (ZE (⟨j12.2.s,w64 (j12.2.at_+j12.1.2)⟩:za)) fun y15=>
     some (LX.out (false,y15))
    else
     some (LX.out (j12.1.1,j12.2))
   else
    some (LX.out (j8.1,j8.2))) fun j16=>
 some (j16.1,j16.2)
def Rv(x:Str):Option Int:=
 zb (geti x 0) fun y1=>
 zb (Rk (x,[43,45])) fun y2=>
 zF (X:=Str×Int) (
   zb (Vs (y2,[101,69])) fun y3=>
   bif decide (y3>=0)then
    need (decide (0<=w64 (y3+1))&&decide (w64 (y3+1)<=(y2.length:Int)))<|
    zb (Rk (List.drop (w64 (y3+1)).toNat y2,[43,45])) fun y4=>
    need (decide (y4.length<=maxLen))<|
    zY (fun(s5:Int×Int)=>
      bif decide (s5.2<(y4.length:Int))then
       need (decide (0<=s5.2)&&decide (s5.2<(y4.length:Int)))<|
       zb y4[s5.2.toNat]? fun y6=>
       some (LO.again (if 1048576<w64 (w64 (10*s5.1)+w64 (wu8 ((y6.toNat:Int) - 48)))then 1048576 else w64 (w64 (10*s5.1)+w64 (wu8 ((y6.toNat:Int) - 48))),w64 (s5.2+1)))
      else
       some (LO.out s5.1):Int×Int->Option (LO (Int×Int) (Int) _)) (0,0) fun o7=>
    zF (X:=Str×Int×Int) (
      zb (geti y2 (w64 (y3+1))) fun y8=>
      bif (y8.toNat:Int)==45 then
       some (LX.out (y2,3,w64 (0 - o7)))
      else
       some (LX.out (y2,3,o7))) fun j9=>
    need (decide (0<=y3)&&decide (y3<=(j9.1.length:Int)))<|
    some (LX.out (List.take y3.toNat j9.1,w64 (j9.2.1+j9.2.2)))
   else
    some (LX.out (y2,3))) fun j10=>
 zb (cutF (j10.1,[46])) fun y11=>
 need (Qa y11.1.length y11.2.1.length)<|
 zF (X:=Str×Int) (
   bif decide (w64 (j10.2 - (y11.2.1.length:Int))<0)then
    need (decide (0<=(if w64 (((y11.1++y11.2.1).length:Int)+w64 (j10.2 - (y11.2.1.length:Int)))>0 then w64 (((y11.1++y11.2.1).length:Int)+w64 (j10.2 - (y11.2.1.length:Int)))else 0))&&decide ((if w64 (((y11.1++y11.2.1).length:Int)+w64 (j10.2 - (y11.2.1.length:Int)))>0 then w64 (((y11.1++y11.2.1).length:Int)+w64 (j10.2 - (y11.2.1.length:Int)))else 0)<=((y11.1++y11.2.1).length:Int)))<|
    some (LX.out (List.take (if w64 (((y11.1++y11.2.1).length:Int)+w64 (j10.2 - (y11.2.1.length:Int)))>0 then w64 (((y11.1++y11.2.1).length:Int)+w64 (j10.2 - (y11.2.1.length:Int)))else 0).toNat (y11.1++y11.2.1),w64 (j10.2 - (y11.2.1.length:Int))))
   else
    some (LX.out (y11.1++y11.2.1,w64 (j10.2 - (y11.2.1.length:Int))))) fun j12=>
 need (decide (j12.1.length<=maxLen))<|
 zY (fun(s13:Int×Int)=>
   bif decide (s13.2<(j12.1.length:Int))then
    need (decide (0<=s13.2)&&decide (s13.2<(j12.1.length:Int)))<|
    zb j12.1[s13.2.toNat]? fun y14=>
    some (LO.again (if 1000000000000<w64 (w64 (10*s13.1)+w64 (wu8 ((y14.toNat:Int) - 48)))then 1000000000000 else w64 (w64 (10*s13.1)+w64 (wu8 ((y14.toNat:Int) - 48))),w64 (s13.2+1)))
   else
    some (LO.out s13.1):Int×Int->Option (LO (Int×Int) (Int) _)) (0,0) fun o15=>
 zY (fun(s16:Int×Int)=>
   bif bif bif decide (s16.1>0)then decide (s16.2>0)else false then decide (s16.2<1000000000000)else false then
    some (LO.again (w64 (s16.1 - 1),if 1000000000000<w64 (10*s16.2)then 1000000000000 else w64 (10*s16.2)))
   else
    some (LO.out s16.2):Int×Int->Option (LO (Int×Int) (Int) _)) (j12.2,o15) fun o17=>
 zF (X:=Int) (
   bif (y1.toNat:Int)==45 then
    some (LX.out (w64 (0 - o17)))
   else
    some (LX.out o17)) fun j18=>
 some j18
def qJ(x:za):Option (zf×za):=
 zb (qI x) fun y1=>
 need (decide (0<=x.at_)&&(decide (x.at_<=y1.2.at_)&&decide (y1.2.at_<=(y1.2.s.length:Int))))<|
 zb (Rv (List.drop x.at_.toNat (List.take y1.2.at_.toNat y1.2.s))) fun y2=>
 zF (X:=za×zf×zf) (
   zb (Zf (0,y1.2)) fun y3=>
   bif y3 then
    zb (Zk y1.2) fun y4=>
    some (LX.out (y4.2,(⟨0,[],0,[],false⟩:zf),(⟨12,[],y2,y4.1,y1.1⟩:zf)))
   else
    zb (zg (0,y1.2)) fun y5=>
    bif y5==37 then
     some (LX.out ((⟨y1.2.s,w64 (y1.2.at_+1)⟩:za),(⟨0,[],0,[],false⟩:zf),(⟨11,[],y2,[],false⟩:zf)))
    else
     some (LX.out (y1.2,(⟨0,[],0,[],false⟩:zf),(⟨10,[],y2,[],y1.1⟩:zf)))) fun j6=>
 some (j6.2.2,j6.1)
def qA(x:za):Option (zf×za):=
 zY (fun(s1:za×zf)=>
   zb (zg (0,s1.1)) fun y2=>
   bif y2==(-1)then
    some (LO.ret ((⟨8,[],0,[],false⟩:zf),s1.1))
   else
    zb (zM (0,s1.1)) fun y3=>
    bif y3 then
     zb (qf s1.1) fun y4=>
     some (LO.again (y4.1,s1.2))
    else
     zb (geti s1.1.s (w64 (w64 (s1.1.at_+1) - 1))) fun y5=>
     bif (y5.toNat:Int)==41 then
      some (LO.ret ((⟨8,[],0,[],false⟩:zf),(⟨s1.1.s,w64 (s1.1.at_+1)⟩:za)))
     else
      some (LO.again ((⟨s1.1.s,w64 (s1.1.at_+1)⟩:za),s1.2)):za×zf->Option (LO (za×zf) (Unit) _)) (x,(⟨0,[],0,[],false⟩:zf)) fun o6=>
 none
def Sv(x:za):Option (zf×za):=
 zb (Zg x) fun y1=>
 zY (fun(s2:za×zf×List UInt8)=>
   zb (zg (0,s2.1)) fun y3=>
   zF (X:=Int×za×zf×List UInt8) (
     zb (ZM y3) fun y4=>
     bif y4 then
      zb (Zg s2.1) fun y5=>
      zb (zg (0,y5)) fun y6=>
      bif bif y6 != 41 then y6 != (-1)else false then
       zb (qA y5) fun y7=>
       some (LX.ret (LO.ret (y7.1,y7.2)))
      else
       some (LX.out (y6,y5,s2.2.1,s2.2.2))
     else
      some (LX.out (y3,s2.1,s2.2.1,s2.2.2))) fun j8=>
   bif j8.1==(-1)then
    some (LO.ret ((⟨7,j8.2.2.2,0,[],false⟩:zf),j8.2.1))
   else
    bif j8.1==41 then
     some (LO.ret ((⟨7,j8.2.2.2,0,[],false⟩:zf),(⟨j8.2.1.s,w64 (j8.2.1.at_+1)⟩:za)))
    else
     zb (zo (!(bif bif bif bif j8.1==34 then true else j8.1==39 then true else j8.1==40 then true else decide (j8.1<=8)then true else j8.1==11)) (Qj (j8.1,14,31)) (default:Bool)) fun y9=>
     bif bif bif bif bif bif bif j8.1==34 then true else j8.1==39 then true else j8.1==40 then true else decide (j8.1<=8)then true else j8.1==11 then true else y9 then true else j8.1==127 then
      zb (qA j8.2.1) fun y10=>
      some (LO.ret (y10.1,y10.2))
     else
      bif j8.1 != 92 then
       zb (ZT (wu8 j8.1)) fun y11=>
       need (zQ j8.2.2.2.length 1 1)<|
       some (LO.again ((⟨j8.2.1.s,w64 (j8.2.1.at_+1)⟩:za),j8.2.2.1,j8.2.2.2++[y11]))
      else
       zb (zM (0,j8.2.1)) fun y12=>
       bif y12 then
        zb (z8 (j8.2.1,j8.2.2.2)) fun y13=>
        some (LO.again (y13.1,j8.2.2.1,y13.2))
       else
        zb (qA j8.2.1) fun y14=>
        some (LO.ret (y14.1,y14.2)):za×zf×List UInt8->Option (LO (za×zf×List UInt8) (Unit) _)) (y1,(⟨0,[],0,[],false⟩:zf),[]) fun o15=>
 none
def QA(x:za):Option (zf×za):=
 zb (Zk x) fun y1=>
 zb (zg (0,y1.2)) fun y2=>
 bif y2 != 40 then
  some ((⟨1,y1.1,0,[],false⟩:zf),y1.2)
 else
  zF (X:=za×zf) (
    zb (ZW (y1.1,[117,114,108])) fun y3=>
    bif y3 then
     zb (Zg (⟨y1.2.s,w64 (y1.2.at_+1)⟩:za)) fun y4=>
     zb (zg (0,y4)) fun y5=>
     bif bif y5 != 34 then y5 != 39 else false then
      zb (Sv (⟨y1.2.s,w64 (y1.2.at_+1)⟩:za)) fun y6=>
      some (LX.ret (y6.1,y6.2))
     else
      some (LX.out ((⟨y1.2.s,w64 (y1.2.at_+1)⟩:za),(⟨0,[],0,[],false⟩:zf)))
    else
     some (LX.out ((⟨y1.2.s,w64 (y1.2.at_+1)⟩:za),(⟨0,[],0,[],false⟩:zf)))) fun j7=>
  some ((⟨2,y1.1,0,[],false⟩:zf),j7.1)
def QZ(x:za):Option (zf×za):=
 zb (zg (0,x)) fun y1=>
 need (decide (0<=x.at_)&&decide (x.at_<=(x.s.length:Int)))<|
 zb (ZM y1) fun y2=>
 bif y2 then
  zb (Zg x) fun y3=>
  some ((⟨13,[],0,[],false⟩:zf),y3)
 else
  bif bif y1==34 then true else y1==39 then
   zb (Qb x) fun y4=>
   some (y4.1,y4.2)
  else
   zb (zo (y1==35) (zg (1,x)) (default:Int)) fun y5=>
   zb (zo (y1==35) (Am y5) (default:Bool)) fun y6=>
   zb (zo (!y6&&y1==35) (zM (1,x)) (default:Bool)) fun y7=>
   bif bif y1==35 then bif y6 then true else y7 else false then
    zb (Zf (1,x)) fun y8=>
    zb (Zk (⟨x.s,w64 (x.at_+1)⟩:za)) fun y9=>
    some ((⟨4,y9.1,0,[],y8⟩:zf),y9.2)
   else
    zb (TA x) fun y10=>
    bif y10 then
     zb (qJ x) fun y11=>
     some (y11.1,y11.2)
    else
     zb (strings_HasPrefix (List.drop x.at_.toNat x.s,[45,45,62])) fun y12=>
     bif y12 then
      some ((⟨15,[],0,[],false⟩:zf),(⟨x.s,w64 (x.at_+3)⟩:za))
     else
      zb (strings_HasPrefix (List.drop x.at_.toNat x.s,[60,33,45,45])) fun y13=>
      bif y13 then
       some ((⟨14,[],0,[],false⟩:zf),(⟨x.s,w64 (x.at_+4)⟩:za))
      else
       zb (zo (y1==64) (Zf (1,x)) (default:Bool)) fun y14=>
       bif bif y1==64 then y14 else false then
        zb (Zk (⟨x.s,w64 (x.at_+1)⟩:za)) fun y15=>
        some ((⟨3,y15.1,0,[],false⟩:zf),y15.2)
       else
        zb (Zf (0,x)) fun y16=>
        bif y16 then
         zb (QA x) fun y17=>
         some (y17.1,y17.2)
        else
         zb (strings_IndexByte ([58,59,44,91,93,40,41,123,125],wu8 y1)) fun y18=>
         bif decide (y18>=0)then
          some ((⟨wu8 (16+wu8 y18),[],0,[],false⟩:zf),(⟨x.s,w64 (x.at_+1)⟩:za))
         else
          need (decide (1<=((List.drop x.at_.toNat x.s).length:Int)))<|
          some ((⟨9,List.take 1 (List.drop x.at_.toNat x.s),0,[],false⟩:zf),(⟨x.s,w64 (x.at_+1)⟩:za))
def AA(x:(zf×Int×Int)×List zf):Option (List zf):=
 need (zQ x.2.length 1 56)<|
 some (x.2++[x.1.1])
def au(x:Str):Option (Int×List zf):=
 zb (Nn x) fun y1=>
 bif y1.2 != 0 then
  some (y1.2,[])
 else
  zb (ZQ (⟨y1.1,0⟩:za)) fun y2=>
  zY (fun(s3:Int×List zf×za)=>
    bif decide (s3.2.2.at_<(y1.1.length:Int))then
     bif decide (w64 (s3.1+1)>1500)then
      some (LO.ret (4,s3.2.1))
     else
      zb (QZ s3.2.2) fun y4=>
      zb (AA ((y4.1,s3.2.2.at_,y4.2.at_),s3.2.1)) fun y5=>
      zb (ZQ y4.2) fun y6=>
      some (LO.again (w64 (s3.1+1),y5,y6))
    else
     some (LO.out (s3.2.1,s3.2.2)):Int×List zf×za->Option (LO (Int×List zf×za) (List zf×za) _)) (0,[],y2) fun o7=>
  some (0,o7.1)
def Cm(x:Str):Option (List zf×Int):=
 zb (au x) fun y1=>
 bif y1.1 != 0 then
  some ([],y1.1)
 else
  some (y1.2,0)
def QY(x:List zf×List zf):Option Bool:=
 bif (x.1.length:Int) != (x.2.length:Int)then
  some false
 else
  zY (fun(s1:Int)=>
    bif decide (s1<(x.1.length:Int))then
     zb (geti x.1 s1) fun y2=>
     zb (geti x.2 s1) fun y3=>
     bif !(y2.kind==y3.kind&&(y2.text==y3.text&&(y2.num==y3.num&&(y2.unit==y3.unit&&(y2.flag==y3.flag&&true)))))then
      some (LO.ret false)
     else
      some (LO.again (w64 (s1+1)))
    else
     some (LO.out ()):Int->Option (LO (Int) (Unit) _)) 0 fun o4=>
  some true
def Ot(x:List zf):Option (Str×Int):=
 zb (QJ x) fun y1=>
 bif y1 != 0 then
  some ([],y1)
 else
  zY (fun(s2:Int×List UInt8×List zP)=>
    bif decide (s2.1<(x.length:Int))then
     need (decide (0<=s2.1)&&decide (s2.1<=(x.length:Int)))<|
     zb (bi (List.drop s2.1.toNat x)) fun y3=>
     need (decide (0<=s2.1)&&(decide (s2.1<=w64 (s2.1+y3))&&decide (w64 (s2.1+y3)<=(x.length:Int))))<|
     zY (fun(s4:Int×List UInt8)=>
       bif decide (s4.1<((List.drop s2.1.toNat (List.take (w64 (s2.1+y3)).toNat x)).length:Int))then
        zb (geti (List.drop s2.1.toNat (List.take (w64 (s2.1+y3)).toNat x)) s4.1) fun y5=>
        zb (Lu (y5,s4.2)) fun y6=>
        some (LO.again (w64 (s4.1+1),y6))
       else
        some (LO.out s4.2):Int×List UInt8->Option (LO (Int×List UInt8) (List UInt8) _)) (0,[]) fun o7=>
     zF (X:=Int×List UInt8×List zP×List UInt8) (
       zb (geti x s2.1) fun y8=>
       bif bif y8.kind==9 then y3==2 else false then
        some (LX.out (s2.1,s2.2.1,s2.2.2,[(92:UInt8),(10:UInt8)]))
       else
        some (LX.out (s2.1,s2.2.1,s2.2.2,o7))) fun j9=>
     zF (X:=Int×List UInt8×List zP×zP) (
       bif decide (w64 ((j9.2.2.1.length:Int) - 4)>=0)then
        need (decide (0<=w64 ((j9.2.2.1.length:Int) - 4))&&decide (w64 ((j9.2.2.1.length:Int) - 4)<(j9.2.2.1.length:Int)))<|
        zb (j9.2.2.1[(w64 ((j9.2.2.1.length:Int) - 4)).toNat]?) fun y10=>
        some (LX.out (j9.1,j9.2.1,j9.2.2.1,y10))
       else
        some (LX.out (j9.1,j9.2.1,j9.2.2.1,(⟨0,0⟩:zP)))) fun j11=>
     need (decide (0<=j11.2.2.2.at_)&&decide (j11.2.2.2.at_<=(j11.2.1.length:Int)))<|
     need (decide (j11.2.2.2.at_.toNat+(j11.2.1.length - j11.2.2.2.at_.toNat)<=j11.2.1.length))<|
     need (Qa (List.take (j11.2.1.length - j11.2.2.2.at_.toNat) (List.drop j11.2.2.2.at_.toNat j11.2.1)).length j9.2.2.2.length)<|
     zb (Cm (List.take (j11.2.1.length - j11.2.2.2.at_.toNat) (List.drop j11.2.2.2.at_.toNat j11.2.1)++j9.2.2.2)) fun y12=>
     zF (X:=Int×List zP×List UInt8) (
       need (decide (0<=j11.2.2.2.token)&&(decide (j11.2.2.2.token<=w64 (j11.1+y3))&&decide (w64 (j11.1+y3)<=(x.length:Int)))|| !(!(y12.2 != 0)))<|
       zb (zo (!(y12.2 != 0)) (QY (y12.1,List.drop j11.2.2.2.token.toNat (List.take (w64 (j11.1+y3)).toNat x))) (default:Bool)) fun y13=>
       bif bif y12.2 != 0 then true else !y13 then
        need (zQ j11.2.1.length ([47,42,42,47]:Str).length 1)<|
        some (LX.out (j11.1,j11.2.2.1,j11.2.1++([47,42,42,47]:Str)))
       else
        some (LX.out (j11.1,j11.2.2.1,j11.2.1))) fun j14=>
     need (zQ j14.2.1.length 1 16)<|
     need (zQ j14.2.2.length j9.2.2.2.length 1)<|
     bif decide (((j14.2.2++j9.2.2.2).length:Int)>4000)then
      some (LO.ret ([],28))
     else
      some (LO.again (w64 (j14.1+y3),j14.2.2++j9.2.2.2,j14.2.1++[(⟨j14.1,(j14.2.2.length:Int)⟩:zP)]))
    else
     some (LO.out s2.2.1):Int×List UInt8×List zP->Option (LO (Int×List UInt8×List zP) (List UInt8) _)) (0,[],[]) fun o15=>
  some (o15,0)
def Ps(x:List ze):Option (Str×Int):=
 zb (ZG x) fun y1=>
 bif y1 != 0 then
  some ([],y1)
 else
  zb (Q7 x) fun y2=>
  zb (Ot y2) fun y3=>
  some (y3.1,y3.2)
def Ht(x:zB):Option (Str×Int):=
 zb (QI x) fun y1=>
 bif y1 != 0 then
  some ([],y1)
 else
  zb (Ml x.name) fun y2=>
  bif y2.2 != 0 then
   some ([],y2.2)
  else
   zb (Ps x.value) fun y3=>
   bif y3.2 != 0 then
    some ([],y3.2)
   else
    need (Qa y2.1.length ([58,32]:Str).length)<|
    need (Qa (y2.1++([58,32]:Str)).length y3.1.length)<|
    zF (X:=Str) (
      bif x.important then
       need (Qa (y2.1++([58,32]:Str)++y3.1).length ([32,33,105,109,112,111,114,116,97,110,116]:Str).length)<|
       some (LX.out (y2.1++([58,32]:Str)++y3.1++([32,33,105,109,112,111,114,116,97,110,116]:Str)))
      else
       some (LX.out (y2.1++([58,32]:Str)++y3.1))) fun j4=>
    bif decide ((j4.length:Int)>4000)then
     some ([],28)
    else
     some (j4,0)
def Qp(zu:zh×Bool->Option (Str×Bool))(x:zh×Bool):Option (Str×Bool):=
 zb (zu ((⟨x.1.kind,x.1.name,x.1.num,x.1.decl,x.1.list⟩:zh),x.2)) fun y1=>
 zb (Xi (⟨x.1.kind,x.1.name,x.1.num,x.1.decl,x.1.list⟩:zh)) fun y2=>
 bif y2 then
  some (y1.1,y1.2)
 else
  need (Qa ([40]:Str).length y1.1.length)<|
  need (Qa (([40]:Str)++y1.1).length ([41]:Str).length)<|
  some (([40]:Str)++y1.1++([41]:Str),y1.2)
def Lp(zu:zh×Bool->Option (Str×Bool))(x:(List zh×Str)×Bool):Option (Str×Bool):=
 zY (fun(s1:Int×Bool×List Str)=>
   bif decide (s1.1<(x.1.1.length:Int))then
    zb (geti x.1.1 s1.1) fun y2=>
    zb (Qp zu ((⟨y2.kind,y2.name,y2.num,y2.decl,y2.list⟩:zh),s1.2.1)) fun y3=>
    need (zQ s1.2.2.length 1 16)<|
    some (LO.again (w64 (s1.1+1),y3.2,s1.2.2++[y3.1]))
   else
    some (LO.out (s1.2.1,s1.2.2)):Int×Bool×List Str->Option (LO (Int×Bool×List Str) (Bool×List Str) _)) (0,x.2,[]) fun o4=>
 zb (wh (o4.2,x.1.2)) fun y5=>
 some (y5,o4.1)
def Ev(zu:zh×Bool->Option (Str×Bool))(x:zh×Bool):Option (Str×Bool):=
 bif x.1.kind==7 then
  zb (Ht x.1.decl) fun y1=>
  need (Qa ([40]:Str).length y1.1.length)<|
  need (Qa (([40]:Str)++y1.1).length ([41]:Str).length)<|
  some (([40]:Str)++y1.1++([41]:Str),bif x.2 then true else y1.2 != 0)
 else
  bif x.1.kind==8 then
   some ([40,117,110,107,110,111,119,110,41],x.2)
  else
   bif x.1.kind==3 then
    zb (geti x.1.list 0) fun y2=>
    zb (Qp zu ((⟨y2.kind,y2.name,y2.num,y2.decl,y2.list⟩:zh),x.2)) fun y3=>
    need (Qa ([110,111,116,32]:Str).length y3.1.length)<|
    some (([110,111,116,32]:Str)++y3.1,y3.2)
   else
    bif x.1.kind==2 then
     zb (Lp zu ((x.1.list,[32,111,114,32]),x.2)) fun y4=>
     some (y4.1,y4.2)
    else
     zb (Lp zu ((x.1.list,[32,97,110,100,32]),x.2)) fun y5=>
     some (y5.1,y5.2)
def zu:zh×Bool->Option (Str×Bool):=recE (Ev)
def Kl(x:zh):Option (Str×Int):=
 zb (mh (⟨x.kind,x.name,x.num,x.decl,x.list⟩:zh)) fun y1=>
 bif y1 != 0 then
  some ([],y1)
 else
  zF (X:=Str×Bool) (
    zb (Z8 (⟨x.kind,x.name,x.num,x.decl,x.list⟩:zh)) fun y2=>
    bif y2==0 then
     zb (zX (⟨x.kind,x.name,x.num,x.decl,x.list⟩:zh)) fun y3=>
     some (LX.out (y3,false))
    else
     zb (zu ((⟨x.kind,x.name,x.num,x.decl,x.list⟩:zh),false)) fun y4=>
     some (LX.out (y4.1,y4.2))) fun j5=>
  bif bif j5.2 then true else decide ((j5.1.length:Int)>4000)then
   some ([],28)
  else
   some (j5.1,0)
def ZB(x:zh):Option Int:=
 zb (Pv (⟨x.kind,x.name,x.num,x.decl,x.list⟩:zh)) fun y1=>
 bif !y1 then
  some 8
 else
  some 0
def il(x:Str):Option (List ze):=
 zb (Cm x) fun y1=>
 zb (parseF y1.1) fun y2=>
 bif bif y1.2 != 0 then true else y2.2 != 0 then
  some []
 else
  some y2.1
def ut(x:List ze×Int):Option (List (List ze)×Int):=
 zb (ZG x.1) fun y1=>
 bif y1 != 0 then
  some ([],y1)
 else
  bif bif decide (x.2<1)then true else decide (x.2>24)then
   some ([],2)
  else
   zY (fun(s2:(Int×Int)×List (List ze))=>
     bif decide (s2.1.2<(x.1.length:Int))then
      zF (X:=(Int×Int)×List (List ze)) (
        zb (geti x.1 s2.1.2) fun y3=>
        bif y3.token.kind==x.2 then
         need (decide (0<=s2.1.1)&&(decide (s2.1.1<=s2.1.2)&&(decide (s2.1.2<=s2.1.2)&&decide (s2.1.2<=(x.1.length:Int))))&&decide (s2.1.2=s2.1.2))<|
         zb (qb (List.drop s2.1.1.toNat (List.take s2.1.2.toNat x.1))) fun y4=>
         need (zQ s2.2.length 1 24)<|
         some (LX.out ((w64 (s2.1.2+1),s2.1.2),s2.2++[y4]))
        else
         some (LX.out ((s2.1.1,s2.1.2),s2.2))) fun j5=>
      some (LO.again ((j5.1.1,w64 (j5.1.2+1)),j5.2))
     else
      some (LO.out (s2.1.1,s2.2)):(Int×Int)×List (List ze)->Option (LO ((Int×Int)×List (List ze)) (Int×List (List ze)) _)) ((0,0),[]) fun o6=>
   need (decide (0<=o6.1)&&decide (o6.1<=(x.1.length:Int)))<|
   zb (qb (List.drop o6.1.toNat x.1)) fun y7=>
   need (zQ o6.2.length 1 24)<|
   some (o6.2++[y7],0)
def zI(x:zk):Option Int:=
 bif (x.v.length:Int)==0 then
  some 0
 else
  zb (geti x.v 0) fun y1=>
  some y1.token.kind
def zJ(x:zk):Option (ze×zk):=
 zb (geti x.v 0) fun y1=>
 need (decide (1<=(x.v.length:Int)))<|
 some ((⟨y1.token,y1.list⟩:ze),(⟨List.drop 1 x.v⟩:zk))
def zy(x:zk):Option (Bool×zk):=
 zY (fun(s1:zk)=>
   zb (zI s1) fun y2=>
   bif y2==13 then
    zb (zJ s1) fun y3=>
    some (LO.again y3.2)
   else
    some (LO.out s1):zk->Option (LO (zk) (zk) _)) x fun o4=>
 some (decide ((o4.v.length:Int)<(x.v.length:Int)),o4)
def Zn(x:List Str×zk):Option (Str×zk):=
 zY (fun(s1:Int×zk)=>
   bif decide (s1.1<(x.1.length:Int))then
    zb (geti x.1 s1.1) fun y2=>
    zb (zI s1.2) fun y3=>
    zb (zo (y3==1) (geti s1.2.v 0) (default:ze)) fun y4=>
    zb (zo (y3==1) (ZW (y4.token.text,y2)) (default:Bool)) fun y5=>
    bif bif y3==1 then y5 else false then
     zb (zJ s1.2) fun y6=>
     some (LO.ret (y2,y6.2))
    else
     some (LO.again (w64 (s1.1+1),s1.2))
   else
    some (LO.out s1.2):Int×zk->Option (LO (Int×zk) (zk) _)) (0,x.2) fun o7=>
 some ([],o7)
def qx(x:zk):Option ((zh×Bool)×zk):=
 zb (zI x) fun y1=>
 bif y1 != 21 then
  some (((⟨0,[],0,(⟨[],[],false⟩:zB),[]⟩:zh),false),x)
 else
  zb (zJ x) fun y2=>
  zb (zy (⟨y2.1.list⟩:zk)) fun y3=>
  zF (X:=(Int×Str×Int×Str×Bool)×zk×(Int×Str×Int×Str×Bool)) (
    zb (Zn ([[109,105,110,45,119,105,100,116,104],[109,97,120,45,119,105,100,116,104]],y3.2)) fun y4=>
    bif y4.1==[]then
     some (LX.ret (((⟨5,[],0,(⟨[],[],false⟩:zB),[]⟩:zh),false),y2.2))
    else
     bif y4.1==[109,97,120,45,119,105,100,116,104]then
      some (LX.out ((0,[],0,[],false),y4.2,(6,[],0,[],false)))
     else
      some (LX.out ((0,[],0,[],false),y4.2,(5,[],0,[],false)))) fun j5=>
  zb (zy j5.2.1) fun y6=>
  zb (zI y6.2) fun y7=>
  bif y7 != 16 then
   some (((⟨j5.2.2.1,j5.2.2.2.1,j5.2.2.2.2.1,(⟨j5.2.2.2.2.2.1,[],j5.2.2.2.2.2.2⟩:zB),[]⟩:zh),false),y2.2)
  else
   zb (zJ y6.2) fun y8=>
   zb (zy y8.2) fun y9=>
   zb (zI y9.2) fun y10=>
   zb (zo (y10 != 12) (zI y9.2) (default:Int)) fun y11=>
   bif bif y10 != 12 then y11 != 10 else false then
    some (((⟨j5.2.2.1,j5.2.2.2.1,j5.2.2.2.2.1,(⟨j5.2.2.2.2.2.1,[],j5.2.2.2.2.2.2⟩:zB),[]⟩:zh),false),y2.2)
   else
    zb (zJ y9.2) fun y12=>
    zb (zy y12.2) fun y13=>
    zb (zo (y12.1.token.kind==12) (ZW (y12.1.token.unit,[112,120])) (default:Bool)) fun y14=>
    zb (zo (bif bif bif y12.1.token.kind==12 then y14 else false then true else bif y12.1.token.kind==10 then y12.1.token.num==0 else false then decide (y12.1.token.num>=0)else false) (Q5 y12.1.token.num) (default:Int)) fun y15=>
    some (((⟨j5.2.2.1,j5.2.2.2.1,y12.1.token.num,(⟨j5.2.2.2.2.2.1,[],j5.2.2.2.2.2.2⟩:zB),[]⟩:zh),bif bif bif bif bif y12.1.token.kind==12 then y14 else false then true else bif y12.1.token.kind==10 then y12.1.token.num==0 else false then decide (y12.1.token.num>=0)else false then y15==0 else false then(y13.2.v.length:Int)==0 else false),y2.2)
def Nv(x:zk):Option ((zh×Bool)×zk):=
 zb (zy x) fun y1=>
 zb (Zn ([[110,111,116],[111,110,108,121]],y1.2)) fun y2=>
 zb (zy y2.2) fun y3=>
 zF (X:=zk×(Int×Str×Int×Str×Bool)×(Int×Str×Int×Str×Bool)×List zh) (
   zb (zI y3.2) fun y4=>
   bif y4==1 then
    zb (zJ y3.2) fun y5=>
    zb (ZJ y5.1.token.text) fun y6=>
    zb (Q3 y6) fun y7=>
    bif !y7 then
     some (LX.ret (((⟨1,[],0,(⟨[],[],false⟩:zB),[]⟩:zh),false),y5.2))
    else
     need (zQ 0 1 104)<|
     some (LX.out (y5.2,(0,[],0,[],false),(1,[],0,[],false),[(⟨4,y6,0,(⟨[],[],false⟩:zB),[]⟩:zh)]))
   else
    zb (qx y3.2) fun y8=>
    bif bif !y8.1.2 then true else !(y2.1==[])then
     some (LX.ret (((⟨1,[],0,(⟨[],[],false⟩:zB),[]⟩:zh),false),y8.2))
    else
     need (zQ 0 1 104)<|
     some (LX.out (y8.2,(0,[],0,[],false),(1,[],0,[],false),[(⟨y8.1.1.kind,y8.1.1.name,y8.1.1.num,y8.1.1.decl,y8.1.1.list⟩:zh)]))) fun j9=>
 zb (zy j9.1) fun y10=>
 zY (fun(s11:zk×(Int×Str×Int×Str×Bool)×(Int×Str×Int×Str×Bool)×List zh)=>
   bif decide ((s11.1.v.length:Int)>0)then
    zb (Zn ([[97,110,100]],s11.1)) fun y12=>
    bif y12.1==[]then
     some (LO.ret (((⟨s11.2.2.1.1,s11.2.2.1.2.1,s11.2.2.1.2.2.1,(⟨s11.2.2.1.2.2.2.1,[],s11.2.2.1.2.2.2.2⟩:zB),s11.2.2.2⟩:zh),false),y12.2))
    else
     zb (zy y12.2) fun y13=>
     zb (qx y13.2) fun y14=>
     bif !y14.1.2 then
      some (LO.ret (((⟨s11.2.2.1.1,s11.2.2.1.2.1,s11.2.2.1.2.2.1,(⟨s11.2.2.1.2.2.2.1,[],s11.2.2.1.2.2.2.2⟩:zB),s11.2.2.2⟩:zh),false),y14.2))
     else
      need (zQ s11.2.2.2.length 1 104)<|
      zb (zy y14.2) fun y15=>
      some (LO.again (y15.2,(s11.2.1.1,s11.2.1.2.1,s11.2.1.2.2.1,s11.2.1.2.2.2.1,s11.2.1.2.2.2.2),(s11.2.2.1.1,s11.2.2.1.2.1,s11.2.2.1.2.2.1,s11.2.2.1.2.2.2.1,s11.2.2.1.2.2.2.2),s11.2.2.2++[(⟨y14.1.1.kind,y14.1.1.name,y14.1.1.num,y14.1.1.decl,y14.1.1.list⟩:zh)]))
   else
    some (LO.out (s11.1,(s11.2.1.1,s11.2.1.2.1,s11.2.1.2.2.1,s11.2.1.2.2.2.1,s11.2.1.2.2.2.2),(s11.2.2.1.1,s11.2.2.1.2.1,s11.2.2.1.2.2.1,s11.2.2.1.2.2.2.1,s11.2.2.1.2.2.2.2),s11.2.2.2)):zk×(Int×Str×Int×Str×Bool)×(Int×Str×Int×Str×Bool)×List zh->Option (LO (zk×(Int×Str×Int×Str×Bool)×(Int×Str×Int×Str×Bool)×List zh) (zk×(Int×Str×Int×Str×Bool)×(Int×Str×Int×Str×Bool)×List zh) _)) (y10.2,(j9.2.1.1,j9.2.1.2.1,j9.2.1.2.2.1,j9.2.1.2.2.2.1,j9.2.1.2.2.2.2),(j9.2.2.1.1,j9.2.2.1.2.1,j9.2.2.1.2.2.1,j9.2.2.1.2.2.2.1,j9.2.2.1.2.2.2.2),j9.2.2.2) fun o16=>
 zF (X:=(Int×Str×Int×Str×Bool)×(Int×Str×Int×Str×Bool×List zh)) (
   bif y2.1==[110,111,116]then
    some (LX.out ((o16.2.1.1,o16.2.1.2.1,o16.2.1.2.2.1,o16.2.1.2.2.2.1,o16.2.1.2.2.2.2),(3,[],0,[],false,[(⟨o16.2.2.1.1,o16.2.2.1.2.1,o16.2.2.1.2.2.1,(⟨o16.2.2.1.2.2.2.1,[],o16.2.2.1.2.2.2.2⟩:zB),o16.2.2.2⟩:zh)])))
   else
    some (LX.out ((o16.2.1.1,o16.2.1.2.1,o16.2.1.2.2.1,o16.2.1.2.2.2.1,o16.2.1.2.2.2.2),(o16.2.2.1.1,o16.2.2.1.2.1,o16.2.2.1.2.2.1,o16.2.2.1.2.2.2.1,o16.2.2.1.2.2.2.2,o16.2.2.2)))) fun j17=>
 some (((⟨j17.2.1,j17.2.2.1,j17.2.2.2.1,(⟨j17.2.2.2.2.1,[],j17.2.2.2.2.2.1⟩:zB),j17.2.2.2.2.2.2⟩:zh),true),o16.1)
def Rt(x:List ze):Option (zh×Int):=
 zb (ut (x,18)) fun y1=>
 bif y1.2 != 0 then
  some ((⟨0,[],0,(⟨[],[],false⟩:zB),[]⟩:zh),y1.2)
 else
  zF (X:=Int×Str×Int×Str×Bool) (
    bif (y1.1.length:Int)==1 then
     zb (zy (⟨x⟩:zk)) fun y2=>
     bif (y2.2.v.length:Int)==0 then
      some (LX.ret ((⟨1,[],0,(⟨[],[],false⟩:zB),[]⟩:zh),0))
     else
      some (LX.out (0,[],0,[],false))
    else
     some (LX.out (0,[],0,[],false))) fun j3=>
  bif decide ((y1.1.length:Int)>64)then
   some ((⟨0,[],0,(⟨[],[],false⟩:zB),[]⟩:zh),4)
  else
   zY (fun(s4:Int×(Int×Str×Int×Str×Bool)×List zh)=>
     bif decide (s4.1<(y1.1.length:Int))then
      zb (geti y1.1 s4.1) fun y5=>
      zb (Nv (⟨y5⟩:zk)) fun y6=>
      zF (X:=(Int×Str×Int×Str×Bool)×List zh×zh) (
        bif !y6.1.2 then
         some (LX.out ((s4.2.1.1,s4.2.1.2.1,s4.2.1.2.2.1,s4.2.1.2.2.2.1,s4.2.1.2.2.2.2),s4.2.2,(⟨3,[],0,(⟨[],[],false⟩:zB),[(⟨1,[],0,(⟨[],[],false⟩:zB),[(⟨4,[97,108,108],0,(⟨[],[],false⟩:zB),[]⟩:zh)]⟩:zh)]⟩:zh)))
        else
         some (LX.out ((s4.2.1.1,s4.2.1.2.1,s4.2.1.2.2.1,s4.2.1.2.2.2.1,s4.2.1.2.2.2.2),s4.2.2,(⟨y6.1.1.kind,y6.1.1.name,y6.1.1.num,y6.1.1.decl,y6.1.1.list⟩:zh)))) fun j7=>
      need (zQ j7.2.1.length 1 104)<|
      some (LO.again (w64 (s4.1+1),(j7.1.1,j7.1.2.1,j7.1.2.2.1,j7.1.2.2.2.1,j7.1.2.2.2.2),j7.2.1++[(⟨j7.2.2.kind,j7.2.2.name,j7.2.2.num,j7.2.2.decl,j7.2.2.list⟩:zh)]))
     else
      some (LO.out ((s4.2.1.1,s4.2.1.2.1,s4.2.1.2.2.1,s4.2.1.2.2.2.1,s4.2.1.2.2.2.2),s4.2.2)):Int×(Int×Str×Int×Str×Bool)×List zh->Option (LO (Int×(Int×Str×Int×Str×Bool)×List zh) ((Int×Str×Int×Str×Bool)×List zh) _)) (0,(2,[],0,[],false),[]) fun o8=>
   some ((⟨o8.1.1,o8.1.2.1,o8.1.2.2.1,(⟨o8.1.2.2.2.1,[],o8.1.2.2.2.2⟩:zB),o8.2⟩:zh),0)
def Ku(x:Str×Str×Int×Int):Option Bool:=
 zb (il x.1) fun y1=>
 zb (Rt y1) fun y2=>
 zb (Kl (⟨y2.1.kind,y2.1.name,y2.1.num,y2.1.decl,y2.1.list⟩:zh)) fun y3=>
 bif bif bif y2.2 != 0 then true else y3.2 != 0 then true else !(y3.1==x.2.1)then
  some false
 else
  zY (fun(s4:Int)=>
    bif decide (s4<30)then
     zb (Qk ((⟨y2.1.kind,y2.1.name,y2.1.num,y2.1.decl,y2.1.list⟩:zh),(⟨s4⟩:VEnv),[])) fun y5=>
     bif bif y5.2 != 0 then true else !(y5.1==(bif decide (s4>=x.2.2.1)then decide (s4<=x.2.2.2)else false))then
      some (LO.ret false)
     else
      some (LO.again (w64 (s4+1)))
    else
     some (LO.out ()):Int->Option (LO (Int) (Unit) _)) 0 fun o6=>
  some true
def Hl(x:List ze):Option (List ze):=
 zY (fun(s1:List ze)=>
   zb (zo (decide ((s1.length:Int)>0)) (geti s1 0) (default:ze)) fun y2=>
   zb (zo (decide ((s1.length:Int)>0)) (Zz ((⟨y2.token,y2.list⟩:ze),13)) (default:Bool)) fun y3=>
   bif bif decide ((s1.length:Int)>0)then y3 else false then
    need (decide (1<=(s1.length:Int)))<|
    some (LO.again (List.drop 1 s1))
   else
    some (LO.out s1):List ze->Option (LO (List ze) (List ze) _)) x fun o4=>
 some o4
def Ul(x:List ze):Option (List ze):=
 zY (fun(s1:List ze)=>
   zb (zo (decide ((s1.length:Int)>0)) (geti s1 (w64 ((s1.length:Int) - 1))) (default:ze)) fun y2=>
   zb (zo (decide ((s1.length:Int)>0)) (Zz ((⟨y2.token,y2.list⟩:ze),13)) (default:Bool)) fun y3=>
   bif bif decide ((s1.length:Int)>0)then y3 else false then
    need (decide (0<=w64 ((s1.length:Int) - 1))&&decide (w64 ((s1.length:Int) - 1)<=(s1.length:Int)))<|
    some (LO.again (List.take (w64 ((s1.length:Int) - 1)).toNat s1))
   else
    some (LO.out s1):List ze->Option (LO (List ze) (List ze) _)) x fun o4=>
 some o4
def Ms(x:List ze):Option (zB×Bool):=
 zb (Hl x) fun y1=>
 zb (Ul y1) fun y2=>
 zb (zo (!((y2.length:Int)==0)) (geti y2 0) (default:ze)) fun y3=>
 zb (zo (!((y2.length:Int)==0)) (Zz ((⟨y3.token,y3.list⟩:ze),1)) (default:Bool)) fun y4=>
 bif bif (y2.length:Int)==0 then true else !y4 then
  some ((⟨[],[],false⟩:zB),false)
 else
  zb (geti y2 0) fun y5=>
  zF (X:=List ze×(Str×Bool)×(Str×Bool)) (
    zb (strings_HasPrefix (y5.token.text,[45,45])) fun y6=>
    bif !y6 then
     zb (ZJ y5.token.text) fun y7=>
     some (LX.out (y2,([],false),(y7,false)))
    else
     some (LX.out (y2,([],false),(y5.token.text,false)))) fun j8=>
  need (decide (1<=(j8.1.length:Int)))<|
  zb (Hl (List.drop 1 j8.1)) fun y9=>
  zb (zo (!((y9.length:Int)==0)) (geti y9 0) (default:ze)) fun y10=>
  zb (zo (!((y9.length:Int)==0)) (Zz ((⟨y10.token,y10.list⟩:ze),16)) (default:Bool)) fun y11=>
  bif bif (y9.length:Int)==0 then true else !y11 then
   some ((⟨[],[],false⟩:zB),false)
  else
   need (decide (1<=(y9.length:Int)))<|
   zb (Hl (List.drop 1 y9)) fun y12=>
   zF (X:=List ze×(Str×Bool)×(Str×Bool)) (
     zb (zo (decide (w64 ((y12.length:Int) - 1)>0)) (geti y12 (w64 ((y12.length:Int) - 1))) (default:ze)) fun y13=>
     zb (zo (decide (w64 ((y12.length:Int) - 1)>0)) (Zz ((⟨y13.token,y13.list⟩:ze),1)) (default:Bool)) fun y14=>
     zb (zo (bif decide (w64 ((y12.length:Int) - 1)>0)then y14 else false) (geti y12 (w64 ((y12.length:Int) - 1))) (default:ze)) fun y15=>
     zb (zo (bif decide (w64 ((y12.length:Int) - 1)>0)then y14 else false) (ZW (y15.token.text,[105,109,112,111,114,116,97,110,116])) (default:Bool)) fun y16=>
     bif bif bif decide (w64 ((y12.length:Int) - 1)>0)then y14 else false then y16 else false then
      need (decide (0<=w64 ((y12.length:Int) - 1))&&decide (w64 ((y12.length:Int) - 1)<=(y12.length:Int)))<|
      zb (Ul (List.take (w64 ((y12.length:Int) - 1)).toNat y12)) fun y17=>
      zb (zo (decide ((y17.length:Int)>0)) (geti y17 (w64 ((y17.length:Int) - 1))) (default:ze)) fun y18=>
      zb (zo (decide ((y17.length:Int)>0)) (Il (⟨y18.token,y18.list⟩:ze)) (default:Bool)) fun y19=>
      bif bif decide ((y17.length:Int)>0)then y19 else false then
       need (decide (0<=w64 ((y17.length:Int) - 1))&&decide (w64 ((y17.length:Int) - 1)<=(y17.length:Int)))<|
       zb (Ul (List.take (w64 ((y17.length:Int) - 1)).toNat y17)) fun y20=>
       some (LX.out (y20,(j8.2.1.1,j8.2.1.2),(j8.2.2.1,true)))
      else
       some (LX.out (y12,(j8.2.1.1,j8.2.1.2),(j8.2.2.1,j8.2.2.2)))
     else
      some (LX.out (y12,(j8.2.1.1,j8.2.1.2),(j8.2.2.1,j8.2.2.2)))) fun j21=>
   zb (lg j21.1) fun y22=>
   zb (zo (!(y22.2 != 0)) (QI (⟨j21.2.2.1,y22.1,j21.2.2.2⟩:zB)) (default:Int)) fun y23=>
   bif bif y22.2 != 0 then true else y23 != 0 then
    some ((⟨[],[],false⟩:zB),false)
   else
    some ((⟨j21.2.2.1,y22.1,j21.2.2.2⟩:zB),true)
def Ns(x:List ze):Option (zB×Bool×Int):=
 zb (ZG x) fun y1=>
 bif y1 != 0 then
  some ((⟨[],[],false⟩:zB),false,y1)
 else
  zb (Ms x) fun y2=>
  some (y2.1,y2.2,0)
def qU(zw:zk->Option ((zh×Bool)×zk))(x:zk):Option ((zh×Bool)×zk):=
 zb (zI x) fun y1=>
 bif y1==2 then
  zb (zJ x) fun y2=>
  some (((⟨8,[],0,(⟨[],[],false⟩:zB),[]⟩:zh),true),y2.2)
 else
  bif y1==21 then
   zb (zJ x) fun y3=>
   zb (Ns y3.1.list) fun y4=>
   bif bif y4.2.2==0 then y4.2.1 else false then
    some (((⟨7,[],0,y4.1,[]⟩:zh),true),y3.2)
   else
    zb (zw (⟨y3.1.list⟩:zk)) fun y5=>
    bif y5.1.2 then
     some (((⟨y5.1.1.kind,y5.1.1.name,y5.1.1.num,y5.1.1.decl,y5.1.1.list⟩:zh),true),y3.2)
    else
     some (((⟨8,[],0,(⟨[],[],false⟩:zB),[]⟩:zh),true),y3.2)
  else
   some (((⟨8,[],0,(⟨[],[],false⟩:zB),[]⟩:zh),false),x)
def QO(zw:zk->Option ((zh×Bool)×zk))(x:zk):Option ((zh×Bool)×zk):=
 zb (zy x) fun y1=>
 zb (Zn ([[110,111,116]],y1.2)) fun y2=>
 bif !(y2.1==[])then
  zb (zy y2.2) fun y3=>
  zb (qU zw y3.2) fun y4=>
  zb (zy y4.2) fun y5=>
  some (((⟨3,[],0,(⟨[],[],false⟩:zB),[(⟨y4.1.1.kind,y4.1.1.name,y4.1.1.num,y4.1.1.decl,y4.1.1.list⟩:zh)]⟩:zh),bif bif y4.1.2 then y3.1 else false then(y5.2.v.length:Int)==0 else false),y5.2)
 else
  zb (qU zw y2.2) fun y6=>
  bif !y6.1.2 then
   some (((⟨y6.1.1.kind,y6.1.1.name,y6.1.1.num,y6.1.1.decl,y6.1.1.list⟩:zh),false),y6.2)
  else
   zb (zy y6.2) fun y7=>
   bif (y7.2.v.length:Int)==0 then
    some (((⟨y6.1.1.kind,y6.1.1.name,y6.1.1.num,y6.1.1.decl,y6.1.1.list⟩:zh),true),y7.2)
   else
    zY (fun(s8:Bool×zk×(Int×Str×Int×Str×Bool)×(Int×Str×Int×Str×Bool)×List zh)=>
      bif decide ((s8.2.1.v.length:Int)>0)then
       zb (Zn ([[97,110,100],[111,114]],s8.2.1)) fun y9=>
       bif bif bif (bif y9.1==[97,110,100]then 1 else bif y9.1==[111,114]then 2 else(0:Int))==0 then true else !s8.1 then true else bif s8.2.2.2.1.1 != 0 then s8.2.2.2.1.1 != (bif y9.1==[97,110,100]then 1 else bif y9.1==[111,114]then 2 else(0:Int))else false then
        some (LO.ret (((⟨s8.2.2.2.1.1,s8.2.2.2.1.2.1,s8.2.2.2.1.2.2.1,(⟨s8.2.2.2.1.2.2.2.1,[],s8.2.2.2.1.2.2.2.2⟩:zB),s8.2.2.2.2⟩:zh),false),y9.2))
       else
        zb (zy y9.2) fun y10=>
        zb (qU zw y10.2) fun y11=>
        bif bif !y10.1 then true else !y11.1.2 then
         some (LO.ret (((⟨bif y9.1==[97,110,100]then 1 else bif y9.1==[111,114]then 2 else(0:Int),s8.2.2.2.1.2.1,s8.2.2.2.1.2.2.1,(⟨s8.2.2.2.1.2.2.2.1,[],s8.2.2.2.1.2.2.2.2⟩:zB),s8.2.2.2.2⟩:zh),false),y11.2))
        else
         need (zQ s8.2.2.2.2.length 1 104)<|
         zb (zy y11.2) fun y12=>
         some (LO.again (y12.1,y12.2,(s8.2.2.1.1,s8.2.2.1.2.1,s8.2.2.1.2.2.1,s8.2.2.1.2.2.2.1,s8.2.2.1.2.2.2.2),(bif y9.1==[97,110,100]then 1 else bif y9.1==[111,114]then 2 else(0:Int),s8.2.2.2.1.2.1,s8.2.2.2.1.2.2.1,s8.2.2.2.1.2.2.2.1,s8.2.2.2.1.2.2.2.2),s8.2.2.2.2++[(⟨y11.1.1.kind,y11.1.1.name,y11.1.1.num,y11.1.1.decl,y11.1.1.list⟩:zh)]))
      else
       some (LO.out (s8.2.1,(s8.2.2.1.1,s8.2.2.1.2.1,s8.2.2.1.2.2.1,s8.2.2.1.2.2.2.1,s8.2.2.1.2.2.2.2),(s8.2.2.2.1.1,s8.2.2.2.1.2.1,s8.2.2.2.1.2.2.1,s8.2.2.2.1.2.2.2.1,s8.2.2.2.1.2.2.2.2),s8.2.2.2.2)):Bool×zk×(Int×Str×Int×Str×Bool)×(Int×Str×Int×Str×Bool)×List zh->Option (LO (Bool×zk×(Int×Str×Int×Str×Bool)×(Int×Str×Int×Str×Bool)×List zh) (zk×(Int×Str×Int×Str×Bool)×(Int×Str×Int×Str×Bool)×List zh) _)) (y7.1,y7.2,(0,[],0,[],false),(0,[],0,[],false),[(⟨y6.1.1.kind,y6.1.1.name,y6.1.1.num,y6.1.1.decl,y6.1.1.list⟩:zh)]) fun o13=>
    some (((⟨o13.2.2.1.1,o13.2.2.1.2.1,o13.2.2.1.2.2.1,(⟨o13.2.2.1.2.2.2.1,[],o13.2.2.1.2.2.2.2⟩:zB),o13.2.2.2⟩:zh),true),o13.1)
def zw:zk->Option ((zh×Bool)×zk):=recE (QO)
def tu(x:List ze):Option (zh×Int):=
 zb (ZG x) fun y1=>
 bif y1 != 0 then
  some ((⟨0,[],0,(⟨[],[],false⟩:zB),[]⟩:zh),y1)
 else
  zb (zw (⟨x⟩:zk)) fun y2=>
  zb (zo (!(!y2.1.2)) (Ze (⟨y2.1.1.kind,y2.1.1.name,y2.1.1.num,y2.1.1.decl,y2.1.1.list⟩:zh)) (default:Int)) fun y3=>
  bif bif !y2.1.2 then true else y3 != 0 then
   some ((⟨0,[],0,(⟨[],[],false⟩:zB),[]⟩:zh),12)
  else
   some ((⟨y2.1.1.kind,y2.1.1.name,y2.1.1.num,y2.1.1.decl,y2.1.1.list⟩:zh),0)
def Kq(x:Int×List Bool):Option (Bool×Int):=
 need (decide (0<=w64 (w64 (x.1+1) - 1))&&decide (w64 (w64 (x.1+1) - 1)<(x.2.length:Int)))<|
 zb (x.2[(w64 (w64 (x.1+1) - 1)).toNat]?) fun y1=>
 some (y1,w64 (x.1+1))
def Q0(Zq:(zh×Int)×Int×List Bool->Option (Bool×Int))(x:(zh×Int)×Int×List Bool):Option (Bool×Int):=
 bif x.1.1.kind==4 then
  some (bif x.1.1.name==[97,108,108]then true else x.1.1.name==[115,99,114,101,101,110],x.2.1)
 else
  bif x.1.1.kind==5 then
   some (decide (x.1.2>=x.1.1.num),x.2.1)
  else
   bif x.1.1.kind==6 then
    some (decide (x.1.2<=x.1.1.num),x.2.1)
   else
    bif x.1.1.kind==7 then
     zb (Kq (x.2.1,x.2.2)) fun y1=>
     some (y1.1,y1.2)
    else
     bif x.1.1.kind==8 then
      some (false,x.2.1)
     else
      zY (fun(s2:(Bool×Bool×Int)×Int)=>
        bif decide (s2.1.2.2<(x.1.1.list.length:Int))then
         zb (geti x.1.1.list s2.1.2.2) fun y3=>
         zb (Zq (((⟨y3.kind,y3.name,y3.num,y3.decl,y3.list⟩:zh),x.1.2),s2.2,x.2.2)) fun y4=>
         some (LO.again ((bif s2.1.1 then y4.1 else false,bif s2.1.2.1 then true else y4.1,w64 (s2.1.2.2+1)),y4.2))
        else
         some (LO.out ((s2.1.1,s2.1.2.1),s2.2)):(Bool×Bool×Int)×Int->Option (LO ((Bool×Bool×Int)×Int) ((Bool×Bool)×Int) _)) ((true,false,0),x.2.1) fun o5=>
      bif x.1.1.kind==1 then
       some (o5.1.1,o5.2)
      else
       bif x.1.1.kind==2 then
        some (o5.1.2,o5.2)
       else
        some (!o5.1.2,o5.2)
def Zq:(zh×Int)×Int×List Bool->Option (Bool×Int):=recE (Q0)
def qF(x:(zh×VEnv)×List Bool):Option (Bool×Int):=
 zb (mh (⟨x.1.1.kind,x.1.1.name,x.1.1.num,x.1.1.decl,x.1.1.list⟩:zh)) fun y1=>
 bif y1 != 0 then
  some (false,y1)
 else
  zb (zo (!(bif decide (x.1.2.width<0)then true else decide (x.1.2.width>1000000000))) (Zx (⟨x.1.1.kind,x.1.1.name,x.1.1.num,x.1.1.decl,x.1.1.list⟩:zh)) (default:List zB)) fun y2=>
  bif bif bif decide (x.1.2.width<0)then true else decide (x.1.2.width>1000000000)then true else(x.2.length:Int) != (y2.length:Int)then
   some (false,2)
  else
   zb (Zq (((⟨x.1.1.kind,x.1.1.name,x.1.1.num,x.1.1.decl,x.1.1.list⟩:zh),w64 (1000*x.1.2.width)),0,x.2)) fun y3=>
   some (y3.1,0)
def pu(x:Str×Str×Bool×Bool):Option Bool:=
 zb (il x.1) fun y1=>
 zb (tu y1) fun y2=>
 zb (Kl (⟨y2.1.kind,y2.1.name,y2.1.num,y2.1.decl,y2.1.list⟩:zh)) fun y3=>
 zb (Tt (⟨y2.1.kind,y2.1.name,y2.1.num,y2.1.decl,y2.1.list⟩:zh)) fun y4=>
 bif bif bif bif y2.2 != 0 then true else y3.2 != 0 then true else y4.2 != 0 then true else !(y3.1==x.2.1)then
  some false
 else
  need (decide (0<=(y4.1.length:Int))&&decide ((y4.1.length:Int)<=(y4.1.length:Int))&&decide ((y4.1.length:Int)*1<=140737488355328)&&decide ((y4.1.length:Int)<=9223372036854775807))<|
  zb (qF (((⟨y2.1.kind,y2.1.name,y2.1.num,y2.1.decl,y2.1.list⟩:zh),(⟨0⟩:VEnv)),List.replicate (Int.toNat (y4.1.length:Int)) false)) fun y5=>
  zY (fun(s6:Int×List Bool)=>
    bif decide (s6.1<(s6.2.length:Int))then
     need (decide (0<=s6.1)&&decide (s6.1<(s6.2.length:Int)))<|
     zb s6.2[s6.1.toNat]? fun y7=>
     some (LO.again (w64 (s6.1+1),List.set s6.2 s6.1.toNat true))
    else
     some (LO.out s6.2):Int×List Bool->Option (LO (Int×List Bool) (List Bool) _)) (0,List.replicate (Int.toNat (y4.1.length:Int)) false) fun o8=>
  zb (qF (((⟨y2.1.kind,y2.1.name,y2.1.num,y2.1.decl,y2.1.list⟩:zh),(⟨0⟩:VEnv)),o8)) fun y9=>
  some (bif bif bif y5.2==0 then y9.2==0 else false then y5.1==x.2.2.2 else false then y9.1==x.2.2.1 else false)
def di(x:Unit):Option Bool:=
 zb (Ku ([83,99,114,101,101,110,32,65,78,68,32,40,109,105,110,45,119,105,100,116,104,58,49,48,46,53,112,120,41,44,32,40,102,111,111,41],[115,99,114,101,101,110,32,97,110,100,32,40,109,105,110,45,119,105,100,116,104,58,32,49,48,46,53,112,120,41,44,32,110,111,116,32,97,108,108],11,99)) fun y1=>
 zb (zo y1 (pu ([110,111,116,32,40,40,97,58,98,41,32,111,114,32,40,99,41,41],[110,111,116,32,40,40,97,58,32,98,41,32,111,114,32,40,117,110,107,110,111,119,110,41,41],false,true)) (default:Bool)) fun y2=>
 some (bif y1 then y2 else false)
def GA(x:zh×zh×List Bool×List Bool):Option Bool:=
 zb (Bp (⟨x.1.kind,x.1.name,x.1.num,x.1.decl,x.1.list⟩:zh)) fun y1=>
 zb (zo (!y1) (Bp (⟨x.2.1.kind,x.2.1.name,x.2.1.num,x.2.1.decl,x.2.1.list⟩:zh)) (default:Bool)) fun y2=>
 zb (zo (!(bif y1 then true else y2)) (ZB (⟨x.1.kind,x.1.name,x.1.num,x.1.decl,x.1.list⟩:zh)) (default:Int)) fun y3=>
 zb (zo (!(bif bif y1 then true else y2 then true else y3 != 0)) (ZB (⟨x.2.1.kind,x.2.1.name,x.2.1.num,x.2.1.decl,x.2.1.list⟩:zh)) (default:Int)) fun y4=>
 bif bif bif bif bif bif y1 then true else y2 then true else y3 != 0 then true else y4 != 0 then true else decide ((x.2.2.1.length:Int)>110)then true else decide ((x.2.2.2.length:Int)>110)then
  zb (di ()) fun y5=>
  some y5
 else
  zb (Qk ((⟨x.1.kind,x.1.name,x.1.num,x.1.decl,x.1.list⟩:zh),(⟨100⟩:VEnv),x.2.2.1)) fun y6=>
  zb (Qk ((⟨x.2.1.kind,x.2.1.name,x.2.1.num,x.2.1.decl,x.2.1.list⟩:zh),(⟨100⟩:VEnv),x.2.2.2)) fun y7=>
  bif bif y6.2 != 0 then true else y7.2 != 0 then
   zb (zo (bif bif y6.2==0 then true else y6.2==2 then bif y7.2==0 then true else y7.2==2 else false) (di ()) (default:Bool)) fun y8=>
   some (bif bif bif y6.2==0 then true else y6.2==2 then bif y7.2==0 then true else y7.2==2 else false then y8 else false)
  else
   need (zQ 0 x.2.2.1.length 1)<|
   need (zQ x.2.2.1.length x.2.2.2.length 1)<|
   zb (ZB (⟨3,[],0,(⟨[],[],false⟩:zB),[(⟨x.1.kind,x.1.name,x.1.num,x.1.decl,x.1.list⟩:zh)]⟩:zh)) fun y9=>
   zb (zo (!(y9 != 0)) (ZB (⟨1,[],0,(⟨[],[],false⟩:zB),[(⟨x.1.kind,x.1.name,x.1.num,x.1.decl,x.1.list⟩:zh),(⟨x.2.1.kind,x.2.1.name,x.2.1.num,x.2.1.decl,x.2.1.list⟩:zh)]⟩:zh)) (default:Int)) fun y10=>
   bif bif y9 != 0 then true else y10 != 0 then
    zb (di ()) fun y11=>
    some y11
   else
    zb (Qk ((⟨3,[],0,(⟨[],[],false⟩:zB),[(⟨x.1.kind,x.1.name,x.1.num,x.1.decl,x.1.list⟩:zh)]⟩:zh),(⟨100⟩:VEnv),x.2.2.1)) fun y12=>
    zb (qF (((⟨1,[],0,(⟨[],[],false⟩:zB),[(⟨x.1.kind,x.1.name,x.1.num,x.1.decl,x.1.list⟩:zh),(⟨x.2.1.kind,x.2.1.name,x.2.1.num,x.2.1.decl,x.2.1.list⟩:zh)]⟩:zh),(⟨100⟩:VEnv)),x.2.2.1++x.2.2.2)) fun y13=>
    zb (qF (((⟨2,[],0,(⟨[],[],false⟩:zB),[(⟨x.1.kind,x.1.name,x.1.num,x.1.decl,x.1.list⟩:zh),(⟨x.2.1.kind,x.2.1.name,x.2.1.num,x.2.1.decl,x.2.1.list⟩:zh)]⟩:zh),(⟨100⟩:VEnv)),x.2.2.1++x.2.2.2)) fun y14=>
    zb (zo (bif bif bif bif bif y12.2==0 then y13.2==0 else false then y14.2==0 else false then y12.1==(!y6.1)else false then y13.1==(bif y6.1 then y7.1 else false)else false then y14.1==(bif y6.1 then true else y7.1)else false) (di ()) (default:Bool)) fun y15=>
    some (bif bif bif bif bif bif y12.2==0 then y13.2==0 else false then y14.2==0 else false then y12.1==(!y6.1)else false then y13.1==(bif y6.1 then y7.1 else false)else false then y14.1==(bif y6.1 then true else y7.1)else false then y15 else false)
end Go.Lv.VT
end
