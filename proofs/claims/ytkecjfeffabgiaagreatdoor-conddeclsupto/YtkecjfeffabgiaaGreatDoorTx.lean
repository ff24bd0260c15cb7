/- Texts. -/
import Derived.Test.YtkecjfeffabgiaaGreatDoorTy
import Derived.Test.YtkecjfeffabgiaaGreatDoorLf
noncomputable section
set_option linter.unusedSimpArgs false
set_option linter.unusedVariables false
namespace Go.Lv.VT
set_option maxRecDepth 100000
def Wp(qh:zh×Int->Option Int)(x:zh×Int):Option Int:=
 zX (fun(s1:Int×Int)=>
   bif bif decide (s1.2<(x.1.list.length:Int))then decide (s1.1<=x.2)else false then
    zb (geti x.1.list s1.2) fun y2=>
    zb (qh ((⟨y2.kind,y2.name,y2.num,y2.decl,y2.list⟩:zh),w64 (x.2 - s1.1))) fun y3=>
    some (LO.again (w64 (s1.1+y3),w64 (s1.2+1)))
   else
    some (LO.out s1.1):Int×Int->Option (LO (Int×Int) (Int) _)) (1,0) fun o4=>
 some o4
def qh:zh×Int->Option Int:=recE (Wp)
def Xp(Qi:List ze×Int->Option Int)(x:List ze×Int):Option Int:=
 zX (fun(s1:Int×Int)=>
   bif bif decide (s1.2<(x.1.length:Int))then decide (s1.1<=x.2)else false then
    zb (geti x.1 s1.2) fun y2=>
    zb (geti x.1 s1.2) fun y3=>
    zb (geti x.1 s1.2) fun y4=>
    zb (Qi (y4.list,w64 (x.2 - s1.1))) fun y5=>
    some (LO.again (w64 (s1.1+w64 (w64 (w64 (1+(y2.token.text.length:Int))+(y3.token.unit.length:Int))+y5)),w64 (s1.2+1)))
   else
    some (LO.out s1.1):Int×Int->Option (LO (Int×Int) (Int) _)) (0,0) fun o6=>
 some o6
def Qi:List ze×Int->Option Int:=recE (Xp)
def QT(x:Int):Option Int:=
 bif x==19 then
  some 20
 else
  zD (X:=Bool) (
    bif x==21 then
     some (LX.out (x==21))
    else
     some (LX.out (x==2))) fun j1=>
  bif j1 then
   some 22
  else
   bif x==23 then
    some 24
   else
    some 0
def Ez(qO:List ze->Option Int)(x:List ze):Option Int:=
 zX (fun(s1:Int×Int)=>
   bif decide (s1.2<(x.length:Int))then
    zD (X:=Int×Int) (
      zb (geti x s1.2) fun y2=>
      zb (QT y2.token.kind) fun y3=>
      bif y3 != 0 then
       zb (geti x s1.2) fun y4=>
       zb (qO y4.list) fun y5=>
       some (LX.out (if w64 (1+y5)>s1.1 then w64 (1+y5)else s1.1,s1.2))
      else
       some (LX.out (s1.1,s1.2))) fun j6=>
    some (LO.again (j6.1,w64 (j6.2+1)))
   else
    some (LO.out s1.1):Int×Int->Option (LO (Int×Int) (Int) _)) (0,0) fun o7=>
 some o7
def qO:List ze->Option Int:=recE (Ez)
def Eu(x:List zA):Option Bool:=
 bif decide ((x.length:Int)>40)then
  some true
 else
  zX (fun(s1:Int×Int)=>
    bif decide (s1.2<(x.length:Int))then
     zb (geti x s1.2) fun y2=>
     zb (geti x s1.2) fun y3=>
     zb (Qi (y3.value,300)) fun y4=>
     zb (zo (!(decide (w64 (s1.1+w64 ((y2.name.length:Int)+y4))>300))) (geti x s1.2) (default:zA)) fun y5=>
     zb (zo (!(decide (w64 (s1.1+w64 ((y2.name.length:Int)+y4))>300))) (qO y5.value) (default:Int)) fun y6=>
     bif bif decide (w64 (s1.1+w64 ((y2.name.length:Int)+y4))>300)then true else decide (y6>40)then
      some (LO.ret true)
     else
      some (LO.again (w64 (s1.1+w64 ((y2.name.length:Int)+y4)),w64 (s1.2+1)))
    else
     some (LO.out ()):Int×Int->Option (LO (Int×Int) (Unit) _)) (0,0) fun o7=>
  some false
def Vp(Xh:zh->Option Bool)(x:zh):Option Bool:=
 zb (Eu [x.decl]) fun y1=>
 bif bif y1 then true else decide ((x.name.length:Int)>200)then
  some true
 else
  zX (fun(s2:Int)=>
    bif decide (s2<(x.list.length:Int))then
     zb (geti x.list s2) fun y3=>
     zb (Xh (⟨y3.kind,y3.name,y3.num,y3.decl,y3.list⟩:zh)) fun y4=>
     bif y4 then
      some (LO.ret true)
     else
      some (LO.again (w64 (s2+1)))
    else
     some (LO.out ()):Int->Option (LO (Int) (Unit) _)) 0 fun o5=>
  some false
def Xh:zh->Option Bool:=recE (Vp)
def Bu(x:zh):Option Bool:=
 zb (qh ((⟨x.kind,x.name,x.num,x.decl,x.list⟩:zh),100)) fun y1=>
 zb (zo (!(decide (y1>100))) (Xh (⟨x.kind,x.name,x.num,x.decl,x.list⟩:zh)) (default:Bool)) fun y2=>
 some (bif decide (y1>100)then true else y2)
def qV(x:Int):Option Int:=
 bif x==2 then
  some 22
 else
  zD (X:=Bool) (
    bif x==19 then
     some (LX.out (x==19))
    else
     bif x==21 then
      some (LX.out (x==21))
     else
      some (LX.out (x==23))) fun j1=>
  bif j1 then
   some (wu8 (x+1))
  else
   some 0
def Ep(qo:List ze×Int->Option zB)(x:List ze×Int):Option zB:=
 zX (fun(s1:Int×zB)=>
   bif decide (s1.1<(x.1.length:Int))then
    zD (X:=Int×zB) (
      zb (geti x.1 s1.1) fun y2=>
      zb (qV y2.token.kind) fun y3=>
      zD (X:=zB) (
        bif bif bif x.2 != 0 then y2.token.kind==x.2 else false then true else bif y3==0 then decide ((y2.list.length:Int)>0)else false then
         some (LX.out (⟨s1.2.depth,w64 (s1.2.tokens+1),true⟩:zB))
        else
         some (LX.out (⟨s1.2.depth,w64 (s1.2.tokens+1),s1.2.bad⟩:zB))) fun j4=>
      bif y3==0 then
       some (LX.out (s1.1,j4))
      else
       zb (qo (y2.list,y3)) fun y5=>
       some (LX.out (s1.1,(⟨if w64 (y5.depth+1)>j4.depth then w64 (y5.depth+1)else j4.depth,w64 (w64 (j4.tokens+y5.tokens)+1),bif j4.bad then true else y5.bad⟩:zB)))) fun j6=>
    some (LO.again (w64 (j6.1+1),j6.2))
   else
    some (LO.out s1.2):Int×zB->Option (LO (Int×zB) (zB) _)) (0,(⟨0,0,false⟩:zB)) fun o7=>
 some o7
def qo:List ze×Int->Option zB:=recE (Ep)
def ZF(x:List ze):Option Int:=
 zb (qo (x,0)) fun y1=>
 bif decide (y1.depth>16)then
  some 20
 else
  bif decide (y1.tokens>1500)then
   some 4
  else
   bif y1.bad then
    some 8
   else
    some 0
def Ml(x:List ze):Option (Int×Int):=
 zb (ZF x) fun y1=>
 bif y1 != 0 then
  some (0,y1)
 else
  zb (qo (x,0)) fun y2=>
  some (y2.depth,0)
def Dq(ZJ:List ze×List zf->Option (List zf))(x:List ze×List zf):Option (List zf):=
 zX (fun(s1:Int×List zf)=>
   bif decide (s1.1<(x.1.length:Int))then
    zD (X:=Int×List zf) (
      zb (geti x.1 s1.1) fun y2=>
      need (zR s1.2.length 1 56)<|
      zb (qV y2.token.kind) fun y3=>
      bif y3 != 0 then
       zb (ZJ (y2.list,s1.2++[y2.token])) fun y4=>
       need (zR y4.length 1 56)<|
       some (LX.out (s1.1,y4++[(⟨y3,[],0,[],false⟩:zf)]))
      else
       some (LX.out (s1.1,s1.2++[y2.token]))) fun j5=>
    some (LO.again (w64 (j5.1+1),j5.2))
   else
    some (LO.out s1.2):Int×List zf->Option (LO (Int×List zf) (List zf) _)) (0,x.2) fun o6=>
 some o6
def ZJ:List ze×List zf->Option (List zf):=recE (Dq)
def Q0(x:List ze):Option (List zf):=
 zX (fun(s1:Int×List zf)=>
   bif decide (s1.1<(x.length:Int))then
    zD (X:=Int×List zf) (
      zb (geti x s1.1) fun y2=>
      need (zR s1.2.length 1 56)<|
      zb (qV y2.token.kind) fun y3=>
      bif y3 != 0 then
       zb (ZJ (y2.list,s1.2++[y2.token])) fun y4=>
       need (zR y4.length 1 56)<|
       some (LX.out (s1.1,y4++[(⟨y3,[],0,[],false⟩:zf)]))
      else
       some (LX.out (s1.1,s1.2++[y2.token]))) fun j5=>
    some (LO.again (w64 (j5.1+1),j5.2))
   else
    some (LO.out s1.2):Int×List zf->Option (LO (Int×List zf) (List zf) _)) (0,[]) fun o6=>
 some o6
def Bl(x:List ze):Option (List zf×Int):=
 zb (ZF x) fun y1=>
 bif y1 != 0 then
  some ([],y1)
 else
  zb (Q0 x) fun y2=>
  some (y2,0)
def strings_IndexByte(x:Str×Int):Option Int:=
 zb (Lr (x.1,x.2)) fun y1=>
 some y1
def stringslite_HasPrefix(x:Str×Str):Option Bool:=
 need (decide (0<=(x.2.length:Int))&&decide ((x.2.length:Int)<=(x.1.length:Int))|| !(decide ((x.1.length:Int)>=(x.2.length:Int))))<|
 some (bif decide ((x.1.length:Int)>=(x.2.length:Int))then List.take x.2.length x.1==x.2 else false)
def strings_HasPrefix(x:Str×Str):Option Bool:=
 zb (stringslite_HasPrefix (x.1,x.2)) fun y1=>
 some y1
def ZH(x:Str):Option Str:=
 need (decide (x.length<=maxLen))<|
 zX (fun(s1:Int×List UInt8)=>
   bif decide (s1.1<(x.length:Int))then
    zD (X:=Int×List UInt8) (
      need (decide (0<=s1.1)&&decide (s1.1<(s1.2.length:Int)))<|
      zb s1.2[s1.1.toNat]? fun y2=>
      bif bif decide (65<=(y2.toNat:Int))then decide ((y2.toNat:Int)<=90)else false then
       need (decide (0<=s1.1)&&decide (s1.1<(s1.2.length:Int)))<|
       zb s1.2[s1.1.toNat]? fun y3=>
       need (decide (0<=s1.1)&&decide (s1.1<(s1.2.length:Int)))<|
       zb s1.2[s1.1.toNat]? fun y4=>
       zb (ZQ (ibOr IntKind.u8 (y3.toNat:Int) 32)) fun y5=>
       some (LX.out (s1.1,List.set s1.2 s1.1.toNat y5))
      else
       some (LX.out (s1.1,s1.2))) fun j6=>
    some (LO.again (w64 (j6.1+1),j6.2))
   else
    some (LO.out s1.2):Int×List UInt8->Option (LO (Int×List UInt8) (List UInt8) _)) (0,x) fun o7=>
 some o7
def Rl(x:Str):Option Bool:=
 zb (zo (!(bif x==[]then true else decide ((x.length:Int)>64))) (strings_IndexByte (x,0)) (default:Int)) fun y1=>
 bif bif bif x==[]then true else decide ((x.length:Int)>64)then true else decide (y1>=0)then
  some false
 else
  zb (strings_HasPrefix (x,[45,45])) fun y2=>
  bif y2 then
   some (!(x==[45,45]))
  else
   zb (ZH x) fun y3=>
   some (x==y3)
def stringslite_TrimPrefix(x:Str×Str):Option Str:=
 zb (stringslite_HasPrefix (x.1,x.2)) fun y1=>
 bif y1 then
  need (decide (0<=(x.2.length:Int))&&decide ((x.2.length:Int)<=(x.1.length:Int)))<|
  some (List.drop x.2.length x.1)
 else
  some x.1
def strings_TrimPrefix(x:Str×Str):Option Str:=
 zb (stringslite_TrimPrefix (x.1,x.2)) fun y1=>
 some y1
def qf(x:Int):Option Bool:=
 some (bif decide (48<=x)then decide (x<=57)else false)
def Yj(x:Str):Option Bool:=
 zb (strings_TrimPrefix (x,[45])) fun y1=>
 zb (zo (!(y1==[])) (geti y1 0) 0) fun y2=>
 zb (zo (!(y1==[])) (qf (y2.toNat:Int)) (default:Bool)) fun y3=>
 some (bif !(y1==[])then y3 else false)
def Ou(x:Int):Option Bool:=
 some (bif bif decide (97<=ibOr IntKind.u8 x 32)then decide (ibOr IntKind.u8 x 32<=122)else false then decide (x<128)else false)
def Yh(x:Int):Option Bool:=
 zb (Ou x) fun y1=>
 zb (zo (!y1) (qf x) (default:Bool)) fun y2=>
 some (bif bif bif bif y1 then true else y2 then true else x==95 then true else x==45 then true else decide (x>=128))
def strings_Contains(x:Str×Str):Option Bool:=
 zb (Ej (x.1,x.2)) fun y1=>
 some (decide (y1>=0))
def Uo(x:zf):Option Bool:=
 need (qZ x.text.length x.unit.length)<|
 zb (strings_IndexByte (x.text++x.unit,0)) fun y1=>
 zD (X:=Bool×Bool×Bool×Bool×Bool) (
   zD (X:=Bool×Bool×Bool×Bool×Bool×Bool) (
     bif x.kind==1 then
      some (LX.out (false,false,false,false,decide (y1<0),x.kind==1))
     else
      bif x.kind==2 then
       some (LX.out (false,false,false,false,decide (y1<0),x.kind==2))
      else
       some (LX.out (false,false,false,false,decide (y1<0),x.kind==3))) fun j2=>
   bif j2.2.2.2.2.2 then
    some (LX.out (true,j2.2.1,j2.2.2.1,j2.2.2.2.1,bif j2.2.2.2.2.1 then !(x.text==[])else false))
   else
    bif x.kind==4 then
     zb (zo (!x.flag&&(bif j2.2.2.2.2.1 then !(x.text==[])else false)) (Yj x.text) (default:Bool)) fun y3=>
     zb (zo (y3&&(!x.flag&&(bif j2.2.2.2.2.1 then !(x.text==[])else false))) (strings_HasPrefix (x.text,[45,45])) (default:Bool)) fun y4=>
     some (LX.out (true,j2.2.1,j2.2.2.1,true,bif bif j2.2.2.2.2.1 then !(x.text==[])else false then bif bif x.flag then true else bif y3 then !y4 else false then true else x.text==[45]else false))
    else
     zD (X:=Bool×Bool×Bool×Bool×Bool×Bool) (
       bif x.kind==5 then
        some (LX.out (j2.1,j2.2.1,j2.2.2.1,j2.2.2.2.1,j2.2.2.2.2.1,x.kind==5))
       else
        some (LX.out (j2.1,j2.2.1,j2.2.2.1,j2.2.2.2.1,j2.2.2.2.2.1,x.kind==7))) fun j5=>
     bif j5.2.2.2.2.2 then
      some (LX.out (true,j5.2.1,j5.2.2.1,j5.2.2.2.1,j5.2.2.2.2.1))
     else
      bif x.kind==9 then
       zb (zo (bif j5.2.2.2.2.1 then(x.text.length:Int)==1 else false) (geti x.text 0) 0) fun y6=>
       zb (zo (bif j5.2.2.2.2.1 then(x.text.length:Int)==1 else false) (Yh (y6.toNat:Int)) (default:Bool)) fun y7=>
       zb (zo (bif bif bif j5.2.2.2.2.1 then(x.text.length:Int)==1 else false then !y7 else false then true else x.text==[45]) (strings_Contains ([32,9,10,12,13,34,39,58,59,44,91,93,40,41,123,125],x.text)) (default:Bool)) fun y8=>
       some (LX.out (true,j5.2.1,j5.2.2.1,j5.2.2.2.1,bif bif bif bif j5.2.2.2.2.1 then(x.text.length:Int)==1 else false then !y7 else false then true else x.text==[45]then !y8 else false))
      else
       zD (X:=Bool×Bool×Bool×Bool×Bool) (
         bif x.kind==10 then
          some (LX.out (j5.2.1,j5.2.2.1,j5.2.2.2.1,j5.2.2.2.2.1,x.kind==10))
         else
          bif x.kind==11 then
           some (LX.out (j5.2.1,j5.2.2.1,j5.2.2.2.1,j5.2.2.2.2.1,x.kind==11))
          else
           some (LX.out (j5.2.1,j5.2.2.1,j5.2.2.2.1,j5.2.2.2.2.1,x.kind==12))) fun j9=>
       bif j9.2.2.2.2 then
        some (LX.out (j5.1,x.kind==12,true,x.kind != 11,bif bif bif bif j9.2.2.2.1 then decide (x.num>=(-1000000000000))else false then decide (x.num<=1000000000000)else false then bif !x.flag then true else Int.tmod x.num 1000==0 else false then bif !(x.kind==12)then true else !(x.unit==[])else false))
       else
        some (LX.out (j5.1,j9.1,j9.2.1,j9.2.2.1,bif decide (x.kind>=13)then decide (x.kind<=24)else false))) fun j10=>
 some (bif bif bif bif j10.2.2.2.2 then bif j10.1 then true else x.text==[]else false then bif j10.2.1 then true else x.unit==[]else false then bif j10.2.2.1 then true else x.num==0 else false then bif j10.2.2.2.1 then true else !x.flag else false)
def qj(x:(Int×Int)×List zf):Option Bool:=
 zb (zo (decide (x.1.1<(x.2.length:Int))) (geti x.2 x.1.1) (default:zf)) fun y1=>
 some (bif decide (x.1.1<(x.2.length:Int))then y1.kind==x.1.2 else false)
def ZU(x:Str×Str):Option Bool:=
 zb (ZH x.1) fun y1=>
 zb (ZH x.2) fun y2=>
 some (y1==y2)
def Xi(x:List zf):Option Int:=
 zb (geti x 0) fun y1=>
 bif bif y1.kind==9 then y1.text==[92]else false then
  zb (qj ((1,13),x)) fun y2=>
  bif !y2 then
   some 0
  else
   some 2
 else
  zb (zo (y1.kind==2) (ZU (y1.text,[117,114,108])) (default:Bool)) fun y3=>
  bif bif y1.kind==2 then y3 else false then
   zD (X:=Int) (
     zb (qj ((1,13),x)) fun y4=>
     bif y4 then
      some (LX.out 2)
     else
      some (LX.out 1)) fun j5=>
   zb (qj ((j5,5),x)) fun y6=>
   bif !y6 then
    some 0
   else
    some (w64 (j5+1))
  else
   some 1
def QF(x:List zf):Option Int:=
 bif decide ((x.length:Int)>1500)then
  some 4
 else
  zX (fun(s1:Int)=>
    bif decide (s1<(x.length:Int))then
     zb (geti x s1) fun y2=>
     zb (Uo y2) fun y3=>
     need (decide (0<=s1)&&decide (s1<=(x.length:Int))|| !(!(!y3)))<|
     zb (zo (!(!y3)) (Xi (List.drop s1.toNat x)) (default:Int)) fun y4=>
     bif bif !y3 then true else y4==0 then
      some (LO.ret 8)
     else
      some (LO.again (w64 (s1+1)))
    else
     some (LO.out ()):Int->Option (LO (Int) (Unit) _)) 0 fun o5=>
  some 0
def ZA(x:ze×Int):Option Bool:=
 some (x.1.token.kind==x.2)
def Qe(zt:List ze->Option Bool)(x:ze):Option Bool:=
 zb (ZA ((⟨x.token,x.list⟩:ze),20)) fun y1=>
 zb (zo (!y1) (ZA ((⟨x.token,x.list⟩:ze),22)) (default:Bool)) fun y2=>
 zb (zo (!(bif y1 then true else y2)) (ZA ((⟨x.token,x.list⟩:ze),24)) (default:Bool)) fun y3=>
 zb (zo (!(bif bif y1 then true else y2 then true else y3)) (zt x.list) (default:Bool)) fun y4=>
 some (bif bif bif y1 then true else y2 then true else y3 then true else y4)
def ZN(zt:List ze->Option Bool)(x:List ze):Option Int:=
 zX (fun(s1:Int)=>
   bif decide (s1<(x.length:Int))then
    zb (geti x s1) fun y2=>
    zb (Qe zt (⟨y2.token,y2.list⟩:ze)) fun y3=>
    bif y3 then
     some (LO.ret s1)
    else
     some (LO.again (w64 (s1+1)))
   else
    some (LO.out ()):Int->Option (LO (Int) (Unit) _)) 0 fun o4=>
 some (-1)
def Zq(zt:List ze->Option Bool)(x:List ze):Option Bool:=
 zb (ZN zt x) fun y1=>
 some (decide (y1>=0))
def Oq(zt:List ze->Option Bool)(x:List ze):Option Bool:=
 zb (Zq zt x) fun y1=>
 some y1
def zt:List ze->Option Bool:=recE (Oq)
def Hl(x:ze):Option Bool:=
 zb (ZA ((⟨x.token,x.list⟩:ze),9)) fun y1=>
 some (bif y1 then x.token.text==[33]else false)
def gp(x:ze):Option Bool:=
 zb (ZA ((⟨x.token,x.list⟩:ze),17)) fun y1=>
 zb (zo (!y1) (Hl (⟨x.token,x.list⟩:ze)) (default:Bool)) fun y2=>
 some (bif y1 then true else y2)
def Zx(x:List ze):Option Int:=
 zX (fun(s1:Int)=>
   bif decide (s1<(x.length:Int))then
    zb (geti x s1) fun y2=>
    zb (gp (⟨y2.token,y2.list⟩:ze)) fun y3=>
    bif y3 then
     some (LO.ret s1)
    else
     some (LO.again (w64 (s1+1)))
   else
    some (LO.out ()):Int->Option (LO (Int) (Unit) _)) 0 fun o4=>
 some (-1)
def Zc(x:List ze):Option Bool:=
 zb (Zx x) fun y1=>
 some (decide (y1>=0))
def QE(x:zA):Option Int:=
 zb (Bl x.value) fun y1=>
 zb (Rl x.name) fun y2=>
 zb (zo (!(bif !y2 then true else y1.2 != 0)) (QF y1.1) (default:Int)) fun y3=>
 zb (zo (!(bif bif !y2 then true else y1.2 != 0 then true else y3 != 0)) (zt x.value) (default:Bool)) fun y4=>
 bif bif bif bif !y2 then true else y1.2 != 0 then true else y3 != 0 then true else y4 then
  some 8
 else
  zb (Zc x.value) fun y5=>
  bif y5 then
   some 8
  else
   zb (zo ((x.value.length:Int)==0) (strings_HasPrefix (x.name,[45,45])) (default:Bool)) fun y6=>
   zb (zo (decide ((x.value.length:Int)>0)&& !(bif (x.value.length:Int)==0 then !y6 else false)) (geti x.value 0) (default:ze)) fun y7=>
   zb (zo (decide ((x.value.length:Int)>0)&& !(bif (x.value.length:Int)==0 then !y6 else false)) (ZA ((⟨y7.token,y7.list⟩:ze),13)) (default:Bool)) fun y8=>
   zb (zo (!y8&&(decide ((x.value.length:Int)>0)&& !(bif (x.value.length:Int)==0 then !y6 else false))) (geti x.value (w64 ((x.value.length:Int) - 1))) (default:ze)) fun y9=>
   zb (zo (!y8&&(decide ((x.value.length:Int)>0)&& !(bif (x.value.length:Int)==0 then !y6 else false))) (ZA ((⟨y9.token,y9.list⟩:ze),13)) (default:Bool)) fun y10=>
   bif bif bif (x.value.length:Int)==0 then !y6 else false then true else bif decide ((x.value.length:Int)>0)then bif y8 then true else y10 else false then
    some 8
   else
    some 0
def ZX(x:zh):Option Bool:=
 some (bif bif bif bif x.name==[]then x.num==0 else false then x.decl.name==[]else false then(x.decl.value.length:Int)==0 else false then !x.decl.important else false)
def Vi(x:zh):Option Bool:=
 some (bif x.kind==7 then true else x.kind==8)
def Xj(Z6:zh×Int->Option ((Int×Bool)×Int))(x:zh×Int):Option ((Int×Bool)×Int):=
 bif decide (w64 (x.2+1)>1500)then
  some ((0,false),w64 (x.2+1))
 else
  bif x.1.kind==7 then
   zb (Ml x.1.decl.value) fun y1=>
   zb (zo (bif bif bif (x.1.list.length:Int)==0 then x.1.name==[]else false then x.1.num==0 else false then y1.2==0 else false) (QE x.1.decl) (default:Int)) fun y2=>
   some ((w64 (y1.1+1),bif bif bif bif (x.1.list.length:Int)==0 then x.1.name==[]else false then x.1.num==0 else false then y1.2==0 else false then y2==0 else false),w64 (x.2+1))
  else
   bif x.1.kind==8 then
    zb (zo ((x.1.list.length:Int)==0) (ZX (⟨x.1.kind,x.1.name,x.1.num,x.1.decl,x.1.list⟩:zh)) (default:Bool)) fun y3=>
    some ((1,bif (x.1.list.length:Int)==0 then y3 else false),w64 (x.2+1))
   else
    zD (X:=Bool) (
      bif x.1.kind==3 then
       some (LX.out (x.1.kind==3))
      else
       bif x.1.kind==1 then
        some (LX.out (x.1.kind==1))
       else
        some (LX.out (x.1.kind==2))) fun j4=>
    bif j4 then
     zb (ZX (⟨x.1.kind,x.1.name,x.1.num,x.1.decl,x.1.list⟩:zh)) fun y5=>
     bif bif bif !y5 then true else bif x.1.kind==3 then(x.1.list.length:Int) != 1 else false then true else bif x.1.kind != 3 then decide ((x.1.list.length:Int)<2)else false then
      some ((0,false),w64 (x.2+1))
     else
      zX (fun(s6:(Int×Int)×Int)=>
        bif decide (s6.1.2<(x.1.list.length:Int))then
         zb (geti x.1.list s6.1.2) fun y7=>
         zb (Z6 ((⟨y7.kind,y7.name,y7.num,y7.decl,y7.list⟩:zh),s6.2)) fun y8=>
         bif !y8.1.2 then
          some (LO.ret ((0,false),y8.2))
         else
          zD (X:=Int×Int) (
            zb (Vi (⟨y7.kind,y7.name,y7.num,y7.decl,y7.list⟩:zh)) fun y9=>
            bif !y9 then
             some (LX.out (s6.1.1,w64 (y8.1.1+1)))
            else
             some (LX.out (s6.1.1,y8.1.1))) fun j10=>
          some (LO.again ((if j10.2>j10.1 then j10.2 else j10.1,w64 (s6.1.2+1)),y8.2))
        else
         some (LO.out (s6.1.1,s6.2)):(Int×Int)×Int->Option (LO ((Int×Int)×Int) (Int×Int) _)) ((0,0),w64 (x.2+1)) fun o11=>
      some ((o11.1,true),o11.2)
    else
     some ((0,false),w64 (x.2+1))
def Z6:zh×Int->Option ((Int×Bool)×Int):=recE (Xj)
def Ze(x:zh):Option Int:=
 zb (Z6 ((⟨x.kind,x.name,x.num,x.decl,x.list⟩:zh),0)) fun y1=>
 bif bif !y1.1.2 then true else decide (y1.1.1>16)then
  some 8
 else
  some 0
def Uj(x:Int×List ze):Option Bool:=
 zb (geti x.2 x.1) fun y1=>
 some (y1.token.kind==13)
def qP(x:List ze):Option (List ze):=
 bif x.isEmpty then
  both (
    some []) (
    need (zR 0 x.length 80)<|
    some x)
 else
  need (zR 0 x.length 80)<|
  some x
def Dp(Z8:List ze->Option (List ze))(x:List ze):Option (List ze):=
 zb (qP x) fun y1=>
 zX (fun(s2:Int×List ze)=>
   bif decide (s2.1<(y1.length:Int))then
    need (decide (0<=s2.1)&&decide (s2.1<(s2.2.length:Int)))<|
    zb s2.2[s2.1.toNat]? fun y3=>
    zb (Z8 y3.list) fun y4=>
    need (decide (0<=s2.1)&&decide (s2.1<(s2.2.length:Int)))<|
    zb s2.2[s2.1.toNat]? fun y5=>
    some (LO.again (w64 (s2.1+1),List.set s2.2 s2.1.toNat (⟨y5.token,y4⟩:ze)))
   else
    some (LO.out s2.2):Int×List ze->Option (LO (Int×List ze) (List ze) _)) (0,y1) fun o6=>
 some o6
def Z8:List ze->Option (List ze):=recE (Dp)
def og(x:List ze):Option (List ze×Int):=
 zb (ZF x) fun y1=>
 bif y1 != 0 then
  some ([],y1)
 else
  zX (fun(s2:Int)=>
    zb (zo (decide (s2<(x.length:Int))) (Uj (s2,x)) (default:Bool)) fun y3=>
    bif bif decide (s2<(x.length:Int))then y3 else false then
     some (LO.again (w64 (s2+1)))
    else
     some (LO.out s2):Int->Option (LO (Int) (Int) _)) 0 fun o4=>
  zX (fun(s5:Int)=>
    zb (zo (decide (o4<s5)) (Uj (w64 (s5 - 1),x)) (default:Bool)) fun y6=>
    bif bif decide (o4<s5)then y6 else false then
     some (LO.again (w64 (s5 - 1)))
    else
     some (LO.out s5):Int->Option (LO (Int) (Int) _)) (x.length:Int) fun o7=>
  need (decide (0<=o4)&&(decide (o4<=o7)&&(decide (o7<=o7)&&decide (o7<=(x.length:Int))))&&decide (o7=o7))<|
  zb (Z8 (List.drop o4.toNat (List.take o7.toNat x))) fun y8=>
  some (y8,0)
def Bq(Zw:zh->Option (List zA))(x:zh):Option (List zA):=
 bif x.kind==7 then
  zb (og x.decl.value) fun y1=>
  some [(⟨x.decl.name,y1.1,x.decl.important⟩:zA)]
 else
  zX (fun(s2:Int×List zA)=>
    bif decide (s2.1<(x.list.length:Int))then
     zb (geti x.list s2.1) fun y3=>
     zb (Zw (⟨y3.kind,y3.name,y3.num,y3.decl,y3.list⟩:zh)) fun y4=>
     need (zR s2.2.length y4.length 48)<|
     some (LO.again (w64 (s2.1+1),s2.2++y4))
    else
     some (LO.out s2.2):Int×List zA->Option (LO (Int×List zA) (List zA) _)) (0,[]) fun o5=>
  some o5
def Zw:zh->Option (List zA):=recE (Bq)
def dh(x:zh):Option (List zA×Int):=
 zb (Ze (⟨x.kind,x.name,x.num,x.decl,x.list⟩:zh)) fun y1=>
 bif y1 != 0 then
  some ([],y1)
 else
  zb (Zw (⟨x.kind,x.name,x.num,x.decl,x.list⟩:zh)) fun y2=>
  some (y2,0)
def Cz(Ai:zh->Option Int)(x:zh):Option Int:=
 bif x.kind==7 then
  zb (qO x.decl.value) fun y1=>
  some (w64 (1+y1))
 else
  bif x.kind==8 then
   some 1
  else
   zX (fun(s2:Int×Int)=>
     bif decide (s2.2<(x.list.length:Int))then
      zb (geti x.list s2.2) fun y3=>
      zD (X:=Int×Int) (
        bif bif y3.kind==7 then true else y3.kind==8 then
         some (LX.out (s2.1,0))
        else
         some (LX.out (s2.1,1))) fun j4=>
      zb (geti x.list s2.2) fun y5=>
      zb (Ai (⟨y5.kind,y5.name,y5.num,y5.decl,y5.list⟩:zh)) fun y6=>
      some (LO.again (if w64 (j4.2+y6)>j4.1 then w64 (j4.2+y6)else j4.1,w64 (s2.2+1)))
     else
      some (LO.out s2.1):Int×Int->Option (LO (Int×Int) (Int) _)) (0,0) fun o7=>
   some o7
def Ai:zh->Option Int:=recE (Cz)
def Q5(x:Int):Option Int:=
 bif bif decide (x>=65)then decide (x<=90)else false then
  some (wu8 (wu8 (x - 65)+97))
 else
  some x
def Qs(x:Str):Option Str:=
 need (decide (x.length<=maxLen))<|
 zX (fun(s1:Int×List UInt8)=>
   bif decide (s1.1<(s1.2.length:Int))then
    need (decide (0<=s1.1)&&decide (s1.1<(s1.2.length:Int)))<|
    zb s1.2[s1.1.toNat]? fun y2=>
    zb (Q5 (y2.toNat:Int)) fun y3=>
    need (decide (0<=s1.1)&&decide (s1.1<(s1.2.length:Int)))<|
    zb s1.2[s1.1.toNat]? fun y4=>
    zb (ZQ y3) fun y5=>
    some (LO.again (w64 (s1.1+1),List.set s1.2 s1.1.toNat y5))
   else
    some (LO.out s1.2):Int×List UInt8->Option (LO (Int×List UInt8) (List UInt8) _)) (0,x) fun o6=>
 some o6
def Du(x:Str):Option Bool:=
 bif bif decide ((x.length:Int)<1)then true else decide ((x.length:Int)>64)then
  some false
 else
  zX (fun(s1:Int)=>
    bif decide (s1<(x.length:Int))then
     zb (geti x s1) fun y2=>
     bif (y2.toNat:Int)==0 then
      some (LO.ret false)
     else
      some (LO.again (w64 (s1+1)))
    else
     some (LO.out ()):Int->Option (LO (Int) (Unit) _)) 0 fun o3=>
  need (decide (2<=(x.length:Int))|| !(decide ((x.length:Int)>=2)))<|
  bif bif decide ((x.length:Int)>=2)then List.take 2 x==[45,45]else false then
   some (decide ((x.length:Int)>2))
  else
   zb (Qs x) fun y4=>
   some (x==y4)
def xz(ql:List ze->Option (List zf))(x:List ze):Option (List zf):=
 zX (fun(s1:Int×List zf)=>
   bif decide (s1.1<(x.length:Int))then
    zD (X:=Int×List zf) (
      zb (geti x s1.1) fun y2=>
      need (zR s1.2.length 1 56)<|
      zb (geti x s1.1) fun y3=>
      zb (QT y3.token.kind) fun y4=>
      bif y4 != 0 then
       zb (geti x s1.1) fun y5=>
       zb (ql y5.list) fun y6=>
       need (zR (s1.2++[y2.token]).length y6.length 56)<|
       need (zR (s1.2++[y2.token]++y6).length 1 56)<|
       some (LX.out (s1.1,s1.2++[y2.token]++y6++[(⟨y4,[],0,[],false⟩:zf)]))
      else
       some (LX.out (s1.1,s1.2++[y2.token]))) fun j7=>
    some (LO.again (w64 (j7.1+1),j7.2))
   else
    some (LO.out s1.2):Int×List zf->Option (LO (Int×List zf) (List zf) _)) (0,[]) fun o8=>
 some o8
def ql:List ze->Option (List zf):=recE (xz)
def wz(Qg:List ze×Int->Option Bool)(x:List ze×Int):Option Bool:=
 zX (fun(s1:Int)=>
   bif decide (s1<(x.1.length:Int))then
    zb (geti x.1 s1) fun y2=>
    zb (QT y2.token.kind) fun y3=>
    zb (zo (y3==0) (geti x.1 s1) (default:ze)) fun y4=>
    zb (zo (x.2 != 0&& !(bif y3==0 then decide ((y4.list.length:Int)>0)else false)) (geti x.1 s1) (default:ze)) fun y5=>
    zb (zo (y3 != 0&& !(bif bif y3==0 then decide ((y4.list.length:Int)>0)else false then true else bif x.2 != 0 then y5.token.kind==x.2 else false)) (geti x.1 s1) (default:ze)) fun y6=>
    zb (zo (y3 != 0&& !(bif bif y3==0 then decide ((y4.list.length:Int)>0)else false then true else bif x.2 != 0 then y5.token.kind==x.2 else false)) (Qg (y6.list,y3)) (default:Bool)) fun y7=>
    bif bif bif bif y3==0 then decide ((y4.list.length:Int)>0)else false then true else bif x.2 != 0 then y5.token.kind==x.2 else false then true else bif y3 != 0 then !y7 else false then
     some (LO.ret false)
    else
     some (LO.again (w64 (s1+1)))
   else
    some (LO.out ()):Int->Option (LO (Int) (Unit) _)) 0 fun o8=>
 some true
def Qg:List ze×Int->Option Bool:=recE (wz)
def Fu(x:List ze):Option Int:=
 zb (qO x) fun y1=>
 bif decide (y1>16)then
  some 20
 else
  zb (ql x) fun y2=>
  bif decide ((y2.length:Int)>1500)then
   some 4
  else
   zb (Qg (x,0)) fun y3=>
   bif !y3 then
    some 8
   else
    some 0
def Tj(x:Str):Option Bool:=
 zX (fun(s1:Int)=>
   bif decide (s1<(x.length:Int))then
    zb (geti x s1) fun y2=>
    bif (y2.toNat:Int)==0 then
     some (LO.ret false)
    else
     some (LO.again (w64 (s1+1)))
   else
    some (LO.out ()):Int->Option (LO (Int) (Unit) _)) 0 fun o3=>
 some true
def zZ(x:Int):Option Bool:=
 some (bif decide (x>=48)then decide (x<=57)else false)
def Xt(x:Str):Option Bool:=
 bif x==[]then
  some false
 else
  zb (geti x 0) fun y1=>
  zb (zZ (y1.toNat:Int)) fun y2=>
  zb (zo (!(bif y2 then true else x==[45])) (geti x 0) 0) fun y3=>
  zb (zo ((y3.toNat:Int)==45&& !(bif y2 then true else x==[45])) (geti x 1) 0) fun y4=>
  zb (zo ((y3.toNat:Int)==45&& !(bif y2 then true else x==[45])) (zZ (y4.toNat:Int)) (default:Bool)) fun y5=>
  some (bif bif y2 then true else x==[45]then true else bif (y3.toNat:Int)==45 then y5 else false)
def qy(x:Int):Option Bool:=
 some (bif bif x==10 then true else x==9 then true else x==32)
def zT(x:Str×Int):Option Int:=
 bif decide (x.2<(x.1.length:Int))then
  zb (geti x.1 x.2) fun y1=>
  some (y1.toNat:Int)
 else
  some 0
def Qf(x:Str×Int):Option Int:=
 zX (fun(s1:Int)=>
   zb (zT (x.1,s1)) fun y2=>
   zb (qy y2) fun y3=>
   bif y3 then
    some (LO.again (w64 (s1+1)))
   else
    some (LO.out s1):Int->Option (LO (Int) (Int) _)) x.2 fun o4=>
 some o4
def uo(x:Unit):Option Str:=
 some [(239:UInt8),(191:UInt8),(189:UInt8)]
def Nj(x:Int):Option Int:=
 zb (zZ x) fun y1=>
 bif y1 then
  some (w64 (wu8 (x - 48)))
 else
  zb (Q5 x) fun y2=>
  bif bif decide (y2>=97)then decide (y2<=102)else false then
   some (w64 (w64 (wu8 (y2 - 97))+10))
  else
   some (-1)
def Wy(x:Int):Option Str:=
 bif bif bif x==0 then true else bif decide (x>=55296)then decide (x<=57343)else false then true else decide (x>1114111)then
  zb (uo ()) fun y1=>
  some y1
 else
  bif decide (x<128)then
   zb (ZQ (wu8 x)) fun y2=>
   some [y2]
  else
   bif decide (x<2048)then
    zb (ZQ (wu8 (w64 (192+w64 (Int.tdiv x 64))))) fun y3=>
    zb (ZQ (wu8 (w64 (128+Int.tmod x 64)))) fun y4=>
    some [y3,y4]
   else
    bif decide (x<65536)then
     zb (ZQ (wu8 (w64 (224+w64 (Int.tdiv x 4096))))) fun y5=>
     zb (ZQ (wu8 (w64 (128+Int.tmod (w64 (Int.tdiv x 64)) 64)))) fun y6=>
     zb (ZQ (wu8 (w64 (128+Int.tmod x 64)))) fun y7=>
     some [y5,y6,y7]
    else
     zb (ZQ (wu8 (w64 (240+w64 (Int.tdiv x 262144))))) fun y8=>
     zb (ZQ (wu8 (w64 (128+Int.tmod (w64 (Int.tdiv x 4096)) 64)))) fun y9=>
     zb (ZQ (wu8 (w64 (128+Int.tmod (w64 (Int.tdiv x 64)) 64)))) fun y10=>
     zb (ZQ (wu8 (w64 (128+Int.tmod x 64)))) fun y11=>
     some [y8,y9,y10,y11]
def qa(x:Str×Int):Option (Str×Int):=
 bif decide (w64 (x.2+1)>=(x.1.length:Int))then
  zb (uo ()) fun y1=>
  some (y1,w64 (x.2+1))
 else
  zb (geti x.1 (w64 (x.2+1))) fun y2=>
  zb (Nj (y2.toNat:Int)) fun y3=>
  bif decide (y3<0)then
   need (decide (0<=w64 (x.2+1))&&(decide (w64 (x.2+1)<=w64 (w64 (x.2+1)+1))&&decide (w64 (w64 (x.2+1)+1)<=(x.1.length:Int))))<|
   some (List.drop (w64 (x.2+1)).toNat (List.take (w64 (w64 (x.2+1)+1)).toNat x.1),w64 (w64 (x.2+1)+1))
  else
   zX (fun(s4:Int×Int)=>
     zb (zo (bif decide (s4.2<(x.1.length:Int))then decide (s4.2<w64 (w64 (x.2+1)+6))else false) (geti x.1 s4.2) 0) fun y5=>
     zb (zo (bif decide (s4.2<(x.1.length:Int))then decide (s4.2<w64 (w64 (x.2+1)+6))else false) (Nj (y5.toNat:Int)) (default:Int)) fun y6=>
     bif bif bif decide (s4.2<(x.1.length:Int))then decide (s4.2<w64 (w64 (x.2+1)+6))else false then decide (y6>=0)else false then
      zb (geti x.1 s4.2) fun y7=>
      zb (Nj (y7.toNat:Int)) fun y8=>
      some (LO.again (w64 (w64 (16*s4.1)+y8),w64 (s4.2+1)))
     else
      some (LO.out (s4.1,s4.2)):Int×Int->Option (LO (Int×Int) (Int×Int) _)) (0,w64 (x.2+1)) fun o9=>
   zD (X:=Int) (
     zb (zT (x.1,o9.2)) fun y10=>
     zb (qy y10) fun y11=>
     bif y11 then
      some (LX.out (w64 (o9.2+1)))
     else
      some (LX.out o9.2)) fun j12=>
   zb (Wy o9.1) fun y13=>
   some (y13,j12)
def ku(x:Str×Int):Option (zf×Int):=
 zb (geti x.1 x.2) fun y1=>
 zX (fun(s2:Int×zf×zf)=>
   bif decide (s2.1<(x.1.length:Int))then
    zb (geti x.1 s2.1) fun y3=>
    bif (y3.toNat:Int)==(y1.toNat:Int)then
     some (LO.ret (s2.2.2,w64 (s2.1+1)))
    else
     zb (geti x.1 s2.1) fun y4=>
     bif (y4.toNat:Int)==10 then
      some (LO.ret ((⟨6,[],0,[],false⟩:zf),s2.1))
     else
      zb (geti x.1 s2.1) fun y5=>
      bif bif (y5.toNat:Int)==92 then w64 (s2.1+1)==(x.1.length:Int)else false then
       some (LO.again (w64 (s2.1+1),s2.2.1,s2.2.2))
      else
       zb (geti x.1 s2.1) fun y6=>
       zb (zo ((y6.toNat:Int)==92) (geti x.1 (w64 (s2.1+1))) 0) fun y7=>
       bif bif (y6.toNat:Int)==92 then(y7.toNat:Int)==10 else false then
        some (LO.again (w64 (s2.1+2),s2.2.1,s2.2.2))
       else
        zb (geti x.1 s2.1) fun y8=>
        bif (y8.toNat:Int)==92 then
         zb (qa (x.1,s2.1)) fun y9=>
         need (qZ s2.2.2.text.length y9.1.length)<|
         some (LO.again (y9.2,s2.2.1,(⟨s2.2.2.kind,s2.2.2.text++y9.1,s2.2.2.num,s2.2.2.unit,s2.2.2.flag⟩:zf)))
        else
         need (decide (0<=s2.1)&&(decide (s2.1<=w64 (s2.1+1))&&decide (w64 (s2.1+1)<=(x.1.length:Int))))<|
         need (qZ s2.2.2.text.length (List.drop s2.1.toNat (List.take (w64 (s2.1+1)).toNat x.1)).length)<|
         some (LO.again (w64 (s2.1+1),s2.2.1,(⟨s2.2.2.kind,s2.2.2.text++List.drop s2.1.toNat (List.take (w64 (s2.1+1)).toNat x.1),s2.2.2.num,s2.2.2.unit,s2.2.2.flag⟩:zf)))
   else
    some (LO.out (s2.1,s2.2.1,s2.2.2)):Int×zf×zf->Option (LO (Int×zf×zf) (Int×zf×zf) _)) (w64 (x.2+1),(⟨0,[],0,[],false⟩:zf),(⟨5,[],0,[],false⟩:zf)) fun o10=>
 some (o10.2.2,o10.1)
def Yp(x:Int):Option Bool:=
 zb (Q5 x) fun y1=>
 some (bif bif bif decide (y1>=97)then decide (y1<=122)else false then true else x==95 then true else decide (x>=128))
def il(x:Int):Option Bool:=
 zb (Yp x) fun y1=>
 zb (zo (!y1) (zZ x) (default:Bool)) fun y2=>
 some (bif bif y1 then true else y2 then true else x==45)
def Zt(x:Str×Int):Option Bool:=
 zb (zT (x.1,x.2)) fun y1=>
 zb (zo (y1==92) (zT (x.1,w64 (x.2+1))) (default:Int)) fun y2=>
 some (bif y1==92 then y2 != 10 else false)
def Q6(x:Str×Int):Option (Str×Int):=
 zX (fun(s1:Int×Str)=>
   zb (zo (decide (s1.1<(x.1.length:Int))) (geti x.1 s1.1) 0) fun y2=>
   zb (zo (decide (s1.1<(x.1.length:Int))) (il (y2.toNat:Int)) (default:Bool)) fun y3=>
   bif bif decide (s1.1<(x.1.length:Int))then y3 else false then
    need (decide (0<=s1.1)&&(decide (s1.1<=w64 (s1.1+1))&&decide (w64 (s1.1+1)<=(x.1.length:Int))))<|
    need (qZ s1.2.length (List.drop s1.1.toNat (List.take (w64 (s1.1+1)).toNat x.1)).length)<|
    some (LO.again (w64 (s1.1+1),s1.2++List.drop s1.1.toNat (List.take (w64 (s1.1+1)).toNat x.1)))
   else
    zb (zo (decide (s1.1<(x.1.length:Int))) (Zt (x.1,s1.1)) (default:Bool)) fun y4=>
    bif bif decide (s1.1<(x.1.length:Int))then y4 else false then
     zb (qa (x.1,s1.1)) fun y5=>
     need (qZ s1.2.length y5.1.length)<|
     some (LO.again (y5.2,s1.2++y5.1))
    else
     some (LO.ret (s1.2,s1.1)):Int×Str->Option (LO (Int×Str) (Unit) _)) (x.2,[]) fun o6=>
 none
def qG(x:Str×Int):Option Bool:=
 zb (zT (x.1,x.2)) fun y1=>
 bif y1==45 then
  zb (zT (x.1,w64 (x.2+1))) fun y2=>
  zb (Yp y2) fun y3=>
  zb (zo (!y3) (zT (x.1,w64 (x.2+1))) (default:Int)) fun y4=>
  zb (zo (!(bif y3 then true else y4==45)) (Zt (x.1,w64 (x.2+1))) (default:Bool)) fun y5=>
  some (bif bif y3 then true else y4==45 then true else y5)
 else
  zb (zT (x.1,x.2)) fun y6=>
  zb (Yp y6) fun y7=>
  zb (zo (!y7) (Zt (x.1,x.2)) (default:Bool)) fun y8=>
  some (bif y7 then true else y8)
def yz(x:Str×Int):Option Bool:=
 zD (X:=Int) (
   zb (zT (x.1,x.2)) fun y1=>
   bif bif y1==43 then true else y1==45 then
    some (LX.out (w64 (x.2+1)))
   else
    some (LX.out x.2)) fun j2=>
 zD (X:=Int) (
   zb (zT (x.1,j2)) fun y3=>
   bif y3==46 then
    some (LX.out (w64 (j2+1)))
   else
    some (LX.out j2)) fun j4=>
 zb (zT (x.1,j4)) fun y5=>
 zb (zZ y5) fun y6=>
 some y6
def Yl(x:Str×Int):Option Int:=
 zX (fun(s1:Int)=>
   zb (zT (x.1,s1)) fun y2=>
   zb (zZ y2) fun y3=>
   bif y3 then
    some (LO.again (w64 (s1+1)))
   else
    some (LO.out s1):Int->Option (LO (Int) (Int) _)) x.2 fun o4=>
 some o4
def Bv(x:Str×Int):Option (Int×Bool):=
 zD (X:=Int) (
   zb (zT (x.1,x.2)) fun y1=>
   bif bif y1==43 then true else y1==45 then
    some (LX.out (w64 (x.2+1)))
   else
    some (LX.out x.2)) fun j2=>
 zb (Yl (x.1,j2)) fun y3=>
 zD (X:=Int×Bool) (
   zb (zT (x.1,y3)) fun y4=>
   zb (zo (y4==46) (zT (x.1,w64 (y3+1))) (default:Int)) fun y5=>
   zb (zo (y4==46) (zZ y5) (default:Bool)) fun y6=>
   bif bif y4==46 then y6 else false then
    zb (Yl (x.1,w64 (y3+1))) fun y7=>
    some (LX.out (y7,false))
   else
    some (LX.out (y3,true))) fun j8=>
 zD (X:=Int×Bool) (
   zb (zT (x.1,j8.1)) fun y9=>
   bif bif y9==101 then true else y9==69 then
    zD (X:=Int×Bool×Int) (
      zb (zT (x.1,w64 (j8.1+1))) fun y10=>
      bif bif y10==43 then true else y10==45 then
       some (LX.out (j8.1,j8.2,w64 (w64 (j8.1+1)+1)))
      else
       some (LX.out (j8.1,j8.2,w64 (j8.1+1)))) fun j11=>
    zb (zT (x.1,j11.2.2)) fun y12=>
    zb (zZ y12) fun y13=>
    bif y13 then
     zb (Yl (x.1,j11.2.2)) fun y14=>
     some (LX.out (y14,false))
    else
     some (LX.out (j11.1,j11.2.1))
   else
    some (LX.out (j8.1,j8.2))) fun j15=>
 some (j15.1,j15.2)
def Pv(x:Str):Option Int:=
 zb (geti x 0) fun y1=>
 zD (X:=Str×Int×Int) (
   zb (geti x 0) fun y2=>
   bif bif (y2.toNat:Int)==43 then true else(y1.toNat:Int)==45 then
    some (LX.out ([],3,1))
   else
    some (LX.out ([],3,0))) fun j3=>
 zX (fun(s4:Str×Int)=>
   zb (zT (x,s4.2)) fun y5=>
   zb (zZ y5) fun y6=>
   bif y6 then
    need (decide (0<=s4.2)&&(decide (s4.2<=w64 (s4.2+1))&&decide (w64 (s4.2+1)<=(x.length:Int))))<|
    need (qZ s4.1.length (List.drop s4.2.toNat (List.take (w64 (s4.2+1)).toNat x)).length)<|
    some (LO.again (s4.1++List.drop s4.2.toNat (List.take (w64 (s4.2+1)).toNat x),w64 (s4.2+1)))
   else
    some (LO.out (s4.1,s4.2)):Str×Int->Option (LO (Str×Int) (Str×Int) _)) (j3.1,j3.2.2) fun o7=>
 zD (X:=Str×Int×Int) (
   zb (zT (x,o7.2)) fun y8=>
   bif y8==46 then
    zX (fun(s9:Str×Int×Int)=>
      zb (zT (x,s9.2.2)) fun y10=>
      zb (zZ y10) fun y11=>
      bif y11 then
       need (decide (0<=s9.2.2)&&(decide (s9.2.2<=w64 (s9.2.2+1))&&decide (w64 (s9.2.2+1)<=(x.length:Int))))<|
       need (qZ s9.1.length (List.drop s9.2.2.toNat (List.take (w64 (s9.2.2+1)).toNat x)).length)<|
       some (LO.again (s9.1++List.drop s9.2.2.toNat (List.take (w64 (s9.2.2+1)).toNat x),w64 (s9.2.1 - 1),w64 (s9.2.2+1)))
      else
       some (LO.out (s9.1,s9.2.1,s9.2.2)):Str×Int×Int->Option (LO (Str×Int×Int) (Str×Int×Int) _)) (o7.1,j3.2.1,w64 (o7.2+1)) fun o12=>
    some (LX.out (o12.1,o12.2.1,o12.2.2))
   else
    some (LX.out (o7.1,j3.2.1,o7.2))) fun j13=>
 zD (X:=Int) (
   bif decide (j13.2.2<(x.length:Int))then
    zb (geti x (w64 (j13.2.2+1))) fun y14=>
    zD (X:=Int×Int) (
      zb (geti x (w64 (j13.2.2+1))) fun y15=>
      bif bif (y15.toNat:Int)==43 then true else(y14.toNat:Int)==45 then
       some (LX.out (j13.2.1,w64 (w64 (j13.2.2+1)+1)))
      else
       some (LX.out (j13.2.1,w64 (j13.2.2+1)))) fun j16=>
    zX (fun(s17:Int×Int)=>
      bif decide (s17.1<(x.length:Int))then
       zb (geti x s17.1) fun y18=>
       some (LO.again (w64 (s17.1+1),if w64 (w64 (10*s17.2)+w64 (wu8 ((y18.toNat:Int) - 48)))<10000 then w64 (w64 (10*s17.2)+w64 (wu8 ((y18.toNat:Int) - 48)))else 10000))
      else
       some (LO.out s17.2):Int×Int->Option (LO (Int×Int) (Int) _)) (j16.2,0) fun o19=>
    zD (X:=Int×Int) (
      bif (y14.toNat:Int)==45 then
       some (LX.out (j16.1,w64 (0 - o19)))
      else
       some (LX.out (j16.1,o19))) fun j20=>
    some (LX.out (w64 (j20.1+j20.2)))
   else
    some (LX.out j13.2.1)) fun j21=>
 zX (fun(s22:Int×Int)=>
   bif bif decide (s22.2<w64 ((j13.1.length:Int)+j21))then decide (s22.2<(j13.1.length:Int))else false then
    zb (geti j13.1 s22.2) fun y23=>
    some (LO.again (if w64 (w64 (10*s22.1)+w64 (wu8 ((y23.toNat:Int) - 48)))<1000000000000 then w64 (w64 (10*s22.1)+w64 (wu8 ((y23.toNat:Int) - 48)))else 1000000000000,w64 (s22.2+1)))
   else
    some (LO.out s22.1):Int×Int->Option (LO (Int×Int) (Int) _)) (0,0) fun o24=>
 zX (fun(s25:Int×Int)=>
   bif bif bif decide (s25.1>0)then decide (s25.2>0)else false then decide (s25.2<1000000000000)else false then
    some (LO.again (w64 (s25.1 - 1),if w64 (10*s25.2)<1000000000000 then w64 (10*s25.2)else 1000000000000))
   else
    some (LO.out s25.2):Int×Int->Option (LO (Int×Int) (Int) _)) (j21,o24) fun o26=>
 bif (y1.toNat:Int)==45 then
  some (w64 (0 - o26))
 else
  some o26
def Av(x:Str×Int):Option (zf×Int):=
 zb (Bv (x.1,x.2)) fun y1=>
 need (decide (0<=x.2)&&(decide (x.2<=y1.1)&&decide (y1.1<=(x.1.length:Int))))<|
 zb (Pv (List.drop x.2.toNat (List.take y1.1.toNat x.1))) fun y2=>
 zD (X:=Int×zf×zf) (
   zb (qG (x.1,y1.1)) fun y3=>
   bif y3 then
    zb (Q6 (x.1,y1.1)) fun y4=>
    some (LX.out (y4.2,(⟨0,[],0,[],false⟩:zf),(⟨12,[],y2,y4.1,y1.2⟩:zf)))
   else
    zb (zT (x.1,y1.1)) fun y5=>
    bif y5==37 then
     some (LX.out (w64 (y1.1+1),(⟨0,[],0,[],false⟩:zf),(⟨11,[],y2,[],false⟩:zf)))
    else
     some (LX.out (y1.1,(⟨0,[],0,[],false⟩:zf),(⟨10,[],y2,[],y1.2⟩:zf)))) fun j6=>
 some (j6.2.2,j6.1)
def Xo(x:Str×Int×Str):Option Bool:=
 need (decide (0<=x.2.1)&&(decide (x.2.1<=w64 (x.2.1+(x.2.2.length:Int)))&&decide (w64 (x.2.1+(x.2.2.length:Int))<=(x.1.length:Int)))|| !(decide (w64 ((x.1.length:Int) - x.2.1)>=(x.2.2.length:Int))))<|
 some (bif decide (w64 ((x.1.length:Int) - x.2.1)>=(x.2.2.length:Int))then List.drop x.2.1.toNat (List.take (w64 (x.2.1+(x.2.2.length:Int))).toNat x.1)==x.2.2 else false)
def Qr(x:Str×Str):Option Bool:=
 zb (Qs x.1) fun y1=>
 zb (Qs x.2) fun y2=>
 some (y1==y2)
def Yo(x:Str×Int):Option (zf×Int):=
 zX (fun(s1:Int)=>
   zb (zo (decide (s1<(x.1.length:Int))) (geti x.1 s1) 0) fun y2=>
   bif bif decide (s1<(x.1.length:Int))then(y2.toNat:Int) != 41 else false then
    zb (Zt (x.1,s1)) fun y3=>
    bif y3 then
     zb (qa (x.1,s1)) fun y4=>
     some (LO.again y4.2)
    else
     some (LO.again (w64 (s1+1)))
   else
    some (LO.out s1):Int->Option (LO (Int) (Int) _)) x.2 fun o5=>
 some ((⟨8,[],0,[],false⟩:zf),if w64 (o5+1)<(x.1.length:Int)then w64 (o5+1)else(x.1.length:Int))
def RA(x:Int):Option Bool:=
 some (bif bif bif decide (x<=8)then true else x==11 then true else bif decide (x>=14)then decide (x<=31)else false then true else x==127)
def Et(x:Str×Int):Option (zf×Int):=
 zb (Qf (x.1,x.2)) fun y1=>
 zX (fun(s2:Int×zf×zf)=>
   zb (zo (decide (s2.1<(x.1.length:Int))) (geti x.1 s2.1) 0) fun y3=>
   bif bif decide (s2.1<(x.1.length:Int))then(y3.toNat:Int) != 41 else false then
    zb (geti x.1 s2.1) fun y4=>
    zb (qy (y4.toNat:Int)) fun y5=>
    bif y5 then
     zb (Qf (x.1,s2.1)) fun y6=>
     zb (zo (decide (y6<(x.1.length:Int))) (geti x.1 y6) 0) fun y7=>
     bif bif decide (y6<(x.1.length:Int))then(y7.toNat:Int) != 41 else false then
      zb (Yo (x.1,y6)) fun y8=>
      some (LO.ret (y8.1,y8.2))
     else
      some (LO.again (y6,s2.2.1,s2.2.2))
    else
     zb (zo (!(bif bif (y4.toNat:Int)==34 then true else(y4.toNat:Int)==39 then true else(y4.toNat:Int)==40)) (RA (y4.toNat:Int)) (default:Bool)) fun y9=>
     zb (zo ((y4.toNat:Int)==92&& !(bif bif bif (y4.toNat:Int)==34 then true else(y4.toNat:Int)==39 then true else(y4.toNat:Int)==40 then true else y9)) (Zt (x.1,s2.1)) (default:Bool)) fun y10=>
     bif bif bif bif bif (y4.toNat:Int)==34 then true else(y4.toNat:Int)==39 then true else(y4.toNat:Int)==40 then true else y9 then true else bif (y4.toNat:Int)==92 then !y10 else false then
      zb (Yo (x.1,s2.1)) fun y11=>
      some (LO.ret (y11.1,y11.2))
     else
      bif (y4.toNat:Int)==92 then
       zb (qa (x.1,s2.1)) fun y12=>
       need (qZ s2.2.2.text.length y12.1.length)<|
       some (LO.again (y12.2,s2.2.1,(⟨s2.2.2.kind,s2.2.2.text++y12.1,s2.2.2.num,s2.2.2.unit,s2.2.2.flag⟩:zf)))
      else
       need (decide (0<=s2.1)&&(decide (s2.1<=w64 (s2.1+1))&&decide (w64 (s2.1+1)<=(x.1.length:Int))))<|
       need (qZ s2.2.2.text.length (List.drop s2.1.toNat (List.take (w64 (s2.1+1)).toNat x.1)).length)<|
       some (LO.again (w64 (s2.1+1),s2.2.1,(⟨s2.2.2.kind,s2.2.2.text++List.drop s2.1.toNat (List.take (w64 (s2.1+1)).toNat x.1),s2.2.2.num,s2.2.2.unit,s2.2.2.flag⟩:zf)))
   else
    some (LO.out (s2.1,s2.2.1,s2.2.2)):Int×zf×zf->Option (LO (Int×zf×zf) (Int×zf×zf) _)) (y1,(⟨0,[],0,[],false⟩:zf),(⟨7,[],0,[],false⟩:zf)) fun o13=>
 some (o13.2.2,if w64 (o13.1+1)<(x.1.length:Int)then w64 (o13.1+1)else(x.1.length:Int))
def Yt(x:Str×Int):Option (zf×Int):=
 zb (Q6 (x.1,x.2)) fun y1=>
 zb (zT (x.1,y1.2)) fun y2=>
 bif y2 != 40 then
  some ((⟨1,y1.1,0,[],false⟩:zf),y1.2)
 else
  zD (X:=zf) (
    zb (Qr (y1.1,[117,114,108])) fun y3=>
    bif y3 then
     zb (Qf (x.1,w64 (y1.2+1))) fun y4=>
     zb (zT (x.1,y4)) fun y5=>
     bif bif y5 != 34 then y5 != 39 else false then
      zb (Et (x.1,w64 (y1.2+1))) fun y6=>
      some (LX.ret (y6.1,y6.2))
     else
      some (LX.out (⟨0,[],0,[],false⟩:zf))
    else
     some (LX.out (⟨0,[],0,[],false⟩:zf))) fun j7=>
  some ((⟨2,y1.1,0,[],false⟩:zf),w64 (y1.2+1))
def oo(x:Int):Option Int:=
 bif x==58 then
  some 16
 else
  bif x==59 then
   some 17
  else
   bif x==44 then
    some 18
   else
    bif x==91 then
     some 19
    else
     bif x==93 then
      some 20
     else
      bif x==40 then
       some 21
      else
       bif x==41 then
        some 22
       else
        bif x==123 then
         some 23
        else
         bif x==125 then
          some 24
         else
          some 0
def Gt(x:Str×Int):Option (zf×Int):=
 zb (geti x.1 x.2) fun y1=>
 zb (qy (y1.toNat:Int)) fun y2=>
 bif y2 then
  zb (Qf (x.1,x.2)) fun y3=>
  some ((⟨13,[],0,[],false⟩:zf),y3)
 else
  bif bif (y1.toNat:Int)==34 then true else(y1.toNat:Int)==39 then
   zb (ku (x.1,x.2)) fun y4=>
   some (y4.1,y4.2)
  else
   zb (zo (decide (w64 (x.2+1)<(x.1.length:Int))&&(y1.toNat:Int)==35) (geti x.1 (w64 (x.2+1))) 0) fun y5=>
   zb (zo (decide (w64 (x.2+1)<(x.1.length:Int))&&(y1.toNat:Int)==35) (il (y5.toNat:Int)) (default:Bool)) fun y6=>
   zb (zo (!(bif decide (w64 (x.2+1)<(x.1.length:Int))then y6 else false)&&(y1.toNat:Int)==35) (Zt (x.1,w64 (x.2+1))) (default:Bool)) fun y7=>
   bif bif (y1.toNat:Int)==35 then bif bif decide (w64 (x.2+1)<(x.1.length:Int))then y6 else false then true else y7 else false then
    zb (Q6 (x.1,w64 (x.2+1))) fun y8=>
    zb (qG (x.1,w64 (x.2+1))) fun y9=>
    some ((⟨4,y8.1,0,[],y9⟩:zf),y8.2)
   else
    zb (yz (x.1,x.2)) fun y10=>
    bif y10 then
     zb (Av (x.1,x.2)) fun y11=>
     some (y11.1,y11.2)
    else
     zb (Xo (x.1,x.2,[45,45,62])) fun y12=>
     bif y12 then
      some ((⟨15,[],0,[],false⟩:zf),w64 (x.2+3))
     else
      zb (Xo (x.1,x.2,[60,33,45,45])) fun y13=>
      bif y13 then
       some ((⟨14,[],0,[],false⟩:zf),w64 (x.2+4))
      else
       zb (zo ((y1.toNat:Int)==64) (qG (x.1,w64 (x.2+1))) (default:Bool)) fun y14=>
       bif bif (y1.toNat:Int)==64 then y14 else false then
        zb (Q6 (x.1,w64 (x.2+1))) fun y15=>
        some ((⟨3,y15.1,0,[],false⟩:zf),y15.2)
       else
        zb (qG (x.1,x.2)) fun y16=>
        bif y16 then
         zb (Yt (x.1,x.2)) fun y17=>
         some (y17.1,y17.2)
        else
         zb (oo (y1.toNat:Int)) fun y18=>
         bif y18 != 0 then
          zb (oo (y1.toNat:Int)) fun y19=>
          some ((⟨y19,[],0,[],false⟩:zf),w64 (x.2+1))
         else
          need (decide (0<=x.2)&&(decide (x.2<=w64 (x.2+1))&&decide (w64 (x.2+1)<=(x.1.length:Int))))<|
          some ((⟨9,List.drop x.2.toNat (List.take (w64 (x.2+1)).toNat x.1),0,[],false⟩:zf),w64 (x.2+1))
def Qt(x:Int):Option Bool:=
 zb (ZQ x) fun y1=>
 zb (Gt ([y1,(10:UInt8)],0)) fun y2=>
 some (bif bif bif bif decide (x>=1)then decide (x<=127)else false then x != 12 else false then x != 13 else false then y2.1.kind==9 else false)
def Wt(x:zf):Option Bool:=
 zD (X:=Bool×zf) (
   bif x.kind==1 then
    some (LX.out (x.kind==1,x))
   else
    bif x.kind==2 then
     some (LX.out (x.kind==2,x))
    else
     some (LX.out (x.kind==3,x))) fun j1=>
 bif j1.1 then
  zb (zo (!(x.text==[])) (Tj x.text) (default:Bool)) fun y2=>
  some (bif bif !(x.text==[])then y2 else false then j1.2.kind==x.kind&&(([]:Str)==[]&&(j1.2.num==0&&(j1.2.unit==[]&&(j1.2.flag==false&&true))))else false)
 else
  bif x.kind==4 then
   zb (zo (!(x.text==[])) (Tj x.text) (default:Bool)) fun y3=>
   zb (zo (!x.flag&&(bif !(x.text==[])then y3 else false)) (Xt x.text) (default:Bool)) fun y4=>
   some (bif bif bif !(x.text==[])then y3 else false then bif x.flag then true else y4 else false then j1.2.kind==x.kind&&(([]:Str)==[]&&(j1.2.num==0&&(j1.2.unit==[]&&(false==false&&true))))else false)
  else
   zD (X:=Bool×zf) (
     bif x.kind==5 then
      some (LX.out (x.kind==5,j1.2))
     else
      some (LX.out (x.kind==7,j1.2))) fun j5=>
   bif j5.1 then
    zb (Tj x.text) fun y6=>
    some (bif y6 then j5.2.kind==x.kind&&(([]:Str)==[]&&(j5.2.num==0&&(j5.2.unit==[]&&(j5.2.flag==false&&true))))else false)
   else
    bif x.kind==9 then
     zb (zo ((x.text.length:Int)==1) (geti x.text 0) 0) fun y7=>
     zb (zo ((x.text.length:Int)==1) (Qt (y7.toNat:Int)) (default:Bool)) fun y8=>
     some (bif bif (x.text.length:Int)==1 then y8 else false then j5.2.kind==x.kind&&(([]:Str)==[]&&(j5.2.num==0&&(j5.2.unit==[]&&(j5.2.flag==false&&true))))else false)
    else
     zD (X:=Bool×zf) (
       bif x.kind==10 then
        some (LX.out (x.kind==10,j5.2))
       else
        bif x.kind==11 then
         some (LX.out (x.kind==11,j5.2))
        else
         some (LX.out (x.kind==12,j5.2))) fun j9=>
     bif j9.1 then
      zb (zo ((!(x.unit==[]))==(x.kind==12)) (Tj x.unit) (default:Bool)) fun y10=>
      some (bif bif bif bif bif decide (x.num>=(-1000000000000))then decide (x.num<=1000000000000)else false then bif !x.flag then true else Int.tmod x.num 1000==0 else false then bif (!(x.unit==[]))==(x.kind==12)then y10 else false else false then bif x.kind != 11 then true else !x.flag else false then j9.2.kind==x.kind&&(j9.2.text==[]&&(0==0&&(([]:Str)==[]&&(false==false&&true))))else false)
     else
      zD (X:=Bool) (
        bif x.kind==6 then
         some (LX.out (x.kind==6))
        else
         some (LX.out (x.kind==8))) fun j11=>
      bif j11 then
       some false
      else
       some (bif bif decide (x.kind>=1)then decide (x.kind<=24)else false then x.kind==x.kind&&(x.text==[]&&(x.num==0&&(x.unit==[]&&(x.flag==false&&true))))else false)
def Sl(x:List zf):Option Int:=
 bif decide ((x.length:Int)>1500)then
  some 4
 else
  zX (fun(s1:Int)=>
    bif decide (s1<(x.length:Int))then
     zb (geti x s1) fun y2=>
     zb (Wt y2) fun y3=>
     bif !y3 then
      some (LO.ret 8)
     else
      zD (X:=Unit) (
        zb (geti x s1) fun y4=>
        zb (zo (y4.kind==2) (geti x s1) (default:zf)) fun y5=>
        zb (zo (y4.kind==2) (Qr (y5.text,[117,114,108])) (default:Bool)) fun y6=>
        bif bif y4.kind==2 then y6 else false then
         zD (X:=Int) (
           zb (zo (decide (w64 (s1+1)<(x.length:Int))) (geti x (w64 (s1+1))) (default:zf)) fun y7=>
           bif bif decide (w64 (s1+1)<(x.length:Int))then y7.kind==13 else false then
            some (LX.out (w64 (w64 (s1+1)+1)))
           else
            some (LX.out (w64 (s1+1)))) fun j8=>
         zb (zo (!(decide (j8>=(x.length:Int)))) (geti x j8) (default:zf)) fun y9=>
         bif bif decide (j8>=(x.length:Int))then true else y9.kind != 5 then
          some (LX.ret (LO.ret 8))
         else
          some (LX.out ())
        else
         some (LX.out ())) fun j10=>
      zb (geti x s1) fun y11=>
      zb (zo (y11.kind==9) (geti x s1) (default:zf)) fun y12=>
      zb (zo (!(w64 (s1+1)==(x.length:Int))&&(bif y11.kind==9 then y12.text==[92]else false)) (geti x (w64 (s1+1))) (default:zf)) fun y13=>
      bif bif bif y11.kind==9 then y12.text==[92]else false then bif w64 (s1+1)==(x.length:Int)then true else y13.kind != 13 else false then
       some (LO.ret 8)
      else
       some (LO.again (w64 (s1+1)))
    else
     some (LO.out ()):Int->Option (LO (Int) (Unit) _)) 0 fun o14=>
  some 0
def NA(qE:List ze->Option Bool)(x:List ze):Option Bool:=
 zX (fun(s1:Int)=>
   bif decide (s1<(x.length:Int))then
    zb (geti x s1) fun y2=>
    zb (zo (!(bif bif y2.token.kind==20 then true else y2.token.kind==22 then true else y2.token.kind==24)) (geti x s1) (default:ze)) fun y3=>
    zb (zo (!(bif bif y2.token.kind==20 then true else y2.token.kind==22 then true else y2.token.kind==24)) (qE y3.list) (default:Bool)) fun y4=>
    bif bif bif bif y2.token.kind==20 then true else y2.token.kind==22 then true else y2.token.kind==24 then true else y4 then
     some (LO.ret true)
    else
     some (LO.again (w64 (s1+1)))
   else
    some (LO.out ()):Int->Option (LO (Int) (Unit) _)) 0 fun o5=>
 some false
def qE:List ze->Option Bool:=recE (NA)
def yu(x:List ze):Option (List ze):=
 zX (fun(s1:List ze)=>
   zb (zo (decide ((s1.length:Int)>0)) (geti s1 0) (default:ze)) fun y2=>
   bif bif decide ((s1.length:Int)>0)then y2.token.kind==13 else false then
    need (decide (1<=(s1.length:Int)))<|
    some (LO.again (List.drop 1 s1))
   else
    some (LO.out s1):List ze->Option (LO (List ze) (List ze) _)) x fun o3=>
 zX (fun(s4:List ze)=>
   zb (zo (decide ((s4.length:Int)>0)) (geti s4 (w64 ((s4.length:Int) - 1))) (default:ze)) fun y5=>
   bif bif decide ((s4.length:Int)>0)then y5.token.kind==13 else false then
    need (decide (0<=w64 ((s4.length:Int) - 1))&&decide (w64 ((s4.length:Int) - 1)<=(s4.length:Int)))<|
    some (LO.again (List.take (w64 ((s4.length:Int) - 1)).toNat s4))
   else
    some (LO.out s4):List ze->Option (LO (List ze) (List ze) _)) o3 fun o6=>
 some o6
def gu(x:Str):Option Bool:=
 need (decide (2<=(x.length:Int))|| !(decide ((x.length:Int)>2)))<|
 some (bif decide ((x.length:Int)>2)then List.take 2 x==[45,45]else false)
def fu(x:Str×List ze):Option Bool:=
 zb (Fu x.2) fun y1=>
 zb (zo (!(y1 != 0)) (ql x.2) (default:List zf)) fun y2=>
 zb (zo (!(y1 != 0)) (Sl y2) (default:Int)) fun y3=>
 zb (zo (!(bif y1 != 0 then true else y3 != 0)) (qE x.2) (default:Bool)) fun y4=>
 bif bif bif y1 != 0 then true else y3 != 0 then true else y4 then
  some false
 else
  zb (yu x.2) fun y5=>
  zb (zo ((x.2.length:Int)==0&& !((y5.length:Int) != (x.2.length:Int))) (gu x.1) (default:Bool)) fun y6=>
  bif bif (y5.length:Int) != (x.2.length:Int)then true else bif (x.2.length:Int)==0 then !y6 else false then
   some false
  else
   zX (fun(s7:Int)=>
     bif decide (s7<(x.2.length:Int))then
      zb (geti x.2 s7) fun y8=>
      bif bif y8.token.kind==17 then true else bif y8.token.kind==9 then y8.token.text==[33]else false then
       some (LO.ret false)
      else
       some (LO.again (w64 (s7+1)))
     else
      some (LO.out ()):Int->Option (LO (Int) (Unit) _)) 0 fun o9=>
   some true
def Sj(x:zA):Option Int:=
 zb (Du x.name) fun y1=>
 zb (zo (!(!y1)) (fu (x.name,x.value)) (default:Bool)) fun y2=>
 bif bif !y1 then true else !y2 then
  some 8
 else
  some 0
def Au(x:zA):Option Bool:=
 some (bif bif x.name==[]then(x.value.length:Int)==0 else false then !x.important else false)
def Xl(x:zh):Option Bool:=
 zb (zo (bif x.name==[]then x.num==0 else false) (Au x.decl) (default:Bool)) fun y1=>
 some (bif bif x.name==[]then x.num==0 else false then y1 else false)
def OA(ZC:zh->Option Bool)(x:zh):Option Bool:=
 bif x.kind==7 then
  zb (zo (bif bif x.name==[]then x.num==0 else false then(x.list.length:Int)==0 else false) (Sj x.decl) (default:Int)) fun y1=>
  some (bif bif bif x.name==[]then x.num==0 else false then(x.list.length:Int)==0 else false then y1==0 else false)
 else
  bif x.kind==8 then
   zb (Xl (⟨x.kind,x.name,x.num,x.decl,x.list⟩:zh)) fun y2=>
   some (bif y2 then(x.list.length:Int)==0 else false)
  else
   bif x.kind==3 then
    zb (Xl (⟨x.kind,x.name,x.num,x.decl,x.list⟩:zh)) fun y3=>
    zb (zo (bif y3 then(x.list.length:Int)==1 else false) (geti x.list 0) (default:zh)) fun y4=>
    zb (zo (bif y3 then(x.list.length:Int)==1 else false) (ZC (⟨y4.kind,y4.name,y4.num,y4.decl,y4.list⟩:zh)) (default:Bool)) fun y5=>
    some (bif bif y3 then(x.list.length:Int)==1 else false then y5 else false)
   else
    zD (X:=Bool) (
      bif x.kind==1 then
       some (LX.out (x.kind==1))
      else
       some (LX.out (x.kind==2))) fun j6=>
    bif j6 then
     zb (Xl (⟨x.kind,x.name,x.num,x.decl,x.list⟩:zh)) fun y7=>
     bif bif !y7 then true else decide ((x.list.length:Int)<2)then
      some false
     else
      zX (fun(s8:Int)=>
        bif decide (s8<(x.list.length:Int))then
         zb (geti x.list s8) fun y9=>
         zb (ZC (⟨y9.kind,y9.name,y9.num,y9.decl,y9.list⟩:zh)) fun y10=>
         bif !y10 then
          some (LO.ret false)
         else
          some (LO.again (w64 (s8+1)))
        else
         some (LO.out ()):Int->Option (LO (Int) (Unit) _)) 0 fun o11=>
      some true
    else
     some false
def ZC:zh->Option Bool:=recE (OA)
def Tv(x:zh):Option Bool:=
 zb (qh ((⟨x.kind,x.name,x.num,x.decl,x.list⟩:zh),1500)) fun y1=>
 zb (zo (decide (y1<=1500)) (Ai (⟨x.kind,x.name,x.num,x.decl,x.list⟩:zh)) (default:Int)) fun y2=>
 zb (zo (bif decide (y1<=1500)then decide (y2<=16)else false) (ZC (⟨x.kind,x.name,x.num,x.decl,x.list⟩:zh)) (default:Bool)) fun y3=>
 some (bif bif decide (y1<=1500)then decide (y2<=16)else false then y3 else false)
def slices_Index_string(x:List Str×Str):Option Int:=
 zX (fun(s1:Int)=>
   bif decide (s1<(x.1.length:Int))then
    zb (geti x.1 s1) fun y2=>
    bif x.2==y2 then
     some (LO.ret s1)
    else
     some (LO.again (w64 (s1+1)))
   else
    some (LO.out ()):Int->Option (LO (Int) (Unit) _)) 0 fun o3=>
 some (-1)
def slices_Contains_string(x:List Str×Str):Option Bool:=
 zb (slices_Index_string (x.1,x.2)) fun y1=>
 some (decide (y1>=0))
def QW(x:Str):Option Bool:=
 zb (slices_Contains_string ([[],[97,110,100],[111,114],[110,111,116],[111,110,108,121]],x)) fun y1=>
 zb (zo (bif !y1 then decide ((x.length:Int)<=64)else false) (ZH x) (default:Str)) fun y2=>
 zb (zo (bif bif !y1 then decide ((x.length:Int)<=64)else false then y2==x else false) (strings_IndexByte (x,0)) (default:Int)) fun y3=>
 some (bif bif bif !y1 then decide ((x.length:Int)<=64)else false then y2==x else false then decide (y3<0)else false)
def Vj(x:List Int):Option Int:=
 zX (fun(s1:Int)=>
   bif decide (s1<(x.length:Int))then
    zb (geti x s1) fun y2=>
    bif bif decide (y2<(-1000000000000))then true else decide (y2>1000000000000)then
     some (LO.ret 8)
    else
     some (LO.again (w64 (s1+1)))
   else
    some (LO.out ()):Int->Option (LO (Int) (Unit) _)) 0 fun o3=>
 some 0
def QY(x:Int):Option Int:=
 zb (Vj [x]) fun y1=>
 some y1
def Rj(x:zh):Option Bool:=
 zb (zo (!(x.kind != 1)) (ZX (⟨x.kind,x.name,x.num,x.decl,x.list⟩:zh)) (default:Bool)) fun y1=>
 bif bif bif x.kind != 1 then true else !y1 then true else(x.list.length:Int)==0 then
  some false
 else
  zX (fun(s2:Int)=>
    bif decide (s2<(x.list.length:Int))then
     zD (X:=Int) (
       zb (geti x.list s2) fun y3=>
       zb (zo (!(decide ((y3.list.length:Int)>0))) (ZX (⟨y3.kind,[],0,y3.decl,y3.list⟩:zh)) (default:Bool)) fun y4=>
       bif bif decide ((y3.list.length:Int)>0)then true else !y4 then
        some (LX.ret (LO.ret false))
       else
        bif y3.kind==4 then
         zb (zo (!(bif decide (s2>0)then true else y3.num != 0)) (QW y3.name) (default:Bool)) fun y5=>
         bif bif bif decide (s2>0)then true else y3.num != 0 then true else !y5 then
          some (LX.ret (LO.ret false))
         else
          some (LX.out s2)
        else
         zD (X:=Bool) (
           bif y3.kind==5 then
            some (LX.out (y3.kind==5))
           else
            some (LX.out (y3.kind==6))) fun j6=>
         bif j6 then
          zb (zo (!(bif !(y3.name==[])then true else decide (y3.num<0))) (QY y3.num) (default:Int)) fun y7=>
          bif bif bif !(y3.name==[])then true else decide (y3.num<0)then true else y7 != 0 then
           some (LX.ret (LO.ret false))
          else
           some (LX.out s2)
         else
          some (LX.ret (LO.ret false))) fun j8=>
     some (LO.again (w64 (j8+1)))
    else
     some (LO.out ()):Int->Option (LO (Int) (Unit) _)) 0 fun o9=>
  some true
def wo(x:zh):Option Bool:=
 zb (zo (decide ((x.list.length:Int)>0)) (geti x.list 0) (default:zh)) fun y1=>
 some (bif decide ((x.list.length:Int)>0)then y1.kind==4 else false)
def Il(x:zh):Option Bool:=
 bif x.kind==3 then
  zb (ZX (⟨x.kind,x.name,x.num,x.decl,x.list⟩:zh)) fun y1=>
  zb (zo (bif y1 then(x.list.length:Int)==1 else false) (geti x.list 0) (default:zh)) fun y2=>
  zb (zo (bif y1 then(x.list.length:Int)==1 else false) (Rj (⟨y2.kind,y2.name,y2.num,y2.decl,y2.list⟩:zh)) (default:Bool)) fun y3=>
  zb (zo (bif bif y1 then(x.list.length:Int)==1 else false then y3 else false) (geti x.list 0) (default:zh)) fun y4=>
  zb (zo (bif bif y1 then(x.list.length:Int)==1 else false then y3 else false) (wo (⟨y4.kind,y4.name,y4.num,y4.decl,y4.list⟩:zh)) (default:Bool)) fun y5=>
  some (bif bif bif y1 then(x.list.length:Int)==1 else false then y3 else false then y5 else false)
 else
  zb (Rj (⟨x.kind,x.name,x.num,x.decl,x.list⟩:zh)) fun y6=>
  some y6
def qp(x:zh):Option Bool:=
 zb (Il (⟨x.kind,x.name,x.num,x.decl,x.list⟩:zh)) fun y1=>
 some (!y1)
def ZY(x:List zh):Option Int:=
 zX (fun(s1:Int)=>
   bif decide (s1<(x.length:Int))then
    zb (geti x s1) fun y2=>
    zb (qp (⟨y2.kind,y2.name,y2.num,y2.decl,y2.list⟩:zh)) fun y3=>
    bif y3 then
     some (LO.ret s1)
    else
     some (LO.again (w64 (s1+1)))
   else
    some (LO.out ()):Int->Option (LO (Int) (Unit) _)) 0 fun o4=>
 some (-1)
def Zi(x:List zh):Option Bool:=
 zb (ZY x) fun y1=>
 some (decide (y1>=0))
def Z5(x:zh):Option Int:=
 zb (zo (bif bif x.kind==2 then decide ((x.list.length:Int)>0)else false then decide ((x.list.length:Int)<=64)else false) (Zi x.list) (default:Bool)) fun y1=>
 zb (ZX (⟨x.kind,x.name,x.num,x.decl,x.list⟩:zh)) fun y2=>
 bif bif !y2 then true else bif !(bif x.kind==1 then(x.list.length:Int)==0 else false)then !(bif bif bif x.kind==2 then decide ((x.list.length:Int)>0)else false then decide ((x.list.length:Int)<=64)else false then !y1 else false)else false then
  some 8
 else
  some 0
def ah(x:zh):Option Int:=
 zb (Z5 (⟨x.kind,x.name,x.num,x.decl,x.list⟩:zh)) fun y1=>
 bif y1 != 0 then
  zb (Ze (⟨x.kind,x.name,x.num,x.decl,x.list⟩:zh)) fun y2=>
  some y2
 else
  some 0
def Wu(x:Int×List Bool):Option (Bool×Int):=
 zb (geti x.2 (w64 (w64 (x.1+1) - 1))) fun y1=>
 some (y1,w64 (x.1+1))
def Aq(qd:(zh×Int)×Int×List Bool->Option (Bool×Int))(x:(zh×Int)×Int×List Bool):Option (Bool×Int):=
 bif x.1.1.kind==4 then
  some (bif x.1.1.name==[97,108,108]then true else x.1.1.name==[115,99,114,101,101,110],x.2.1)
 else
  bif x.1.1.kind==5 then
   some (decide (x.1.2>=x.1.1.num),x.2.1)
  else
   bif x.1.1.kind==6 then
    some (decide (x.1.2<=x.1.1.num),x.2.1)
   else
    bif x.1.1.kind==7 then
     zb (Wu (x.2.1,x.2.2)) fun y1=>
     some (y1.1,y1.2)
    else
     bif x.1.1.kind==8 then
      some (false,x.2.1)
     else
      zX (fun(s2:(Bool×Bool×Int)×Int)=>
        bif decide (s2.1.2.2<(x.1.1.list.length:Int))then
         zb (geti x.1.1.list s2.1.2.2) fun y3=>
         zb (qd (((⟨y3.kind,y3.name,y3.num,y3.decl,y3.list⟩:zh),x.1.2),s2.2,x.2.2)) fun y4=>
         some (LO.again ((bif s2.1.1 then y4.1 else false,bif s2.1.2.1 then true else y4.1,w64 (s2.1.2.2+1)),y4.2))
        else
         some (LO.out ((s2.1.1,s2.1.2.1),s2.2)):(Bool×Bool×Int)×Int->Option (LO ((Bool×Bool×Int)×Int) ((Bool×Bool)×Int) _)) ((true,false,0),x.2.1) fun o5=>
      bif x.1.1.kind==1 then
       some (o5.1.1,o5.2)
      else
       bif x.1.1.kind==2 then
        some (o5.1.2,o5.2)
       else
        some (!o5.1.2,o5.2)
def qd:(zh×Int)×Int×List Bool->Option (Bool×Int):=recE (Aq)
def Yi(x:zh×VEnv×List Bool):Option (Bool×Int):=
 zb (ah (⟨x.1.kind,x.1.name,x.1.num,x.1.decl,x.1.list⟩:zh)) fun y1=>
 bif y1 != 0 then
  some (false,y1)
 else
  zb (zo (!(bif decide (x.2.1.width<0)then true else decide (x.2.1.width>1000000000))) (Zw (⟨x.1.kind,x.1.name,x.1.num,x.1.decl,x.1.list⟩:zh)) (default:List zA)) fun y2=>
  bif bif bif decide (x.2.1.width<0)then true else decide (x.2.1.width>1000000000)then true else(x.2.2.length:Int) != (y2.length:Int)then
   some (false,2)
  else
   zb (qd (((⟨x.1.kind,x.1.name,x.1.num,x.1.decl,x.1.list⟩:zh),w64 (1000*x.2.1.width)),0,x.2.2)) fun y3=>
   some (y3.1,0)
def qx(x:Str):Option Int:=
 zb (strings_HasPrefix (x,[45])) fun y1=>
 bif y1 then
  some 2
 else
  some 1
def Zv(x:Int×List UInt8):Option (List UInt8):=
 zb (zo (bif decide (x.1>32)then decide (x.1<127)else false) (qf x.1) (default:Bool)) fun y1=>
 zb (zo (bif bif decide (x.1>32)then decide (x.1<127)else false then !y1 else false) (Ou x.1) (default:Bool)) fun y2=>
 bif bif bif bif decide (x.1>32)then decide (x.1<127)else false then !y1 else false then !y2 else false then
  zb (ZQ x.1) fun y3=>
  need (zR x.2.length 2 1)<|
  some (x.2++[(92:UInt8),y3])
 else
  need (zR x.2.length 1 1)<|
  zb (Ey ((wu64 x.1,16),x.2++[(92:UInt8)])) fun y4=>
  need (zR y4.length 1 1)<|
  some (y4++[(32:UInt8)])
def Nu(x:Str×Int):Option (List UInt8):=
 zX (fun(s1:Int×List UInt8)=>
   bif decide (s1.1<(x.1.length:Int))then
    zD (X:=Int×List UInt8) (
      zb (geti x.1 s1.1) fun y2=>
      zb (Yh (y2.toNat:Int)) fun y3=>
      zb (zo (!(decide (s1.1>=x.2))&&y3) (qf (y2.toNat:Int)) (default:Bool)) fun y4=>
      bif bif bif y3 then bif decide (s1.1>=x.2)then true else !y4 else false then bif x.2==0 then true else !(x.1==[45])else false then
       zb (ZQ (y2.toNat:Int)) fun y5=>
       need (zR s1.2.length 1 1)<|
       some (LX.out (s1.1,s1.2++[y5]))
      else
       zb (Zv ((y2.toNat:Int),s1.2)) fun y6=>
       some (LX.out (s1.1,y6))) fun j7=>
    some (LO.again (w64 (j7.1+1),j7.2))
   else
    some (LO.out s1.2):Int×List UInt8->Option (LO (Int×List UInt8) (List UInt8) _)) (0,[]) fun o8=>
 some o8
def Kl(x:Str):Option (Str×Int):=
 zb (zo (!(x==[])) (strings_IndexByte (x,0)) (default:Int)) fun y1=>
 bif bif x==[]then true else decide (y1>=0)then
  some ([],8)
 else
  zb (qx x) fun y2=>
  zb (Nu (x,y2)) fun y3=>
  bif bif decide ((x.length:Int)>4000)then true else decide ((y3.length:Int)>4000)then
   some ([],28)
  else
   some (y3,0)
def qC(x:Int×Int×List UInt8):Option (Int×List UInt8):=
 need (decide (0<=w64 (x.2.1 - 1))&&(decide (w64 (x.2.1 - 1)<20)&&decide (w64 (x.2.1 - 1)<(x.2.2.length:Int))))<|
 zb (x.2.2[(w64 (x.2.1 - 1)).toNat]?) fun y1=>
 zb (ZQ x.1) fun y2=>
 some (w64 (x.2.1 - 1),List.set x.2.2 (w64 (x.2.1 - 1)).toNat y2)
def Ru(x:Int):Option (Str×Int):=
 zb (Vj [x]) fun y1=>
 bif y1 != 0 then
  some ([],y1)
 else
  zD (X:=Int) (
    bif decide (x<0)then
     some (LX.out (w64 (0 - x)))
    else
     some (LX.out x)) fun j2=>
  zX (fun(s3:(Int×Int)×List UInt8×Int)=>
    bif decide (s3.1.2<3)then
     zD (X:=(Int×Int)×List UInt8×Int) (
       zD (X:=Int×List UInt8×Int) (
         bif bif Int.tmod s3.1.1 10 != 0 then true else decide (s3.2.2<20)then
          zb (qC (wu8 (w64 (48+Int.tmod s3.1.1 10)),s3.2.2,s3.2.1)) fun y4=>
          some (LX.out (s3.1.1,y4.2,y4.1))
         else
          some (LX.out (s3.1.1,s3.2.1,s3.2.2))) fun j5=>
       bif bif s3.1.2==2 then decide (j5.2.2<20)else false then
        zb (qC (46,j5.2.2,j5.2.1)) fun y6=>
        some (LX.out ((w64 (Int.tdiv j5.1 10),s3.1.2),y6.2,y6.1))
       else
        some (LX.out ((w64 (Int.tdiv j5.1 10),s3.1.2),j5.2.1,j5.2.2))) fun j7=>
     some (LO.again ((j7.1.1,w64 (j7.1.2+1)),j7.2.1,j7.2.2))
    else
     some (LO.out (s3.2.1,s3.2.2)):(Int×Int)×List UInt8×Int->Option (LO ((Int×Int)×List UInt8×Int) (List UInt8×Int) _)) ((Int.tmod j2 1000,0),List.replicate 20 (0:UInt8),20) fun o8=>
  zX (fun(s9:Int×List UInt8×Int)=>
    zb (qC (wu8 (w64 (48+Int.tmod s9.1 10)),s9.2.2,s9.2.1)) fun y10=>
    bif decide (s9.1<10)then
     some (LO.out (y10.2,y10.1))
    else
     some (LO.again (w64 (Int.tdiv s9.1 10),y10.2,y10.1)):Int×List UInt8×Int->Option (LO (Int×List UInt8×Int) (List UInt8×Int) _)) (w64 (Int.tdiv j2 1000),o8.1,o8.2) fun o11=>
  zD (X:=List UInt8×Int) (
    bif decide (x<0)then
     zb (qC (45,o11.2,o11.1)) fun y12=>
     some (LX.out (y12.2,y12.1))
    else
     some (LX.out (o11.1,o11.2))) fun j13=>
  need (decide (0<=j13.2)&&decide (j13.2<=20)&&Nat.beq j13.1.length 20)<|
  need (decide (j13.2.toNat+(20 - j13.2.toNat)<=j13.1.length))<|
  some (List.take (20 - j13.2.toNat) (List.drop j13.2.toNat j13.1),0)
def Vo(zW:zh->Option Str)(x:List zh×Str):Option Str:=
 zX (fun(s1:Int×List Str)=>
   bif decide (s1.1<(x.1.length:Int))then
    zb (geti x.1 s1.1) fun y2=>
    zb (zW (⟨y2.kind,y2.name,y2.num,y2.decl,y2.list⟩:zh)) fun y3=>
    need (zR s1.2.length 1 16)<|
    some (LO.again (w64 (s1.1+1),s1.2++[y3]))
   else
    some (LO.out s1.2):Int×List Str->Option (LO (Int×List Str) (List Str) _)) (0,[]) fun o4=>
 zb (lh (o4,x.2)) fun y5=>
 some y5
def Uu(zW:zh->Option Str)(x:zh):Option Str:=
 bif x.kind==4 then
  zb (Kl x.name) fun y1=>
  some y1.1
 else
  bif x.kind==3 then
   zb (geti x.list 0) fun y2=>
   zb (zW (⟨y2.kind,y2.name,y2.num,y2.decl,y2.list⟩:zh)) fun y3=>
   need (qZ ([110,111,116,32]:Str).length y3.length)<|
   some (([110,111,116,32]:Str)++y3)
  else
   bif x.kind==2 then
    zb (Vo zW (x.list,[44,32])) fun y4=>
    some y4
   else
    bif x.kind==1 then
     zb (Vo zW (x.list,[32,97,110,100,32])) fun y5=>
     some y5
    else
     zb (Ru x.num) fun y6=>
     bif x.kind==5 then
      need (qZ ([40,109,105,110,45,119,105,100,116,104,58,32]:Str).length y6.1.length)<|
      need (qZ (([40,109,105,110,45,119,105,100,116,104,58,32]:Str)++y6.1).length ([112,120,41]:Str).length)<|
      some (([40,109,105,110,45,119,105,100,116,104,58,32]:Str)++y6.1++([112,120,41]:Str))
     else
      need (qZ ([40,109,97,120,45,119,105,100,116,104,58,32]:Str).length y6.1.length)<|
      need (qZ (([40,109,97,120,45,119,105,100,116,104,58,32]:Str)++y6.1).length ([112,120,41]:Str).length)<|
      some (([40,109,97,120,45,119,105,100,116,104,58,32]:Str)++y6.1++([112,120,41]:Str))
def zW:zh->Option Str:=recE (Uu)
def QZ(x:(Str×Int)×List UInt8):Option (List UInt8):=
 zX (fun(s1:Int×List UInt8)=>
   bif decide (s1.1<(x.1.1.length:Int))then
    zD (X:=Int×List UInt8) (
      zb (geti x.1.1 s1.1) fun y2=>
      zb (Yh (y2.toNat:Int)) fun y3=>
      zb (zo (!(decide (s1.1>=x.1.2))&&y3) (qf (y2.toNat:Int)) (default:Bool)) fun y4=>
      bif bif bif y3 then bif decide (s1.1>=x.1.2)then true else !y4 else false then bif x.1.2==0 then true else !(x.1.1==[45])else false then
       zb (ZQ (y2.toNat:Int)) fun y5=>
       need (zR s1.2.length 1 1)<|
       some (LX.out (s1.1,s1.2++[y5]))
      else
       zb (Zv ((y2.toNat:Int),s1.2)) fun y6=>
       some (LX.out (s1.1,y6))) fun j7=>
    some (LO.again (w64 (j7.1+1),j7.2))
   else
    some (LO.out s1.2):Int×List UInt8->Option (LO (Int×List UInt8) (List UInt8) _)) (0,x.2) fun o8=>
 some o8
def ay(x:Unit):Option zaO:=
 some (⟨[32],[60,33,45,45],[45,45,62],[58],[59],[44],[91],[93],[40],[41],[123],[125]⟩:zaO)
def QN(x:(Int×Bool)×List UInt8):Option (List UInt8):=
 zD (X:=Int×List UInt8) (
   bif decide (x.1.1<0)then
    need (zR x.2.length 1 1)<|
    some (LX.out (w64 (0 - x.1.1),x.2++[(45:UInt8)]))
   else
    some (LX.out (x.1.1,x.2))) fun j1=>
 zb (Fy ((w64 (Int.tdiv j1.1 1000),10),j1.2)) fun y2=>
 zb (fw (w64 (1000+Int.tmod j1.1 1000),10)) fun y3=>
 need (decide (1<=(y3.length:Int)))<|
 zb (Ym (List.drop 1 y3,[48])) fun y4=>
 zD (X:=List UInt8) (
   bif !(y4==[])then
    need (zR y2.length 1 1)<|
    need (zR (y2++[(46:UInt8)]).length y4.length 1)<|
    some (LX.out (y2++[(46:UInt8)]++y4))
   else
    bif x.1.2 then
     need (zR y2.length ([46,48]:Str).length 1)<|
     some (LX.out (y2++([46,48]:Str)))
    else
     some (LX.out y2)) fun j5=>
 some j5
def Lu(x:zf×List UInt8):Option (List UInt8):=
 bif x.1.kind==1 then
  zb (qx x.1.text) fun y1=>
  zb (QZ ((x.1.text,y1),x.2)) fun y2=>
  some y2
 else
  bif x.1.kind==2 then
   zb (qx x.1.text) fun y3=>
   zb (QZ ((x.1.text,y3),x.2)) fun y4=>
   need (zR y4.length 1 1)<|
   some (y4++[(40:UInt8)])
  else
   bif x.1.kind==3 then
    need (zR x.2.length 1 1)<|
    zb (qx x.1.text) fun y5=>
    zb (QZ ((x.1.text,y5),x.2++[(64:UInt8)])) fun y6=>
    some y6
   else
    bif x.1.kind==4 then
     zD (X:=Int×List UInt8) (
       bif x.1.flag then
        zb (qx x.1.text) fun y7=>
        some (LX.out (y7,x.2))
       else
        some (LX.out (0,x.2))) fun j8=>
     need (zR j8.2.length 1 1)<|
     zb (QZ ((x.1.text,j8.1),j8.2++[(35:UInt8)])) fun y9=>
     some y9
    else
     bif x.1.kind==5 then
      need (zR x.2.length 1 1)<|
      need (decide (x.1.text.length<=maxLen))<|
      zX (fun(s10:Int×List UInt8)=>
        bif decide (s10.1<(x.1.text.length:Int))then
         zD (X:=Int×List UInt8) (
           need (decide (0<=s10.1)&&decide (s10.1<(x.1.text.length:Int)))<|
           zb x.1.text[s10.1.toNat]? fun y11=>
           zb (strings_IndexByte ([10,12,13,34,92],(y11.toNat:Int))) fun y12=>
           bif decide (y12>=0)then
            zb (Zv ((y11.toNat:Int),s10.2)) fun y13=>
            some (LX.out (s10.1,y13))
           else
            zb (ZQ (y11.toNat:Int)) fun y14=>
            need (zR s10.2.length 1 1)<|
            some (LX.out (s10.1,s10.2++[y14]))) fun j15=>
         some (LO.again (w64 (j15.1+1),j15.2))
        else
         some (LO.out s10.2):Int×List UInt8->Option (LO (Int×List UInt8) (List UInt8) _)) (0,x.2++[(34:UInt8)]) fun o16=>
      need (zR o16.length 1 1)<|
      some (o16++[(34:UInt8)])
     else
      bif x.1.kind==7 then
       need (zR x.2.length ([117,114,108,40]:Str).length 1)<|
       need (decide (x.1.text.length<=maxLen))<|
       zX (fun(s17:Int×List UInt8)=>
         bif decide (s17.1<(x.1.text.length:Int))then
          zD (X:=Int×List UInt8) (
            need (decide (0<=s17.1)&&decide (s17.1<(x.1.text.length:Int)))<|
            zb x.1.text[s17.1.toNat]? fun y18=>
            zb (zo (!(decide ((y18.toNat:Int)<=32))) (strings_IndexByte ([34,39,40,41,92,127],(y18.toNat:Int))) (default:Int)) fun y19=>
            bif bif decide ((y18.toNat:Int)<=32)then true else decide (y19>=0)then
             zb (Zv ((y18.toNat:Int),s17.2)) fun y20=>
             some (LX.out (s17.1,y20))
            else
             zb (ZQ (y18.toNat:Int)) fun y21=>
             need (zR s17.2.length 1 1)<|
             some (LX.out (s17.1,s17.2++[y21]))) fun j22=>
          some (LO.again (w64 (j22.1+1),j22.2))
         else
          some (LO.out s17.2):Int×List UInt8->Option (LO (Int×List UInt8) (List UInt8) _)) (0,x.2++([117,114,108,40]:Str)) fun o23=>
       need (zR o23.length 1 1)<|
       some (o23++[(41:UInt8)])
      else
       bif x.1.kind==9 then
        need (zR x.2.length x.1.text.length 1)<|
        some (x.2++x.1.text)
       else
        bif x.1.kind==10 then
         zb (QN ((x.1.num, !x.1.flag),x.2)) fun y24=>
         some y24
        else
         bif x.1.kind==11 then
          zb (QN ((x.1.num,false),x.2)) fun y25=>
          need (zR y25.length 1 1)<|
          some (y25++[(37:UInt8)])
         else
          bif x.1.kind==12 then
           zb (QN ((x.1.num, !x.1.flag),x.2)) fun y26=>
           zb (geti x.1.unit 0) fun y27=>
           need (decide (1<=(x.1.unit.length:Int))|| !(ibOr IntKind.u8 (y27.toNat:Int) 32==101))<|
           zb (zo (ibOr IntKind.u8 (y27.toNat:Int) 32==101) (Yj (List.drop 1 x.1.unit)) (default:Bool)) fun y28=>
           need (decide (1<=(x.1.unit.length:Int))|| !(bif ibOr IntKind.u8 (y27.toNat:Int) 32==101 then y28 else false))<|
           zb (zo (bif ibOr IntKind.u8 (y27.toNat:Int) 32==101 then y28 else false) (strings_HasPrefix (List.drop 1 x.1.unit,[45,45])) (default:Bool)) fun y29=>
           bif bif bif ibOr IntKind.u8 (y27.toNat:Int) 32==101 then y28 else false then !y29 else false then
            zb (geti x.1.unit 0) fun y30=>
            zb (Zv ((y30.toNat:Int),y26)) fun y31=>
            need (decide (1<=(x.1.unit.length:Int)))<|
            zb (QZ ((List.drop 1 x.1.unit,0),y31)) fun y32=>
            some y32
           else
            zb (qx x.1.unit) fun y33=>
            zb (QZ ((x.1.unit,y33),y26)) fun y34=>
            some y34
          else
           zb (ay ()) fun y35=>
           zb (geti [y35.e0,y35.e1,y35.e2,y35.e3,y35.e4,y35.e5,y35.e6,y35.e7,y35.e8,y35.e9,y35.e10,y35.e11] (wu8 (x.1.kind - 13))) fun y36=>
           need (zR x.2.length y36.length 1)<|
           some (x.2++y36)
def ZO(x:za):Option za:=
 zX (fun(s1:za)=>
   need (decide (0<=s1.at_)&&decide (s1.at_<=(s1.s.length:Int)))<|
   zb (strings_HasPrefix (List.drop s1.at_.toNat s1.s,[47,42])) fun y2=>
   bif y2 then
    need (decide (0<=w64 (s1.at_+2))&&decide (w64 (s1.at_+2)<=(s1.s.length:Int)))<|
    zb (Ej (List.drop (w64 (s1.at_+2)).toNat s1.s,[42,47])) fun y3=>
    bif decide (y3<0)then
     some (LO.ret (⟨s1.s,(s1.s.length:Int)⟩:za))
    else
     some (LO.again (⟨s1.s,w64 (s1.at_+w64 (y3+4))⟩:za))
   else
    some (LO.out s1):za->Option (LO (za) (za) _)) x fun o4=>
 some o4
def zg(x:Int×za):Option Int:=
 bif decide (w64 (x.2.at_+x.1)<(x.2.s.length:Int))then
  zb (geti x.2.s (w64 (x.2.at_+x.1))) fun y1=>
  some (w64 (y1.toNat:Int))
 else
  some (-1)
def ZK(x:Int):Option Bool:=
 some (bif bif x==32 then true else x==9 then true else x==10)
def Zg(x:za):Option za:=
 zX (fun(s1:za)=>
   zb (zg (0,s1)) fun y2=>
   zb (ZK y2) fun y3=>
   bif y3 then
    some (LO.again (⟨s1.s,w64 (s1.at_+1)⟩:za))
   else
    some (LO.out s1):za->Option (LO (za) (za) _)) x fun o4=>
 some o4
def Q9(x:Int):Option (List UInt8):=
 bif decide (wu32 x<=2047)then
  zb (ZQ (ibOr IntKind.u8 192 (wu8 (yg IntKind.i32 x 6)))) fun y1=>
  zb (ZQ (ibOr IntKind.u8 128 (Ah IntKind.u8 (wu8 x) 63))) fun y2=>
  need (zR 0 2 1)<|
  some [y1,y2]
 else
  zD (X:=Bool) (
    bif decide (wu32 x<55296)then
     some (LX.out (decide (wu32 x<55296)))
    else
     some (LX.out (bif decide (57343<wu32 x)then decide (wu32 x<=65535)else false))) fun j3=>
  bif j3 then
   zb (ZQ (ibOr IntKind.u8 224 (wu8 (yg IntKind.i32 x 12)))) fun y4=>
   zb (ZQ (ibOr IntKind.u8 128 (Ah IntKind.u8 (wu8 (yg IntKind.i32 x 6)) 63))) fun y5=>
   zb (ZQ (ibOr IntKind.u8 128 (Ah IntKind.u8 (wu8 x) 63))) fun y6=>
   need (zR 0 3 1)<|
   some [y4,y5,y6]
  else
   bif bif decide (wu32 x>65535)then decide (wu32 x<=1114111)else false then
    zb (ZQ (ibOr IntKind.u8 240 (wu8 (yg IntKind.i32 x 18)))) fun y7=>
    zb (ZQ (ibOr IntKind.u8 128 (Ah IntKind.u8 (wu8 (yg IntKind.i32 x 12)) 63))) fun y8=>
    zb (ZQ (ibOr IntKind.u8 128 (Ah IntKind.u8 (wu8 (yg IntKind.i32 x 6)) 63))) fun y9=>
    zb (ZQ (ibOr IntKind.u8 128 (Ah IntKind.u8 (wu8 x) 63))) fun y10=>
    need (zR 0 4 1)<|
    some [y7,y8,y9,y10]
   else
    need (zR 0 3 1)<|
    some [(239:UInt8),(191:UInt8),(189:UInt8)]
def Qj(x:Int):Option (List UInt8):=
 bif decide (wu32 x<=127)then
  zb (ZQ (wu8 x)) fun y1=>
  need (zR 0 1 1)<|
  some [y1]
 else
  zb (Q9 x) fun y2=>
  some y2
def Qh(x:Int×Int×Int):Option Bool:=
 some (bif decide (x.2.1<=x.1)then decide (x.1<=x.2.2)else false)
def ZV(x:Int):Option Bool:=
 zb (Qh (x,48,57)) fun y1=>
 some y1
def Vh(x:Int):Option Int:=
 zb (ZV x) fun y1=>
 bif y1 then
  some (w64 (x - 48))
 else
  zb (zo (x != (-1)) (Qh (ibOr IntKind.i64 x 32,97,102)) (default:Bool)) fun y2=>
  bif bif bif bif x != (-1)then y2 else false then decide (x>64)else false then decide (x<128)else false then
   some (w64 (w64 (ibOr IntKind.i64 x 32 - 97)+10))
  else
   some (-1)
def qb(x:za):Option (za×List UInt8):=
 zb (zg (0,(⟨x.s,w64 (x.at_+1)⟩:za))) fun y1=>
 bif y1==(-1)then
  zb (Qj 65533) fun y2=>
  some ((⟨x.s,w64 (x.at_+1)⟩:za),y2)
 else
  zb (Vh y1) fun y3=>
  bif decide (y3<0)then
   zb (ZQ (wu8 y1)) fun y4=>
   need (zR 0 1 1)<|
   some ((⟨x.s,w64 (w64 (x.at_+1)+1)⟩:za),[y4])
  else
   zX (fun(s5:(Int×Int)×za)=>
     bif decide (s5.1.2<6)then
      zb (zg (0,s5.2)) fun y6=>
      zb (Vh y6) fun y7=>
      bif decide (y7<0)then
       some (LO.out (s5.1.1,s5.2))
      else
       some (LO.again ((ibOr IntKind.i64 (jv IntKind.i64 s5.1.1 4) y7,w64 (s5.1.2+1)),(⟨s5.2.s,w64 (s5.2.at_+1)⟩:za)))
     else
      some (LO.out (s5.1.1,s5.2)):(Int×Int)×za->Option (LO ((Int×Int)×za) (Int×za) _)) ((0,0),(⟨x.s,w64 (x.at_+1)⟩:za)) fun o8=>
   zD (X:=Int×za) (
     zb (zg (0,o8.2)) fun y9=>
     zb (ZK y9) fun y10=>
     bif y10 then
      some (LX.out (o8.1,(⟨o8.2.s,w64 (o8.2.at_+1)⟩:za)))
     else
      some (LX.out (o8.1,o8.2))) fun j11=>
   zD (X:=Int) (
     bif j11.1==0 then
      some (LX.out 65533)
     else
      some (LX.out j11.1)) fun j12=>
   zb (Qj (w32 j12)) fun y13=>
   some (j11.2,y13)
def bH(x:Int×List UInt8):Option (List UInt8):=
 bif decide (wu32 x.1<=2047)then
  zb (ZQ (ibOr IntKind.u8 192 (wu8 (yg IntKind.i32 x.1 6)))) fun y1=>
  zb (ZQ (ibOr IntKind.u8 128 (Ah IntKind.u8 (wu8 x.1) 63))) fun y2=>
  need (zR x.2.length 2 1)<|
  some (x.2++[y1,y2])
 else
  zD (X:=Bool×List UInt8) (
    bif decide (wu32 x.1<55296)then
     some (LX.out (decide (wu32 x.1<55296),x.2))
    else
     some (LX.out (bif decide (57343<wu32 x.1)then decide (wu32 x.1<=65535)else false,x.2))) fun j3=>
  bif j3.1 then
   zb (ZQ (ibOr IntKind.u8 224 (wu8 (yg IntKind.i32 x.1 12)))) fun y4=>
   zb (ZQ (ibOr IntKind.u8 128 (Ah IntKind.u8 (wu8 (yg IntKind.i32 x.1 6)) 63))) fun y5=>
   zb (ZQ (ibOr IntKind.u8 128 (Ah IntKind.u8 (wu8 x.1) 63))) fun y6=>
   need (zR j3.2.length 3 1)<|
   some (j3.2++[y4,y5,y6])
  else
   bif bif decide (wu32 x.1>65535)then decide (wu32 x.1<=1114111)else false then
    zb (ZQ (ibOr IntKind.u8 240 (wu8 (yg IntKind.i32 x.1 18)))) fun y7=>
    zb (ZQ (ibOr IntKind.u8 128 (Ah IntKind.u8 (wu8 (yg IntKind.i32 x.1 12)) 63))) fun y8=>
    zb (ZQ (ibOr IntKind.u8 128 (Ah IntKind.u8 (wu8 (yg IntKind.i32 x.1 6)) 63))) fun y9=>
    zb (ZQ (ibOr IntKind.u8 128 (Ah IntKind.u8 (wu8 x.1) 63))) fun y10=>
    need (zR j3.2.length 4 1)<|
    some (j3.2++[y7,y8,y9,y10])
   else
    need (zR j3.2.length 3 1)<|
    some (j3.2++[(239:UInt8),(191:UInt8),(189:UInt8)])
def Qk(x:Int×List UInt8):Option (List UInt8):=
 bif decide (wu32 x.1<=127)then
  zb (ZQ (wu8 x.1)) fun y1=>
  need (zR x.2.length 1 1)<|
  some (x.2++[y1])
 else
  zb (bH (x.1,x.2)) fun y2=>
  some y2
def z8(x:za×List UInt8):Option (za×List UInt8):=
 zb (zg (0,(⟨x.1.s,w64 (x.1.at_+1)⟩:za))) fun y1=>
 bif y1==(-1)then
  zb (Qk (65533,x.2)) fun y2=>
  some ((⟨x.1.s,w64 (x.1.at_+1)⟩:za),y2)
 else
  zb (Vh y1) fun y3=>
  bif decide (y3<0)then
   zb (ZQ (wu8 y1)) fun y4=>
   need (zR x.2.length 1 1)<|
   some ((⟨x.1.s,w64 (w64 (x.1.at_+1)+1)⟩:za),x.2++[y4])
  else
   zX (fun(s5:(Int×Int)×za)=>
     bif decide (s5.1.2<6)then
      zb (zg (0,s5.2)) fun y6=>
      zb (Vh y6) fun y7=>
      bif decide (y7<0)then
       some (LO.out (s5.1.1,s5.2))
      else
       some (LO.again ((ibOr IntKind.i64 (jv IntKind.i64 s5.1.1 4) y7,w64 (s5.1.2+1)),(⟨s5.2.s,w64 (s5.2.at_+1)⟩:za)))
     else
      some (LO.out (s5.1.1,s5.2)):(Int×Int)×za->Option (LO ((Int×Int)×za) (Int×za) _)) ((0,0),(⟨x.1.s,w64 (x.1.at_+1)⟩:za)) fun o8=>
   zD (X:=Int×za×List UInt8) (
     zb (zg (0,o8.2)) fun y9=>
     zb (ZK y9) fun y10=>
     bif y10 then
      some (LX.out (o8.1,(⟨o8.2.s,w64 (o8.2.at_+1)⟩:za),x.2))
     else
      some (LX.out (o8.1,o8.2,x.2))) fun j11=>
   zD (X:=Int×List UInt8) (
     bif j11.1==0 then
      some (LX.out (65533,j11.2.2))
     else
      some (LX.out (j11.1,j11.2.2))) fun j12=>
   zb (Qk (w32 j12.1,j12.2)) fun y13=>
   some (j11.2.1,y13)
def Qa(x:za):Option (zf×za):=
 zb (zg (0,x)) fun y1=>
 zX (fun(s2:za×zf×List UInt8)=>
   zb (zg (0,s2.1)) fun y3=>
   bif y3==(-1)then
    some (LO.out (s2.1,s2.2.1,s2.2.2))
   else
    bif y3==y1 then
     some (LO.out ((⟨s2.1.s,w64 (s2.1.at_+1)⟩:za),s2.2.1,s2.2.2))
    else
     bif y3==10 then
      some (LO.ret ((⟨6,[],0,[],false⟩:zf),s2.1))
     else
      zb (zo (y3==92) (zg (1,s2.1)) (default:Int)) fun y4=>
      zb (zo (!(y4==(-1))&&y3==92) (zg (1,s2.1)) (default:Int)) fun y5=>
      bif bif y3==92 then bif y4==(-1)then true else y5==10 else false then
       some (LO.again ((⟨s2.1.s,if(s2.1.s.length:Int)<w64 (s2.1.at_+2)then(s2.1.s.length:Int)else w64 (s2.1.at_+2)⟩:za),s2.2.1,s2.2.2))
      else
       bif y3==92 then
        zb (z8 (s2.1,s2.2.2)) fun y6=>
        some (LO.again (y6.1,s2.2.1,y6.2))
       else
        zb (ZQ (wu8 y3)) fun y7=>
        need (zR s2.2.2.length 1 1)<|
        some (LO.again ((⟨s2.1.s,w64 (s2.1.at_+1)⟩:za),s2.2.1,s2.2.2++[y7])):za×zf×List UInt8->Option (LO (za×zf×List UInt8) (za×zf×List UInt8) _)) ((⟨x.s,w64 (x.at_+1)⟩:za),(⟨0,[],0,[],false⟩:zf),[]) fun o8=>
 some ((⟨5,o8.2.2,0,[],false⟩:zf),o8.1)
def yo(x:Int):Option Bool:=
 zb (Qh (ibOr IntKind.i64 x 32,97,122)) fun y1=>
 some (bif bif bif bif y1 then decide (x<128)else false then decide (x>64)else false then true else x==95 then true else decide (x>=128))
def Vl(x:Int):Option Bool:=
 zb (yo x) fun y1=>
 zb (zo (!y1) (ZV x) (default:Bool)) fun y2=>
 some (bif bif y1 then true else y2 then true else x==45)
def zM(x:Int×za):Option Bool:=
 zb (zg (x.1,x.2)) fun y1=>
 zb (zo (y1==92) (zg (w64 (x.1+1),x.2)) (default:Int)) fun y2=>
 some (bif y1==92 then y2 != 10 else false)
def Zf(x:Int×za):Option Bool:=
 zb (zg (x.1,x.2)) fun y1=>
 bif y1 != 45 then
  zb (zg (x.1,x.2)) fun y2=>
  zb (yo y2) fun y3=>
  zb (zo (!y3) (zM (x.1,x.2)) (default:Bool)) fun y4=>
  some (bif y3 then true else y4)
 else
  zb (zg (w64 (x.1+1),x.2)) fun y5=>
  zb (yo y5) fun y6=>
  zb (zo (!y6) (zg (w64 (x.1+1),x.2)) (default:Int)) fun y7=>
  zb (zo (!(bif y6 then true else y7==45)) (zM (w64 (x.1+1),x.2)) (default:Bool)) fun y8=>
  some (bif bif y6 then true else y7==45 then true else y8)
def Zj(x:za):Option (Str×za):=
 zX (fun(s1:za×List UInt8)=>
   zb (zg (0,s1.1)) fun y2=>
   zb (Vl y2) fun y3=>
   bif y3 then
    zb (ZQ (wu8 y2)) fun y4=>
    need (zR s1.2.length 1 1)<|
    some (LO.again ((⟨s1.1.s,w64 (s1.1.at_+1)⟩:za),s1.2++[y4]))
   else
    zb (zo (y2 != (-1)) (zM (0,s1.1)) (default:Bool)) fun y5=>
    bif bif y2 != (-1)then y5 else false then
     zb (z8 (s1.1,s1.2)) fun y6=>
     some (LO.again (y6.1,y6.2))
    else
     some (LO.ret (s1.2,s1.1)):za×List UInt8->Option (LO (za×List UInt8) (Unit) _)) (x,[]) fun o7=>
 none
def UA(x:za):Option Bool:=
 zD (X:=Int) (
   zb (zg (0,x)) fun y1=>
   bif bif y1==43 then true else y1==45 then
    some (LX.out 1)
   else
    some (LX.out 0)) fun j2=>
 zD (X:=Int) (
   zb (zg (j2,x)) fun y3=>
   bif y3==46 then
    some (LX.out (w64 (j2+1)))
   else
    some (LX.out j2)) fun j4=>
 zb (zg (j4,x)) fun y5=>
 zb (ZV y5) fun y6=>
 some y6
def ZE(x:za):Option za:=
 zX (fun(s1:za)=>
   zb (zg (0,s1)) fun y2=>
   zb (ZV y2) fun y3=>
   bif y3 then
    some (LO.again (⟨s1.s,w64 (s1.at_+1)⟩:za))
   else
    some (LO.out s1):za->Option (LO (za) (za) _)) x fun o4=>
 some o4
def qH(x:za):Option (Bool×za):=
 zD (X:=za) (
   zb (zg (0,x)) fun y1=>
   bif bif y1==43 then true else y1==45 then
    some (LX.out (⟨x.s,w64 (x.at_+1)⟩:za))
   else
    some (LX.out x)) fun j2=>
 zb (ZE j2) fun y3=>
 zD (X:=Bool×za) (
   zb (zg (0,y3)) fun y4=>
   zb (zo (y4==46) (zg (1,y3)) (default:Int)) fun y5=>
   zb (zo (y4==46) (ZV y5) (default:Bool)) fun y6=>
   bif bif y4==46 then y6 else false then
    zb (ZE (⟨y3.s,w64 (y3.at_+1)⟩:za)) fun y7=>
    some (LX.out (false,y7))
   else
    some (LX.out (true,y3))) fun j8=>
 zD (X:=Bool×za) (
   zb (zg (0,j8.2)) fun y9=>
   zb (zo (!(y9==101)) (zg (0,j8.2)) (default:Int)) fun y10=>
   bif bif y9==101 then true else y10==69 then
    zD (X:=(Bool×Int)×za) (
      zb (zg (1,j8.2)) fun y11=>
      bif bif y11==43 then true else y11==45 then
       some (LX.out ((j8.1,2),j8.2))
      else
       some (LX.out ((j8.1,1),j8.2))) fun j12=>
    zb (zg (j12.1.2,j12.2)) fun y13=>
    zb (ZV y13) fun y14=>
    bif y14 then
     zb (ZE (⟨j12.2.s,w64 (j12.2.at_+j12.1.2)⟩:za)) fun y15=>
     some (LX.out (false,y15))
    else
     some (LX.out (j12.1.1,j12.2))
   else
    some (LX.out (j8.1,j8.2))) fun j16=>
 some (j16.1,j16.2)
def Nv(x:Str):Option Int:=
 zb (geti x 0) fun y1=>
 zb (Tk (x,[43,45])) fun y2=>
 zD (X:=Str×Int) (
   zb (Ws (y2,[101,69])) fun y3=>
   bif decide (y3>=0)then
    need (decide (0<=w64 (y3+1))&&decide (w64 (y3+1)<=(y2.length:Int)))<|
    zb (Tk (List.drop (w64 (y3+1)).toNat y2,[43,45])) fun y4=>
    need (decide (y4.length<=maxLen))<|
    zX (fun(s5:Int×Int)=>
      bif decide (s5.2<(y4.length:Int))then
       need (decide (0<=s5.2)&&decide (s5.2<(y4.length:Int)))<|
       zb y4[s5.2.toNat]? fun y6=>
       some (LO.again (if 1048576<w64 (w64 (10*s5.1)+w64 (wu8 ((y6.toNat:Int) - 48)))then 1048576 else w64 (w64 (10*s5.1)+w64 (wu8 ((y6.toNat:Int) - 48))),w64 (s5.2+1)))
      else
       some (LO.out s5.1):Int×Int->Option (LO (Int×Int) (Int) _)) (0,0) fun o7=>
    zD (X:=Str×Int×Int) (
      zb (geti y2 (w64 (y3+1))) fun y8=>
      bif (y8.toNat:Int)==45 then
       some (LX.out (y2,3,w64 (0 - o7)))
      else
       some (LX.out (y2,3,o7))) fun j9=>
    need (decide (0<=y3)&&decide (y3<=(j9.1.length:Int)))<|
    some (LX.out (List.take y3.toNat j9.1,w64 (j9.2.1+j9.2.2)))
   else
    some (LX.out (y2,3))) fun j10=>
 zb (cutF (j10.1,[46])) fun y11=>
 need (qZ y11.1.length y11.2.1.length)<|
 zD (X:=Str×Int) (
   bif decide (w64 (j10.2 - (y11.2.1.length:Int))<0)then
    need (decide (0<=(if w64 (((y11.1++y11.2.1).length:Int)+w64 (j10.2 - (y11.2.1.length:Int)))>0 then w64 (((y11.1++y11.2.1).length:Int)+w64 (j10.2 - (y11.2.1.length:Int)))else 0))&&decide ((if w64 (((y11.1++y11.2.1).length:Int)+w64 (j10.2 - (y11.2.1.length:Int)))>0 then w64 (((y11.1++y11.2.1).length:Int)+w64 (j10.2 - (y11.2.1.length:Int)))else 0)<=((y11.1++y11.2.1).length:Int)))<|
    some (LX.out (List.take (if w64 (((y11.1++y11.2.1).length:Int)+w64 (j10.2 - (y11.2.1.length:Int)))>0 then w64 (((y11.1++y11.2.1).length:Int)+w64 (j10.2 - (y11.2.1.length:Int)))else 0).toNat (y11.1++y11.2.1),w64 (j10.2 - (y11.2.1.length:Int))))
   else
    some (LX.out (y11.1++y11.2.1,w64 (j10.2 - (y11.2.1.length:Int))))) fun j12=>
 need (decide (j12.1.length<=maxLen))<|
 zX (fun(s13:Int×Int)=>
   bif decide (s13.2<(j12.1.length:Int))then
    need (decide (0<=s13.2)&&decide (s13.2<(j12.1.length:Int)))<|
    zb j12.1[s13.2.toNat]? fun y14=>
    some (LO.again (if 1000000000000<w64 (w64 (10*s13.1)+w64 (wu8 ((y14.toNat:Int) - 48)))then 1000000000000 else w64 (w64 (10*s13.1)+w64 (wu8 ((y14.toNat:Int) - 48))),w64 (s13.2+1)))
   else
    some (LO.out s13.1):Int×Int->Option (LO (Int×Int) (Int) _)) (0,0) fun o15=>
 zX (fun(s16:Int×Int)=>
   bif bif bif decide (s16.1>0)then decide (s16.2>0)else false then decide (s16.2<1000000000000)else false then
    some (LO.again (w64 (s16.1 - 1),if 1000000000000<w64 (10*s16.2)then 1000000000000 else w64 (10*s16.2)))
   else
    some (LO.out s16.2):Int×Int->Option (LO (Int×Int) (Int) _)) (j12.2,o15) fun o17=>
 zD (X:=Int) (
   bif (y1.toNat:Int)==45 then
    some (LX.out (w64 (0 - o17)))
   else
    some (LX.out o17)) fun j18=>
 some j18
def qI(x:za):Option (zf×za):=
 zb (qH x) fun y1=>
 need (decide (0<=x.at_)&&(decide (x.at_<=y1.2.at_)&&decide (y1.2.at_<=(y1.2.s.length:Int))))<|
 zb (Nv (List.drop x.at_.toNat (List.take y1.2.at_.toNat y1.2.s))) fun y2=>
 zD (X:=za×zf×zf) (
   zb (Zf (0,y1.2)) fun y3=>
   bif y3 then
    zb (Zj y1.2) fun y4=>
    some (LX.out (y4.2,(⟨0,[],0,[],false⟩:zf),(⟨12,[],y2,y4.1,y1.1⟩:zf)))
   else
    zb (zg (0,y1.2)) fun y5=>
    bif y5==37 then
     some (LX.out ((⟨y1.2.s,w64 (y1.2.at_+1)⟩:za),(⟨0,[],0,[],false⟩:zf),(⟨11,[],y2,[],false⟩:zf)))
    else
     some (LX.out (y1.2,(⟨0,[],0,[],false⟩:zf),(⟨10,[],y2,[],y1.1⟩:zf)))) fun j6=>
 some (j6.2.2,j6.1)
def qz(x:za):Option (zf×za):=
 zX (fun(s1:za×zf)=>
   zb (zg (0,s1.1)) fun y2=>
   bif y2==(-1)then
    some (LO.ret ((⟨8,[],0,[],false⟩:zf),s1.1))
   else
    zb (zM (0,s1.1)) fun y3=>
    bif y3 then
     zb (qb s1.1) fun y4=>
     some (LO.again (y4.1,s1.2))
    else
     zb (geti s1.1.s (w64 (w64 (s1.1.at_+1) - 1))) fun y5=>
     bif (y5.toNat:Int)==41 then
      some (LO.ret ((⟨8,[],0,[],false⟩:zf),(⟨s1.1.s,w64 (s1.1.at_+1)⟩:za)))
     else
      some (LO.again ((⟨s1.1.s,w64 (s1.1.at_+1)⟩:za),s1.2)):za×zf->Option (LO (za×zf) (Unit) _)) (x,(⟨0,[],0,[],false⟩:zf)) fun o6=>
 none
def Ov(x:za):Option (zf×za):=
 zb (Zg x) fun y1=>
 zX (fun(s2:za×zf×List UInt8)=>
   zb (zg (0,s2.1)) fun y3=>
   zD (X:=Int×za×zf×List UInt8) (
     zb (ZK y3) fun y4=>
     bif y4 then
      zb (Zg s2.1) fun y5=>
      zb (zg (0,y5)) fun y6=>
      bif bif y6 != 41 then y6 != (-1)else false then
       zb (qz y5) fun y7=>
       some (LX.ret (LO.ret (y7.1,y7.2)))
      else
       some (LX.out (y6,y5,s2.2.1,s2.2.2))
     else
      some (LX.out (y3,s2.1,s2.2.1,s2.2.2))) fun j8=>
   bif j8.1==(-1)then
    some (LO.ret ((⟨7,j8.2.2.2,0,[],false⟩:zf),j8.2.1))
   else
    bif j8.1==41 then
     some (LO.ret ((⟨7,j8.2.2.2,0,[],false⟩:zf),(⟨j8.2.1.s,w64 (j8.2.1.at_+1)⟩:za)))
    else
     zb (zo (!(bif bif bif bif j8.1==34 then true else j8.1==39 then true else j8.1==40 then true else decide (j8.1<=8)then true else j8.1==11)) (Qh (j8.1,14,31)) (default:Bool)) fun y9=>
     bif bif bif bif bif bif bif j8.1==34 then true else j8.1==39 then true else j8.1==40 then true else decide (j8.1<=8)then true else j8.1==11 then true else y9 then true else j8.1==127 then
      zb (qz j8.2.1) fun y10=>
      some (LO.ret (y10.1,y10.2))
     else
      bif j8.1 != 92 then
       zb (ZQ (wu8 j8.1)) fun y11=>
       need (zR j8.2.2.2.length 1 1)<|
       some (LO.again ((⟨j8.2.1.s,w64 (j8.2.1.at_+1)⟩:za),j8.2.2.1,j8.2.2.2++[y11]))
      else
       zb (zM (0,j8.2.1)) fun y12=>
       bif y12 then
        zb (z8 (j8.2.1,j8.2.2.2)) fun y13=>
        some (LO.again (y13.1,j8.2.2.1,y13.2))
       else
        zb (qz j8.2.1) fun y14=>
        some (LO.ret (y14.1,y14.2)):za×zf×List UInt8->Option (LO (za×zf×List UInt8) (Unit) _)) (y1,(⟨0,[],0,[],false⟩:zf),[]) fun o15=>
 none
def Qx(x:za):Option (zf×za):=
 zb (Zj x) fun y1=>
 zb (zg (0,y1.2)) fun y2=>
 bif y2 != 40 then
  some ((⟨1,y1.1,0,[],false⟩:zf),y1.2)
 else
  zD (X:=za×zf) (
    zb (ZU (y1.1,[117,114,108])) fun y3=>
    bif y3 then
     zb (Zg (⟨y1.2.s,w64 (y1.2.at_+1)⟩:za)) fun y4=>
     zb (zg (0,y4)) fun y5=>
     bif bif y5 != 34 then y5 != 39 else false then
      zb (Ov (⟨y1.2.s,w64 (y1.2.at_+1)⟩:za)) fun y6=>
      some (LX.ret (y6.1,y6.2))
     else
      some (LX.out ((⟨y1.2.s,w64 (y1.2.at_+1)⟩:za),(⟨0,[],0,[],false⟩:zf)))
    else
     some (LX.out ((⟨y1.2.s,w64 (y1.2.at_+1)⟩:za),(⟨0,[],0,[],false⟩:zf)))) fun j7=>
  some ((⟨2,y1.1,0,[],false⟩:zf),j7.1)
def QV(x:za):Option (zf×za):=
 zb (zg (0,x)) fun y1=>
 need (decide (0<=x.at_)&&decide (x.at_<=(x.s.length:Int)))<|
 zb (ZK y1) fun y2=>
 bif y2 then
  zb (Zg x) fun y3=>
  some ((⟨13,[],0,[],false⟩:zf),y3)
 else
  bif bif y1==34 then true else y1==39 then
   zb (Qa x) fun y4=>
   some (y4.1,y4.2)
  else
   zb (zo (y1==35) (zg (1,x)) (default:Int)) fun y5=>
   zb (zo (y1==35) (Vl y5) (default:Bool)) fun y6=>
   zb (zo (!y6&&y1==35) (zM (1,x)) (default:Bool)) fun y7=>
   bif bif y1==35 then bif y6 then true else y7 else false then
    zb (Zf (1,x)) fun y8=>
    zb (Zj (⟨x.s,w64 (x.at_+1)⟩:za)) fun y9=>
    some ((⟨4,y9.1,0,[],y8⟩:zf),y9.2)
   else
    zb (UA x) fun y10=>
    bif y10 then
     zb (qI x) fun y11=>
     some (y11.1,y11.2)
    else
     zb (strings_HasPrefix (List.drop x.at_.toNat x.s,[45,45,62])) fun y12=>
     bif y12 then
      some ((⟨15,[],0,[],false⟩:zf),(⟨x.s,w64 (x.at_+3)⟩:za))
     else
      zb (strings_HasPrefix (List.drop x.at_.toNat x.s,[60,33,45,45])) fun y13=>
      bif y13 then
       some ((⟨14,[],0,[],false⟩:zf),(⟨x.s,w64 (x.at_+4)⟩:za))
      else
       zb (zo (y1==64) (Zf (1,x)) (default:Bool)) fun y14=>
       bif bif y1==64 then y14 else false then
        zb (Zj (⟨x.s,w64 (x.at_+1)⟩:za)) fun y15=>
        some ((⟨3,y15.1,0,[],false⟩:zf),y15.2)
       else
        zb (Zf (0,x)) fun y16=>
        bif y16 then
         zb (Qx x) fun y17=>
         some (y17.1,y17.2)
        else
         zb (strings_IndexByte ([58,59,44,91,93,40,41,123,125],wu8 y1)) fun y18=>
         bif decide (y18>=0)then
          some ((⟨wu8 (16+wu8 y18),[],0,[],false⟩:zf),(⟨x.s,w64 (x.at_+1)⟩:za))
         else
          need (decide (1<=((List.drop x.at_.toNat x.s).length:Int)))<|
          some ((⟨9,List.take 1 (List.drop x.at_.toNat x.s),0,[],false⟩:zf),(⟨x.s,w64 (x.at_+1)⟩:za))
def BA(x:(zf×Int×Int)×List zf):Option (List zf):=
 need (zR x.2.length 1 56)<|
 some (x.2++[x.1.1])
def eu(x:Str):Option (Int×List zf):=
 zb (Pn x) fun y1=>
 bif y1.2 != 0 then
  some (y1.2,[])
 else
  zb (ZO (⟨y1.1,0⟩:za)) fun y2=>
  zX (fun(s3:Int×List zf×za)=>
    bif decide (s3.2.2.at_<(y1.1.length:Int))then
     bif decide (w64 (s3.1+1)>1500)then
      some (LO.ret (4,s3.2.1))
     else
      zb (QV s3.2.2) fun y4=>
      zb (BA ((y4.1,s3.2.2.at_,y4.2.at_),s3.2.1)) fun y5=>
      zb (ZO y4.2) fun y6=>
      some (LO.again (w64 (s3.1+1),y5,y6))
    else
     some (LO.out (s3.2.1,s3.2.2)):Int×List zf×za->Option (LO (Int×List zf×za) (List zf×za) _)) (0,[],y2) fun o7=>
  some (0,o7.1)
def Wl(x:Str):Option (List zf×Int):=
 zb (eu x) fun y1=>
 bif y1.1 != 0 then
  some ([],y1.1)
 else
  some (y1.2,0)
def QU(x:List zf×List zf):Option Bool:=
 bif (x.1.length:Int) != (x.2.length:Int)then
  some false
 else
  zX (fun(s1:Int)=>
    bif decide (s1<(x.1.length:Int))then
     zb (geti x.1 s1) fun y2=>
     zb (geti x.2 s1) fun y3=>
     bif !(y2.kind==y3.kind&&(y2.text==y3.text&&(y2.num==y3.num&&(y2.unit==y3.unit&&(y2.flag==y3.flag&&true)))))then
      some (LO.ret false)
     else
      some (LO.again (w64 (s1+1)))
    else
     some (LO.out ()):Int->Option (LO (Int) (Unit) _)) 0 fun o4=>
  some true
def Pt(x:List zf):Option (Str×Int):=
 zb (QF x) fun y1=>
 bif y1 != 0 then
  some ([],y1)
 else
  zX (fun(s2:Int×List UInt8×List zP)=>
    bif decide (s2.1<(x.length:Int))then
     need (decide (0<=s2.1)&&decide (s2.1<=(x.length:Int)))<|
     zb (Xi (List.drop s2.1.toNat x)) fun y3=>
     need (decide (0<=s2.1)&&(decide (s2.1<=w64 (s2.1+y3))&&decide (w64 (s2.1+y3)<=(x.length:Int))))<|
     zX (fun(s4:Int×List UInt8)=>
       bif decide (s4.1<((List.drop s2.1.toNat (List.take (w64 (s2.1+y3)).toNat x)).length:Int))then
        zb (geti (List.drop s2.1.toNat (List.take (w64 (s2.1+y3)).toNat x)) s4.1) fun y5=>
        zb (Lu (y5,s4.2)) fun y6=>
        some (LO.again (w64 (s4.1+1),y6))
       else
        some (LO.out s4.2):Int×List UInt8->Option (LO (Int×List UInt8) (List UInt8) _)) (0,[]) fun o7=>
     zD (X:=Int×List UInt8×List zP×List UInt8) (
       zb (geti x s2.1) fun y8=>
       bif bif y8.kind==9 then y3==2 else false then
        some (LX.out (s2.1,s2.2.1,s2.2.2,[(92:UInt8),(10:UInt8)]))
       else
        some (LX.out (s2.1,s2.2.1,s2.2.2,o7))) fun j9=>
     zD (X:=Int×List UInt8×List zP×zP) (
       bif decide (w64 ((j9.2.2.1.length:Int) - 4)>=0)then
        need (decide (0<=w64 ((j9.2.2.1.length:Int) - 4))&&decide (w64 ((j9.2.2.1.length:Int) - 4)<(j9.2.2.1.length:Int)))<|
        zb (j9.2.2.1[(w64 ((j9.2.2.1.length:Int) - 4)).toNat]?) fun y10=>
        some (LX.out (j9.1,j9.2.1,j9.2.2.1,y10))
       else
        some (LX.out (j9.1,j9.2.1,j9.2.2.1,(⟨0,0⟩:zP)))) fun j11=>
     need (decide (0<=j11.2.2.2.at_)&&decide (j11.2.2.2.at_<=(j11.2.1.length:Int)))<|
     need (decide (j11.2.2.2.at_.toNat+(j11.2.1.length - j11.2.2.2.at_.toNat)<=j11.2.1.length))<|
     need (qZ (List.take (j11.2.1.length - j11.2.2.2.at_.toNat) (List.drop j11.2.2.2.at_.toNat j11.2.1)).length j9.2.2.2.length)<|
     zb (Wl (List.take (j11.2.1.length - j11.2.2.2.at_.toNat) (List.drop j11.2.2.2.at_.toNat j11.2.1)++j9.2.2.2)) fun y12=>
     zD (X:=Int×List zP×List UInt8) (
       need (decide (0<=j11.2.2.2.token)&&(decide (j11.2.2.2.token<=w64 (j11.1+y3))&&decide (w64 (j11.1+y3)<=(x.length:Int)))|| !(!(y12.2 != 0)))<|
       zb (zo (!(y12.2 != 0)) (QU (y12.1,List.drop j11.2.2.2.token.toNat (List.take (w64 (j11.1+y3)).toNat x))) (default:Bool)) fun y13=>
       bif bif y12.2 != 0 then true else !y13 then
        need (zR j11.2.1.length ([47,42,42,47]:Str).length 1)<|
        some (LX.out (j11.1,j11.2.2.1,j11.2.1++([47,42,42,47]:Str)))
       else
        some (LX.out (j11.1,j11.2.2.1,j11.2.1))) fun j14=>
     need (zR j14.2.1.length 1 16)<|
     need (zR j14.2.2.length j9.2.2.2.length 1)<|
     bif decide (((j14.2.2++j9.2.2.2).length:Int)>4000)then
      some (LO.ret ([],28))
     else
      some (LO.again (w64 (j14.1+y3),j14.2.2++j9.2.2.2,j14.2.1++[(⟨j14.1,(j14.2.2.length:Int)⟩:zP)]))
    else
     some (LO.out s2.2.1):Int×List UInt8×List zP->Option (LO (Int×List UInt8×List zP) (List UInt8) _)) (0,[],[]) fun o15=>
  some (o15,0)
def Rs(x:List ze):Option (Str×Int):=
 zb (ZF x) fun y1=>
 bif y1 != 0 then
  some ([],y1)
 else
  zb (Q0 x) fun y2=>
  zb (Pt y2) fun y3=>
  some (y3.1,y3.2)
def Jt(x:zA):Option (Str×Int):=
 zb (QE x) fun y1=>
 bif y1 != 0 then
  some ([],y1)
 else
  zb (Kl x.name) fun y2=>
  bif y2.2 != 0 then
   some ([],y2.2)
  else
   zb (Rs x.value) fun y3=>
   bif y3.2 != 0 then
    some ([],y3.2)
   else
    need (qZ y2.1.length ([58,32]:Str).length)<|
    need (qZ (y2.1++([58,32]:Str)).length y3.1.length)<|
    zD (X:=Str) (
      bif x.important then
       need (qZ (y2.1++([58,32]:Str)++y3.1).length ([32,33,105,109,112,111,114,116,97,110,116]:Str).length)<|
       some (LX.out (y2.1++([58,32]:Str)++y3.1++([32,33,105,109,112,111,114,116,97,110,116]:Str)))
      else
       some (LX.out (y2.1++([58,32]:Str)++y3.1))) fun j4=>
    bif decide ((j4.length:Int)>4000)then
     some ([],28)
    else
     some (j4,0)
def Qm(zu:zh×Bool->Option (Str×Bool))(x:zh×Bool):Option (Str×Bool):=
 zb (zu ((⟨x.1.kind,x.1.name,x.1.num,x.1.decl,x.1.list⟩:zh),x.2)) fun y1=>
 zb (Vi (⟨x.1.kind,x.1.name,x.1.num,x.1.decl,x.1.list⟩:zh)) fun y2=>
 bif y2 then
  some (y1.1,y1.2)
 else
  need (qZ ([40]:Str).length y1.1.length)<|
  need (qZ (([40]:Str)++y1.1).length ([41]:Str).length)<|
  some (([40]:Str)++y1.1++([41]:Str),y1.2)
def Jp(zu:zh×Bool->Option (Str×Bool))(x:(List zh×Str)×Bool):Option (Str×Bool):=
 zX (fun(s1:Int×Bool×List Str)=>
   bif decide (s1.1<(x.1.1.length:Int))then
    zb (geti x.1.1 s1.1) fun y2=>
    zb (Qm zu ((⟨y2.kind,y2.name,y2.num,y2.decl,y2.list⟩:zh),s1.2.1)) fun y3=>
    need (zR s1.2.2.length 1 16)<|
    some (LO.again (w64 (s1.1+1),y3.2,s1.2.2++[y3.1]))
   else
    some (LO.out (s1.2.1,s1.2.2)):Int×Bool×List Str->Option (LO (Int×Bool×List Str) (Bool×List Str) _)) (0,x.2,[]) fun o4=>
 zb (lh (o4.2,x.1.2)) fun y5=>
 some (y5,o4.1)
def Dv(zu:zh×Bool->Option (Str×Bool))(x:zh×Bool):Option (Str×Bool):=
 bif x.1.kind==7 then
  zb (Jt x.1.decl) fun y1=>
  need (qZ ([40]:Str).length y1.1.length)<|
  need (qZ (([40]:Str)++y1.1).length ([41]:Str).length)<|
  some (([40]:Str)++y1.1++([41]:Str),bif x.2 then true else y1.2 != 0)
 else
  bif x.1.kind==8 then
   some ([40,117,110,107,110,111,119,110,41],x.2)
  else
   bif x.1.kind==3 then
    zb (geti x.1.list 0) fun y2=>
    zb (Qm zu ((⟨y2.kind,y2.name,y2.num,y2.decl,y2.list⟩:zh),x.2)) fun y3=>
    need (qZ ([110,111,116,32]:Str).length y3.1.length)<|
    some (([110,111,116,32]:Str)++y3.1,y3.2)
   else
    bif x.1.kind==2 then
     zb (Jp zu ((x.1.list,[32,111,114,32]),x.2)) fun y4=>
     some (y4.1,y4.2)
    else
     zb (Jp zu ((x.1.list,[32,97,110,100,32]),x.2)) fun y5=>
     some (y5.1,y5.2)
def zu:zh×Bool->Option (Str×Bool):=recE (Dv)
def Jl(x:zh):Option (Str×Int):=
 zb (ah (⟨x.kind,x.name,x.num,x.decl,x.list⟩:zh)) fun y1=>
 bif y1 != 0 then
  some ([],y1)
 else
  zD (X:=Str×Bool) (
    zb (Z5 (⟨x.kind,x.name,x.num,x.decl,x.list⟩:zh)) fun y2=>
    bif y2==0 then
     zb (zW (⟨x.kind,x.name,x.num,x.decl,x.list⟩:zh)) fun y3=>
     some (LX.out (y3,false))
    else
     zb (zu ((⟨x.kind,x.name,x.num,x.decl,x.list⟩:zh),false)) fun y4=>
     some (LX.out (y4.1,y4.2))) fun j5=>
  bif bif j5.2 then true else decide ((j5.1.length:Int)>4000)then
   some ([],28)
  else
   some (j5.1,0)
def Qu(x:zh):Option Int:=
 zb (Tv (⟨x.kind,x.name,x.num,x.decl,x.list⟩:zh)) fun y1=>
 bif !y1 then
  some 8
 else
  some 0
def Dz(Bi:List ze×List ze->Option Bool)(x:List ze×List ze):Option Bool:=
 bif (x.1.length:Int) != (x.2.length:Int)then
  some false
 else
  zX (fun(s1:Int)=>
    bif decide (s1<(x.1.length:Int))then
     zb (geti x.1 s1) fun y2=>
     zb (geti x.2 s1) fun y3=>
     zb (zo (!(!(y2.token.kind==y3.token.kind&&(y2.token.text==y3.token.text&&(y2.token.num==y3.token.num&&(y2.token.unit==y3.token.unit&&(y2.token.flag==y3.token.flag&&true))))))) (geti x.1 s1) (default:ze)) fun y4=>
     zb (zo (!(!(y2.token.kind==y3.token.kind&&(y2.token.text==y3.token.text&&(y2.token.num==y3.token.num&&(y2.token.unit==y3.token.unit&&(y2.token.flag==y3.token.flag&&true))))))) (geti x.2 s1) (default:ze)) fun y5=>
     zb (zo (!(!(y2.token.kind==y3.token.kind&&(y2.token.text==y3.token.text&&(y2.token.num==y3.token.num&&(y2.token.unit==y3.token.unit&&(y2.token.flag==y3.token.flag&&true))))))) (Bi (y4.list,y5.list)) (default:Bool)) fun y6=>
     bif bif !(y2.token.kind==y3.token.kind&&(y2.token.text==y3.token.text&&(y2.token.num==y3.token.num&&(y2.token.unit==y3.token.unit&&(y2.token.flag==y3.token.flag&&true)))))then true else !y6 then
      some (LO.ret false)
     else
      some (LO.again (w64 (s1+1)))
    else
     some (LO.out ()):Int->Option (LO (Int) (Unit) _)) 0 fun o7=>
  some true
def Bi:List ze×List ze->Option Bool:=recE (Dz)
def Cu(x:zA×zA):Option Bool:=
 zb (zo (bif x.1.name==x.2.name then x.1.important==x.2.important else false) (Bi (x.1.value,x.2.value)) (default:Bool)) fun y1=>
 some (bif bif x.1.name==x.2.name then x.1.important==x.2.important else false then y1 else false)
def mo(x:List zA×List zA):Option Bool:=
 bif (x.1.length:Int) != (x.2.length:Int)then
  some false
 else
  zX (fun(s1:Int)=>
    bif decide (s1<(x.1.length:Int))then
     zb (geti x.1 s1) fun y2=>
     zb (geti x.2 s1) fun y3=>
     zb (Cu (y2,y3)) fun y4=>
     bif !y4 then
      some (LO.ret false)
     else
      some (LO.again (w64 (s1+1)))
    else
     some (LO.out ()):Int->Option (LO (Int) (Unit) _)) 0 fun o5=>
  some true
def jl(x:Str):Option (List ze):=
 zb (Wl x) fun y1=>
 zb (parseF y1.1) fun y2=>
 bif bif y1.2 != 0 then true else y2.2 != 0 then
  some []
 else
  some y2.1
def Nt(x:List ze×Int):Option (List (List ze)×Int):=
 zb (ZF x.1) fun y1=>
 bif y1 != 0 then
  some ([],y1)
 else
  bif bif decide (x.2<1)then true else decide (x.2>24)then
   some ([],2)
  else
   zX (fun(s2:(Int×Int)×List (List ze))=>
     bif decide (s2.1.2<(x.1.length:Int))then
      zD (X:=(Int×Int)×List (List ze)) (
        zb (geti x.1 s2.1.2) fun y3=>
        bif y3.token.kind==x.2 then
         need (decide (0<=s2.1.1)&&(decide (s2.1.1<=s2.1.2)&&(decide (s2.1.2<=s2.1.2)&&decide (s2.1.2<=(x.1.length:Int))))&&decide (s2.1.2=s2.1.2))<|
         zb (Z8 (List.drop s2.1.1.toNat (List.take s2.1.2.toNat x.1))) fun y4=>
         need (zR s2.2.length 1 24)<|
         some (LX.out ((w64 (s2.1.2+1),s2.1.2),s2.2++[y4]))
        else
         some (LX.out ((s2.1.1,s2.1.2),s2.2))) fun j5=>
      some (LO.again ((j5.1.1,w64 (j5.1.2+1)),j5.2))
     else
      some (LO.out (s2.1.1,s2.2)):(Int×Int)×List (List ze)->Option (LO ((Int×Int)×List (List ze)) (Int×List (List ze)) _)) ((0,0),[]) fun o6=>
   need (decide (0<=o6.1)&&decide (o6.1<=(x.1.length:Int)))<|
   zb (Z8 (List.drop o6.1.toNat x.1)) fun y7=>
   need (zR o6.2.length 1 24)<|
   some (o6.2++[y7],0)
def zH(x:zk):Option Int:=
 bif (x.v.length:Int)==0 then
  some 0
 else
  zb (geti x.v 0) fun y1=>
  some y1.token.kind
def zI(x:zk):Option (ze×zk):=
 zb (geti x.v 0) fun y1=>
 need (decide (1<=(x.v.length:Int)))<|
 some ((⟨y1.token,y1.list⟩:ze),(⟨List.drop 1 x.v⟩:zk))
def zy(x:zk):Option (Bool×zk):=
 zX (fun(s1:zk)=>
   zb (zH s1) fun y2=>
   bif y2==13 then
    zb (zI s1) fun y3=>
    some (LO.again y3.2)
   else
    some (LO.out s1):zk->Option (LO (zk) (zk) _)) x fun o4=>
 some (decide ((o4.v.length:Int)<(x.v.length:Int)),o4)
def Zn(x:List Str×zk):Option (Str×zk):=
 zX (fun(s1:Int×zk)=>
   bif decide (s1.1<(x.1.length:Int))then
    zb (geti x.1 s1.1) fun y2=>
    zb (zH s1.2) fun y3=>
    zb (zo (y3==1) (geti s1.2.v 0) (default:ze)) fun y4=>
    zb (zo (y3==1) (ZU (y4.token.text,y2)) (default:Bool)) fun y5=>
    bif bif y3==1 then y5 else false then
     zb (zI s1.2) fun y6=>
     some (LO.ret (y2,y6.2))
    else
     some (LO.again (w64 (s1.1+1),s1.2))
   else
    some (LO.out s1.2):Int×zk->Option (LO (Int×zk) (zk) _)) (0,x.2) fun o7=>
 some ([],o7)
def qw(x:zk):Option ((zh×Bool)×zk):=
 zb (zH x) fun y1=>
 bif y1 != 21 then
  some (((⟨0,[],0,(⟨[],[],false⟩:zA),[]⟩:zh),false),x)
 else
  zb (zI x) fun y2=>
  zb (zy (⟨y2.1.list⟩:zk)) fun y3=>
  zD (X:=(Int×Str×Int×Str×Bool)×zk×(Int×Str×Int×Str×Bool)) (
    zb (Zn ([[109,105,110,45,119,105,100,116,104],[109,97,120,45,119,105,100,116,104]],y3.2)) fun y4=>
    bif y4.1==[]then
     some (LX.ret (((⟨5,[],0,(⟨[],[],false⟩:zA),[]⟩:zh),false),y2.2))
    else
     bif y4.1==[109,97,120,45,119,105,100,116,104]then
      some (LX.out ((0,[],0,[],false),y4.2,(6,[],0,[],false)))
     else
      some (LX.out ((0,[],0,[],false),y4.2,(5,[],0,[],false)))) fun j5=>
  zb (zy j5.2.1) fun y6=>
  zb (zH y6.2) fun y7=>
  bif y7 != 16 then
   some (((⟨j5.2.2.1,j5.2.2.2.1,j5.2.2.2.2.1,(⟨j5.2.2.2.2.2.1,[],j5.2.2.2.2.2.2⟩:zA),[]⟩:zh),false),y2.2)
  else
   zb (zI y6.2) fun y8=>
   zb (zy y8.2) fun y9=>
   zb (zH y9.2) fun y10=>
   zb (zo (y10 != 12) (zH y9.2) (default:Int)) fun y11=>
   bif bif y10 != 12 then y11 != 10 else false then
    some (((⟨j5.2.2.1,j5.2.2.2.1,j5.2.2.2.2.1,(⟨j5.2.2.2.2.2.1,[],j5.2.2.2.2.2.2⟩:zA),[]⟩:zh),false),y2.2)
   else
    zb (zI y9.2) fun y12=>
    zb (zy y12.2) fun y13=>
    zb (zo (y12.1.token.kind==12) (ZU (y12.1.token.unit,[112,120])) (default:Bool)) fun y14=>
    zb (zo (bif bif bif y12.1.token.kind==12 then y14 else false then true else bif y12.1.token.kind==10 then y12.1.token.num==0 else false then decide (y12.1.token.num>=0)else false) (QY y12.1.token.num) (default:Int)) fun y15=>
    some (((⟨j5.2.2.1,j5.2.2.2.1,y12.1.token.num,(⟨j5.2.2.2.2.2.1,[],j5.2.2.2.2.2.2⟩:zA),[]⟩:zh),bif bif bif bif bif y12.1.token.kind==12 then y14 else false then true else bif y12.1.token.kind==10 then y12.1.token.num==0 else false then decide (y12.1.token.num>=0)else false then y15==0 else false then(y13.2.v.length:Int)==0 else false),y2.2)
def Rv(x:zk):Option ((zh×Bool)×zk):=
 zb (zy x) fun y1=>
 zb (Zn ([[110,111,116],[111,110,108,121]],y1.2)) fun y2=>
 zb (zy y2.2) fun y3=>
 zD (X:=zk×(Int×Str×Int×Str×Bool)×(Int×Str×Int×Str×Bool)×List zh) (
   zb (zH y3.2) fun y4=>
   bif y4==1 then
    zb (zI y3.2) fun y5=>
    zb (ZH y5.1.token.text) fun y6=>
    zb (QW y6) fun y7=>
    bif !y7 then
     some (LX.ret (((⟨1,[],0,(⟨[],[],false⟩:zA),[]⟩:zh),false),y5.2))
    else
     need (zR 0 1 104)<|
     some (LX.out (y5.2,(0,[],0,[],false),(1,[],0,[],false),[(⟨4,y6,0,(⟨[],[],false⟩:zA),[]⟩:zh)]))
   else
    zb (qw y3.2) fun y8=>
    bif bif !y8.1.2 then true else !(y2.1==[])then
     some (LX.ret (((⟨1,[],0,(⟨[],[],false⟩:zA),[]⟩:zh),false),y8.2))
    else
     need (zR 0 1 104)<|
     some (LX.out (y8.2,(0,[],0,[],false),(1,[],0,[],false),[(⟨y8.1.1.kind,y8.1.1.name,y8.1.1.num,y8.1.1.decl,y8.1.1.list⟩:zh)]))) fun j9=>
 zb (zy j9.1) fun y10=>
 zX (fun(s11:zk×(Int×Str×Int×Str×Bool)×(Int×Str×Int×Str×Bool)×List zh)=>
   bif decide ((s11.1.v.length:Int)>0)then
    zb (Zn ([[97,110,100]],s11.1)) fun y12=>
    bif y12.1==[]then
     some (LO.ret (((⟨s11.2.2.1.1,s11.2.2.1.2.1,s11.2.2.1.2.2.1,(⟨s11.2.2.1.2.2.2.1,[],s11.2.2.1.2.2.2.2⟩:zA),s11.2.2.2⟩:zh),false),y12.2))
    else
     zb (zy y12.2) fun y13=>
     zb (qw y13.2) fun y14=>
     bif !y14.1.2 then
      some (LO.ret (((⟨s11.2.2.1.1,s11.2.2.1.2.1,s11.2.2.1.2.2.1,(⟨s11.2.2.1.2.2.2.1,[],s11.2.2.1.2.2.2.2⟩:zA),s11.2.2.2⟩:zh),false),y14.2))
     else
      need (zR s11.2.2.2.length 1 104)<|
      zb (zy y14.2) fun y15=>
      some (LO.again (y15.2,(s11.2.1.1,s11.2.1.2.1,s11.2.1.2.2.1,s11.2.1.2.2.2.1,s11.2.1.2.2.2.2),(s11.2.2.1.1,s11.2.2.1.2.1,s11.2.2.1.2.2.1,s11.2.2.1.2.2.2.1,s11.2.2.1.2.2.2.2),s11.2.2.2++[(⟨y14.1.1.kind,y14.1.1.name,y14.1.1.num,y14.1.1.decl,y14.1.1.list⟩:zh)]))
   else
    some (LO.out (s11.1,(s11.2.1.1,s11.2.1.2.1,s11.2.1.2.2.1,s11.2.1.2.2.2.1,s11.2.1.2.2.2.2),(s11.2.2.1.1,s11.2.2.1.2.1,s11.2.2.1.2.2.1,s11.2.2.1.2.2.2.1,s11.2.2.1.2.2.2.2),s11.2.2.2)):zk×(Int×Str×Int×Str×Bool)×(Int×Str×Int×Str×Bool)×List zh->Option (LO (zk×(Int×Str×Int×Str×Bool)×(Int×Str×Int×Str×Bool)×List zh) (zk×(Int×Str×Int×Str×Bool)×(Int×Str×Int×Str×Bool)×List zh) _)) (y10.2,(j9.2.1.1,j9.2.1.2.1,j9.2.1.2.2.1,j9.2.1.2.2.2.1,j9.2.1.2.2.2.2),(j9.2.2.1.1,j9.2.2.1.2.1,j9.2.2.1.2.2.1,j9.2.2.1.2.2.2.1,j9.2.2.1.2.2.2.2),j9.2.2.2) fun o16=>
 zD (X:=(Int×Str×Int×Str×Bool)×(Int×Str×Int×Str×Bool×List zh)) (
   bif y2.1==[110,111,116]then
    some (LX.out ((o16.2.1.1,o16.2.1.2.1,o16.2.1.2.2.1,o16.2.1.2.2.2.1,o16.2.1.2.2.2.2),(3,[],0,[],false,[(⟨o16.2.2.1.1,o16.2.2.1.2.1,o16.2.2.1.2.2.1,(⟨o16.2.2.1.2.2.2.1,[],o16.2.2.1.2.2.2.2⟩:zA),o16.2.2.2⟩:zh)])))
   else
    some (LX.out ((o16.2.1.1,o16.2.1.2.1,o16.2.1.2.2.1,o16.2.1.2.2.2.1,o16.2.1.2.2.2.2),(o16.2.2.1.1,o16.2.2.1.2.1,o16.2.2.1.2.2.1,o16.2.2.1.2.2.2.1,o16.2.2.1.2.2.2.2,o16.2.2.2)))) fun j17=>
 some (((⟨j17.2.1,j17.2.2.1,j17.2.2.2.1,(⟨j17.2.2.2.2.1,[],j17.2.2.2.2.2.1⟩:zA),j17.2.2.2.2.2.2⟩:zh),true),o16.1)
def Tt(x:List ze):Option (zh×Int):=
 zb (Nt (x,18)) fun y1=>
 bif y1.2 != 0 then
  some ((⟨0,[],0,(⟨[],[],false⟩:zA),[]⟩:zh),y1.2)
 else
  zD (X:=Int×Str×Int×Str×Bool) (
    bif (y1.1.length:Int)==1 then
     zb (zy (⟨x⟩:zk)) fun y2=>
     bif (y2.2.v.length:Int)==0 then
      some (LX.ret ((⟨1,[],0,(⟨[],[],false⟩:zA),[]⟩:zh),0))
     else
      some (LX.out (0,[],0,[],false))
    else
     some (LX.out (0,[],0,[],false))) fun j3=>
  bif decide ((y1.1.length:Int)>64)then
   some ((⟨0,[],0,(⟨[],[],false⟩:zA),[]⟩:zh),4)
  else
   zX (fun(s4:Int×(Int×Str×Int×Str×Bool)×List zh)=>
     bif decide (s4.1<(y1.1.length:Int))then
      zb (geti y1.1 s4.1) fun y5=>
      zb (Rv (⟨y5⟩:zk)) fun y6=>
      zD (X:=(Int×Str×Int×Str×Bool)×List zh×zh) (
        bif !y6.1.2 then
         some (LX.out ((s4.2.1.1,s4.2.1.2.1,s4.2.1.2.2.1,s4.2.1.2.2.2.1,s4.2.1.2.2.2.2),s4.2.2,(⟨3,[],0,(⟨[],[],false⟩:zA),[(⟨1,[],0,(⟨[],[],false⟩:zA),[(⟨4,[97,108,108],0,(⟨[],[],false⟩:zA),[]⟩:zh)]⟩:zh)]⟩:zh)))
        else
         some (LX.out ((s4.2.1.1,s4.2.1.2.1,s4.2.1.2.2.1,s4.2.1.2.2.2.1,s4.2.1.2.2.2.2),s4.2.2,(⟨y6.1.1.kind,y6.1.1.name,y6.1.1.num,y6.1.1.decl,y6.1.1.list⟩:zh)))) fun j7=>
      need (zR j7.2.1.length 1 104)<|
      some (LO.again (w64 (s4.1+1),(j7.1.1,j7.1.2.1,j7.1.2.2.1,j7.1.2.2.2.1,j7.1.2.2.2.2),j7.2.1++[(⟨j7.2.2.kind,j7.2.2.name,j7.2.2.num,j7.2.2.decl,j7.2.2.list⟩:zh)]))
     else
      some (LO.out ((s4.2.1.1,s4.2.1.2.1,s4.2.1.2.2.1,s4.2.1.2.2.2.1,s4.2.1.2.2.2.2),s4.2.2)):Int×(Int×Str×Int×Str×Bool)×List zh->Option (LO (Int×(Int×Str×Int×Str×Bool)×List zh) ((Int×Str×Int×Str×Bool)×List zh) _)) (0,(2,[],0,[],false),[]) fun o8=>
   some ((⟨o8.1.1,o8.1.2.1,o8.1.2.2.1,(⟨o8.1.2.2.2.1,[],o8.1.2.2.2.2⟩:zA),o8.2⟩:zh),0)
def Ku(x:Str×Str×Int×Int):Option Bool:=
 zb (jl x.1) fun y1=>
 zb (Tt y1) fun y2=>
 zb (Jl (⟨y2.1.kind,y2.1.name,y2.1.num,y2.1.decl,y2.1.list⟩:zh)) fun y3=>
 bif bif bif y2.2 != 0 then true else y3.2 != 0 then true else !(y3.1==x.2.1)then
  some false
 else
  zX (fun(s4:Int)=>
    bif decide (s4<30)then
     zb (Yi ((⟨y2.1.kind,y2.1.name,y2.1.num,y2.1.decl,y2.1.list⟩:zh),(⟨s4⟩:VEnv),[])) fun y5=>
     bif bif y5.2 != 0 then true else !(y5.1==(bif decide (s4>=x.2.2.1)then decide (s4<=x.2.2.2)else false))then
      some (LO.ret false)
     else
      some (LO.again (w64 (s4+1)))
    else
     some (LO.out ()):Int->Option (LO (Int) (Unit) _)) 0 fun o6=>
  some true
def Gl(x:List ze):Option (List ze):=
 zX (fun(s1:List ze)=>
   zb (zo (decide ((s1.length:Int)>0)) (geti s1 0) (default:ze)) fun y2=>
   zb (zo (decide ((s1.length:Int)>0)) (ZA ((⟨y2.token,y2.list⟩:ze),13)) (default:Bool)) fun y3=>
   bif bif decide ((s1.length:Int)>0)then y3 else false then
    need (decide (1<=(s1.length:Int)))<|
    some (LO.again (List.drop 1 s1))
   else
    some (LO.out s1):List ze->Option (LO (List ze) (List ze) _)) x fun o4=>
 some o4
def Ol(x:List ze):Option (List ze):=
 zX (fun(s1:List ze)=>
   zb (zo (decide ((s1.length:Int)>0)) (geti s1 (w64 ((s1.length:Int) - 1))) (default:ze)) fun y2=>
   zb (zo (decide ((s1.length:Int)>0)) (ZA ((⟨y2.token,y2.list⟩:ze),13)) (default:Bool)) fun y3=>
   bif bif decide ((s1.length:Int)>0)then y3 else false then
    need (decide (0<=w64 ((s1.length:Int) - 1))&&decide (w64 ((s1.length:Int) - 1)<=(s1.length:Int)))<|
    some (LO.again (List.take (w64 ((s1.length:Int) - 1)).toNat s1))
   else
    some (LO.out s1):List ze->Option (LO (List ze) (List ze) _)) x fun o4=>
 some o4
def Js(x:List ze):Option (zA×Bool):=
 zb (Gl x) fun y1=>
 zb (Ol y1) fun y2=>
 zb (zo (!((y2.length:Int)==0)) (geti y2 0) (default:ze)) fun y3=>
 zb (zo (!((y2.length:Int)==0)) (ZA ((⟨y3.token,y3.list⟩:ze),1)) (default:Bool)) fun y4=>
 bif bif (y2.length:Int)==0 then true else !y4 then
  some ((⟨[],[],false⟩:zA),false)
 else
  zb (geti y2 0) fun y5=>
  zD (X:=List ze×(Str×Bool)×(Str×Bool)) (
    zb (strings_HasPrefix (y5.token.text,[45,45])) fun y6=>
    bif !y6 then
     zb (ZH y5.token.text) fun y7=>
     some (LX.out (y2,([],false),(y7,false)))
    else
     some (LX.out (y2,([],false),(y5.token.text,false)))) fun j8=>
  need (decide (1<=(j8.1.length:Int)))<|
  zb (Gl (List.drop 1 j8.1)) fun y9=>
  zb (zo (!((y9.length:Int)==0)) (geti y9 0) (default:ze)) fun y10=>
  zb (zo (!((y9.length:Int)==0)) (ZA ((⟨y10.token,y10.list⟩:ze),16)) (default:Bool)) fun y11=>
  bif bif (y9.length:Int)==0 then true else !y11 then
   some ((⟨[],[],false⟩:zA),false)
  else
   need (decide (1<=(y9.length:Int)))<|
   zb (Gl (List.drop 1 y9)) fun y12=>
   zD (X:=List ze×(Str×Bool)×(Str×Bool)) (
     zb (zo (decide (w64 ((y12.length:Int) - 1)>0)) (geti y12 (w64 ((y12.length:Int) - 1))) (default:ze)) fun y13=>
     zb (zo (decide (w64 ((y12.length:Int) - 1)>0)) (ZA ((⟨y13.token,y13.list⟩:ze),1)) (default:Bool)) fun y14=>
     zb (zo (bif decide (w64 ((y12.length:Int) - 1)>0)then y14 else false) (geti y12 (w64 ((y12.length:Int) - 1))) (default:ze)) fun y15=>
     zb (zo (bif decide (w64 ((y12.length:Int) - 1)>0)then y14 else false) (ZU (y15.token.text,[105,109,112,111,114,116,97,110,116])) (default:Bool)) fun y16=>
     bif bif bif decide (w64 ((y12.length:Int) - 1)>0)then y14 else false then y16 else false then
      need (decide (0<=w64 ((y12.length:Int) - 1))&&decide (w64 ((y12.length:Int) - 1)<=(y12.length:Int)))<|
      zb (Ol (List.take (w64 ((y12.length:Int) - 1)).toNat y12)) fun y17=>
      zb (zo (decide ((y17.length:Int)>0)) (geti y17 (w64 ((y17.length:Int) - 1))) (default:ze)) fun y18=>
      zb (zo (decide ((y17.length:Int)>0)) (Hl (⟨y18.token,y18.list⟩:ze)) (default:Bool)) fun y19=>
      bif bif decide ((y17.length:Int)>0)then y19 else false then
       need (decide (0<=w64 ((y17.length:Int) - 1))&&decide (w64 ((y17.length:Int) - 1)<=(y17.length:Int)))<|
       zb (Ol (List.take (w64 ((y17.length:Int) - 1)).toNat y17)) fun y20=>
       some (LX.out (y20,(j8.2.1.1,j8.2.1.2),(j8.2.2.1,true)))
      else
       some (LX.out (y12,(j8.2.1.1,j8.2.1.2),(j8.2.2.1,j8.2.2.2)))
     else
      some (LX.out (y12,(j8.2.1.1,j8.2.1.2),(j8.2.2.1,j8.2.2.2)))) fun j21=>
   zb (og j21.1) fun y22=>
   zb (zo (!(y22.2 != 0)) (QE (⟨j21.2.2.1,y22.1,j21.2.2.2⟩:zA)) (default:Int)) fun y23=>
   bif bif y22.2 != 0 then true else y23 != 0 then
    some ((⟨[],[],false⟩:zA),false)
   else
    some ((⟨j21.2.2.1,y22.1,j21.2.2.2⟩:zA),true)
def Ls(x:List ze):Option (zA×Bool×Int):=
 zb (ZF x) fun y1=>
 bif y1 != 0 then
  some ((⟨[],[],false⟩:zA),false,y1)
 else
  zb (Js x) fun y2=>
  some (y2.1,y2.2,0)
def qR(zw:zk->Option ((zh×Bool)×zk))(x:zk):Option ((zh×Bool)×zk):=
 zb (zH x) fun y1=>
 bif y1==2 then
  zb (zI x) fun y2=>
  some (((⟨8,[],0,(⟨[],[],false⟩:zA),[]⟩:zh),true),y2.2)
 else
  bif y1==21 then
   zb (zI x) fun y3=>
   zb (Ls y3.1.list) fun y4=>
   bif bif y4.2.2==0 then y4.2.1 else false then
    some (((⟨7,[],0,y4.1,[]⟩:zh),true),y3.2)
   else
    zb (zw (⟨y3.1.list⟩:zk)) fun y5=>
    bif y5.1.2 then
     some (((⟨y5.1.1.kind,y5.1.1.name,y5.1.1.num,y5.1.1.decl,y5.1.1.list⟩:zh),true),y3.2)
    else
     some (((⟨8,[],0,(⟨[],[],false⟩:zA),[]⟩:zh),true),y3.2)
  else
   some (((⟨8,[],0,(⟨[],[],false⟩:zA),[]⟩:zh),false),x)
def QK(zw:zk->Option ((zh×Bool)×zk))(x:zk):Option ((zh×Bool)×zk):=
 zb (zy x) fun y1=>
 zb (Zn ([[110,111,116]],y1.2)) fun y2=>
 bif !(y2.1==[])then
  zb (zy y2.2) fun y3=>
  zb (qR zw y3.2) fun y4=>
  zb (zy y4.2) fun y5=>
  some (((⟨3,[],0,(⟨[],[],false⟩:zA),[(⟨y4.1.1.kind,y4.1.1.name,y4.1.1.num,y4.1.1.decl,y4.1.1.list⟩:zh)]⟩:zh),bif bif y4.1.2 then y3.1 else false then(y5.2.v.length:Int)==0 else false),y5.2)
 else
  zb (qR zw y2.2) fun y6=>
  bif !y6.1.2 then
   some (((⟨y6.1.1.kind,y6.1.1.name,y6.1.1.num,y6.1.1.decl,y6.1.1.list⟩:zh),false),y6.2)
  else
   zb (zy y6.2) fun y7=>
   bif (y7.2.v.length:Int)==0 then
    some (((⟨y6.1.1.kind,y6.1.1.name,y6.1.1.num,y6.1.1.decl,y6.1.1.list⟩:zh),true),y7.2)
   else
    zX (fun(s8:Bool×zk×(Int×Str×Int×Str×Bool)×(Int×Str×Int×Str×Bool)×List zh)=>
      bif decide ((s8.2.1.v.length:Int)>0)then
       zb (Zn ([[97,110,100],[111,114]],s8.2.1)) fun y9=>
       bif bif bif (bif y9.1==[97,110,100]then 1 else bif y9.1==[111,114]then 2 else(0:Int))==0 then true else !s8.1 then true else bif s8.2.2.2.1.1 != 0 then s8.2.2.2.1.1 != (bif y9.1==[97,110,100]then 1 else bif y9.1==[111,114]then 2 else(0:Int))else false then
        some (LO.ret (((⟨s8.2.2.2.1.1,s8.2.2.2.1.2.1,s8.2.2.2.1.2.2.1,(⟨s8.2.2.2.1.2.2.2.1,[],s8.2.2.2.1.2.2.2.2⟩:zA),s8.2.2.2.2⟩:zh),false),y9.2))
       else
        zb (zy y9.2) fun y10=>
        zb (qR zw y10.2) fun y11=>
        bif bif !y10.1 then true else !y11.1.2 then
         some (LO.ret (((⟨bif y9.1==[97,110,100]then 1 else bif y9.1==[111,114]then 2 else(0:Int),s8.2.2.2.1.2.1,s8.2.2.2.1.2.2.1,(⟨s8.2.2.2.1.2.2.2.1,[],s8.2.2.2.1.2.2.2.2⟩:zA),s8.2.2.2.2⟩:zh),false),y11.2))
        else
         need (zR s8.2.2.2.2.length 1 104)<|
         zb (zy y11.2) fun y12=>
         some (LO.again (y12.1,y12.2,(s8.2.2.1.1,s8.2.2.1.2.1,s8.2.2.1.2.2.1,s8.2.2.1.2.2.2.1,s8.2.2.1.2.2.2.2),(bif y9.1==[97,110,100]then 1 else bif y9.1==[111,114]then 2 else(0:Int),s8.2.2.2.1.2.1,s8.2.2.2.1.2.2.1,s8.2.2.2.1.2.2.2.1,s8.2.2.2.1.2.2.2.2),s8.2.2.2.2++[(⟨y11.1.1.kind,y11.1.1.name,y11.1.1.num,y11.1.1.decl,y11.1.1.list⟩:zh)]))
      else
       some (LO.out (s8.2.1,(s8.2.2.1.1,s8.2.2.1.2.1,s8.2.2.1.2.2.1,s8.2.2.1.2.2.2.1,s8.2.2.1.2.2.2.2),(s8.2.2.2.1.1,s8.2.2.2.1.2.1,s8.2.2.2.1.2.2.1,s8.2.2.2.1.2.2.2.1,s8.2.2.2.1.2.2.2.2),s8.2.2.2.2)):Bool×zk×(Int×Str×Int×Str×Bool)×(Int×Str×Int×Str×Bool)×List zh->Option (LO (Bool×zk×(Int×Str×Int×Str×Bool)×(Int×Str×Int×Str×Bool)×List zh) (zk×(Int×Str×Int×Str×Bool)×(Int×Str×Int×Str×Bool)×List zh) _)) (y7.1,y7.2,(0,[],0,[],false),(0,[],0,[],false),[(⟨y6.1.1.kind,y6.1.1.name,y6.1.1.num,y6.1.1.decl,y6.1.1.list⟩:zh)]) fun o13=>
    some (((⟨o13.2.2.1.1,o13.2.2.1.2.1,o13.2.2.1.2.2.1,(⟨o13.2.2.1.2.2.2.1,[],o13.2.2.1.2.2.2.2⟩:zA),o13.2.2.2⟩:zh),true),o13.1)
def zw:zk->Option ((zh×Bool)×zk):=recE (QK)
def uu(x:List ze):Option (zh×Int):=
 zb (ZF x) fun y1=>
 bif y1 != 0 then
  some ((⟨0,[],0,(⟨[],[],false⟩:zA),[]⟩:zh),y1)
 else
  zb (zw (⟨x⟩:zk)) fun y2=>
  zb (zo (!(!y2.1.2)) (Ze (⟨y2.1.1.kind,y2.1.1.name,y2.1.1.num,y2.1.1.decl,y2.1.1.list⟩:zh)) (default:Int)) fun y3=>
  bif bif !y2.1.2 then true else y3 != 0 then
   some ((⟨0,[],0,(⟨[],[],false⟩:zA),[]⟩:zh),12)
  else
   some ((⟨y2.1.1.kind,y2.1.1.name,y2.1.1.num,y2.1.1.decl,y2.1.1.list⟩:zh),0)
def oz(x:Int×List Bool):Option (Bool×Int):=
 need (decide (0<=w64 (w64 (x.1+1) - 1))&&decide (w64 (w64 (x.1+1) - 1)<(x.2.length:Int)))<|
 zb (x.2[(w64 (w64 (x.1+1) - 1)).toNat]?) fun y1=>
 some (y1,w64 (x.1+1))
def Gv(Zz:(zh×Int)×Int×List Bool->Option (Bool×Int))(x:(zh×Int)×Int×List Bool):Option (Bool×Int):=
 bif x.1.1.kind==4 then
  some (bif x.1.1.name==[97,108,108]then true else x.1.1.name==[115,99,114,101,101,110],x.2.1)
 else
  bif x.1.1.kind==5 then
   some (decide (x.1.2>=x.1.1.num),x.2.1)
  else
   bif x.1.1.kind==6 then
    some (decide (x.1.2<=x.1.1.num),x.2.1)
   else
    bif x.1.1.kind==7 then
     zb (oz (x.2.1,x.2.2)) fun y1=>
     some (y1.1,y1.2)
    else
     bif x.1.1.kind==8 then
      some (false,x.2.1)
     else
      zX (fun(s2:(Bool×Bool×Int)×Int)=>
        bif decide (s2.1.2.2<(x.1.1.list.length:Int))then
         zb (geti x.1.1.list s2.1.2.2) fun y3=>
         zb (Zz (((⟨y3.kind,y3.name,y3.num,y3.decl,y3.list⟩:zh),x.1.2),s2.2,x.2.2)) fun y4=>
         some (LO.again ((bif s2.1.1 then y4.1 else false,bif s2.1.2.1 then true else y4.1,w64 (s2.1.2.2+1)),y4.2))
        else
         some (LO.out ((s2.1.1,s2.1.2.1),s2.2)):(Bool×Bool×Int)×Int->Option (LO ((Bool×Bool×Int)×Int) ((Bool×Bool)×Int) _)) ((true,false,0),x.2.1) fun o5=>
      bif x.1.1.kind==1 then
       some (o5.1.1,o5.2)
      else
       bif x.1.1.kind==2 then
        some (o5.1.2,o5.2)
       else
        some (!o5.1.2,o5.2)
def Zz:(zh×Int)×Int×List Bool->Option (Bool×Int):=recE (Gv)
def Pp(x:(zh×VEnv)×List Bool):Option (Bool×Int):=
 zb (ah (⟨x.1.1.kind,x.1.1.name,x.1.1.num,x.1.1.decl,x.1.1.list⟩:zh)) fun y1=>
 bif y1 != 0 then
  some (false,y1)
 else
  zb (zo (!(bif decide (x.1.2.width<0)then true else decide (x.1.2.width>1000000000))) (Zw (⟨x.1.1.kind,x.1.1.name,x.1.1.num,x.1.1.decl,x.1.1.list⟩:zh)) (default:List zA)) fun y2=>
  bif bif bif decide (x.1.2.width<0)then true else decide (x.1.2.width>1000000000)then true else(x.2.length:Int) != (y2.length:Int)then
   some (false,2)
  else
   zb (Zz (((⟨x.1.1.kind,x.1.1.name,x.1.1.num,x.1.1.decl,x.1.1.list⟩:zh),w64 (1000*x.1.2.width)),0,x.2)) fun y3=>
   some (y3.1,0)
def Fv(x:Str×Str×Bool×Bool):Option Bool:=
 zb (jl x.1) fun y1=>
 zb (uu y1) fun y2=>
 zb (Jl (⟨y2.1.kind,y2.1.name,y2.1.num,y2.1.decl,y2.1.list⟩:zh)) fun y3=>
 zb (dh (⟨y2.1.kind,y2.1.name,y2.1.num,y2.1.decl,y2.1.list⟩:zh)) fun y4=>
 bif bif bif bif y2.2 != 0 then true else y3.2 != 0 then true else y4.2 != 0 then true else !(y3.1==x.2.1)then
  some false
 else
  need (decide (0<=(y4.1.length:Int))&&decide ((y4.1.length:Int)<=(y4.1.length:Int))&&decide ((y4.1.length:Int)*1<=140737488355328)&&decide ((y4.1.length:Int)<=9223372036854775807))<|
  zb (Pp (((⟨y2.1.kind,y2.1.name,y2.1.num,y2.1.decl,y2.1.list⟩:zh),(⟨0⟩:VEnv)),List.replicate (Int.toNat (y4.1.length:Int)) false)) fun y5=>
  zX (fun(s6:Int×List Bool)=>
    bif decide (s6.1<(s6.2.length:Int))then
     need (decide (0<=s6.1)&&decide (s6.1<(s6.2.length:Int)))<|
     zb s6.2[s6.1.toNat]? fun y7=>
     some (LO.again (w64 (s6.1+1),List.set s6.2 s6.1.toNat true))
    else
     some (LO.out s6.2):Int×List Bool->Option (LO (Int×List Bool) (List Bool) _)) (0,List.replicate (Int.toNat (y4.1.length:Int)) false) fun o8=>
  zb (Pp (((⟨y2.1.kind,y2.1.name,y2.1.num,y2.1.decl,y2.1.list⟩:zh),(⟨0⟩:VEnv)),o8)) fun y9=>
  some (bif bif bif y5.2==0 then y9.2==0 else false then y5.1==x.2.2.2 else false then y9.1==x.2.2.1 else false)
def Ul(x:Unit):Option Bool:=
 zb (Ku ([83,99,114,101,101,110,32,65,78,68,32,40,109,105,110,45,119,105,100,116,104,58,49,48,46,53,112,120,41,44,32,40,102,111,111,41],[115,99,114,101,101,110,32,97,110,100,32,40,109,105,110,45,119,105,100,116,104,58,32,49,48,46,53,112,120,41,44,32,110,111,116,32,97,108,108],11,99)) fun y1=>
 zb (zo y1 (Fv ([110,111,116,32,40,40,97,58,98,41,32,111,114,32,40,99,41,41],[110,111,116,32,40,40,97,58,32,98,41,32,111,114,32,40,117,110,107,110,111,119,110,41,41],false,true)) (default:Bool)) fun y2=>
 some (bif y1 then y2 else false)
def KA(x:zh):Option Bool:=
 zb (Bu (⟨x.kind,x.name,x.num,x.decl,x.list⟩:zh)) fun y1=>
 zb (zo (!y1) (Qu (⟨x.kind,x.name,x.num,x.decl,x.list⟩:zh)) (default:Int)) fun y2=>
 bif bif y1 then true else y2 != 0 then
  zb (Ul ()) fun y3=>
  some y3
 else
  zb (dh (⟨x.kind,x.name,x.num,x.decl,x.list⟩:zh)) fun y4=>
  bif y4.2 != 0 then
   some false
  else
   zX (fun(s5:Int×List zA)=>
     bif decide (s5.1<(x.list.length:Int))then
      zb (geti x.list s5.1) fun y6=>
      zb (dh (⟨y6.kind,y6.name,y6.num,y6.decl,y6.list⟩:zh)) fun y7=>
      bif y7.2 != 0 then
       some (LO.ret false)
      else
       need (zR s5.2.length y7.1.length 48)<|
       some (LO.again (w64 (s5.1+1),s5.2++y7.1))
     else
      some (LO.out s5.2):Int×List zA->Option (LO (Int×List zA) (List zA) _)) (0,[]) fun o8=>
   zD (X:=List zA) (
     bif x.kind==7 then
      some (LX.out [x.decl])
     else
      some (LX.out o8)) fun j9=>
   zX (fun(s10:Int)=>
     bif decide (s10<(y4.1.length:Int))then
      zb (geti y4.1 s10) fun y11=>
      zb (Sj y11) fun y12=>
      bif y12 != 0 then
       some (LO.ret false)
      else
       some (LO.again (w64 (s10+1)))
     else
      some (LO.out ()):Int->Option (LO (Int) (Unit) _)) 0 fun o13=>
   zb (Yi ((⟨x.kind,x.name,x.num,x.decl,x.list⟩:zh),(⟨0⟩:VEnv),[])) fun y14=>
   zb (mo (y4.1,j9)) fun y15=>
   zb (zo (bif y15 then(y14.2==0)==((y4.1.length:Int)==0)else false) (Ul ()) (default:Bool)) fun y16=>
   some (bif bif y15 then(y14.2==0)==((y4.1.length:Int)==0)else false then y16 else false)
end Go.Lv.VT
end
