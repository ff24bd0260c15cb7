/- Texts. -/
import Derived.Test.YtcdeccnjlkkejaaGreatDoorTy
import Derived.Test.YtcdeccnjlkkejaaGreatDoorLf
noncomputable section
set_option linter.unusedSimpArgs false
set_option linter.unusedVariables false
namespace Go.Lv.VT
set_option maxRecDepth 100000
def Br(qV:List zg×Int->Option Int)(x:List zg×Int):Option Int:=
 Za (fun(s1:Int×Int)=>
   bif bif decide (s1.2<(x.1.length:Int))then decide (s1.1<=x.2)else false then
    zb (geti x.1 s1.2) fun y2=>
    zb (geti x.1 s1.2) fun y3=>
    zb (geti x.1 s1.2) fun y4=>
    zb (qV (y4.list,w64 (x.2 - s1.1))) fun y5=>
    some (LO.again (w64 (s1.1+w64 (w64 (w64 (1+(y2.token.text.length:Int))+(y3.token.unit.length:Int))+y5)),w64 (s1.2+1)))
   else
    some (LO.out s1.1):Int×Int->Option (LO (Int×Int) (Int) _)) (0,0) fun o6=>
 some o6
def qV:List zg×Int->Option Int:=recE (Br)
def Qm(x:Int):Option Int:=
 bif x==19 then
  some 20
 else
  zS (X:=Bool) (
    bif x==21 then
     some (LX.out (x==21))
    else
     some (LX.out (x==2))) fun j1=>
  bif j1 then
   some 22
  else
   bif x==23 then
    some 24
   else
    some 0
def iA(Qf:List zg->Option Int)(x:List zg):Option Int:=
 Za (fun(s1:Int×Int)=>
   bif decide (s1.2<(x.length:Int))then
    zS (X:=Int×Int) (
      zb (geti x s1.2) fun y2=>
      zb (Qm y2.token.kind) fun y3=>
      bif y3 != 0 then
       zb (geti x s1.2) fun y4=>
       zb (Qf y4.list) fun y5=>
       some (LX.out (if w64 (1+y5)>s1.1 then w64 (1+y5)else s1.1,s1.2))
      else
       some (LX.out (s1.1,s1.2))) fun j6=>
    some (LO.again (j6.1,w64 (j6.2+1)))
   else
    some (LO.out s1.1):Int×Int->Option (LO (Int×Int) (Int) _)) (0,0) fun o7=>
 some o7
def Qf:List zg->Option Int:=recE (iA)
def Jr(x:List Zj):Option Bool:=
 bif decide ((x.length:Int)>40)then
  some true
 else
  Za (fun(s1:Int×Int)=>
    bif decide (s1.2<(x.length:Int))then
     zb (geti x s1.2) fun y2=>
     zb (geti x s1.2) fun y3=>
     zb (qV (y3.value,300)) fun y4=>
     zb (zq (!(decide (w64 (s1.1+w64 ((y2.name.length:Int)+y4))>300))) (geti x s1.2) (default:Zj)) fun y5=>
     zb (zq (!(decide (w64 (s1.1+w64 ((y2.name.length:Int)+y4))>300))) (Qf y5.value) (default:Int)) fun y6=>
     bif bif decide (w64 (s1.1+w64 ((y2.name.length:Int)+y4))>300)then true else decide (y6>40)then
      some (LO.ret true)
     else
      some (LO.again (w64 (s1.1+w64 ((y2.name.length:Int)+y4)),w64 (s1.2+1)))
    else
     some (LO.out ()):Int×Int->Option (LO (Int×Int) (Unit) _)) (0,0) fun o7=>
  some false
def QF(x:Int):Option Int:=
 bif x==2 then
  some 22
 else
  zS (X:=Bool) (
    bif x==19 then
     some (LX.out (x==19))
    else
     bif x==21 then
      some (LX.out (x==21))
     else
      some (LX.out (x==23))) fun j1=>
  bif j1 then
   some (wu8 (x+1))
  else
   some 0
def bA(Ij:List zg×Int->Option zT)(x:List zg×Int):Option zT:=
 Za (fun(s1:Int×zT)=>
   bif decide (s1.1<(x.1.length:Int))then
    zS (X:=Int×zT) (
      zb (geti x.1 s1.1) fun y2=>
      zb (QF y2.token.kind) fun y3=>
      zS (X:=zT) (
        bif bif bif x.2 != 0 then y2.token.kind==x.2 else false then true else bif y3==0 then decide ((y2.list.length:Int)>0)else false then
         some (LX.out (⟨s1.2.depth,w64 (s1.2.tokens+1),true⟩:zT))
        else
         some (LX.out (⟨s1.2.depth,w64 (s1.2.tokens+1),s1.2.bad⟩:zT))) fun j4=>
      bif y3==0 then
       some (LX.out (s1.1,j4))
      else
       zb (Ij (y2.list,y3)) fun y5=>
       some (LX.out (s1.1,(⟨if w64 (y5.depth+1)>j4.depth then w64 (y5.depth+1)else j4.depth,w64 (w64 (j4.tokens+y5.tokens)+1),bif j4.bad then true else y5.bad⟩:zT)))) fun j6=>
    some (LO.again (w64 (j6.1+1),j6.2))
   else
    some (LO.out s1.2):Int×zT->Option (LO (Int×zT) (zT) _)) (0,(⟨0,0,false⟩:zT)) fun o7=>
 some o7
def Ij:List zg×Int->Option zT:=recE (bA)
def bn(x:List zg):Option Int:=
 zb (Ij (x,0)) fun y1=>
 bif decide (y1.depth>16)then
  some 20
 else
  bif decide (y1.tokens>1500)then
   some 4
  else
   bif y1.bad then
    some 8
   else
    some 0
def EB(Qq:List zg×List ze->Option (List ze))(x:List zg×List ze):Option (List ze):=
 Za (fun(s1:Int×List ze)=>
   bif decide (s1.1<(x.1.length:Int))then
    zS (X:=Int×List ze) (
      zb (geti x.1 s1.1) fun y2=>
      need (Zc s1.2.length 1 56)<|
      zb (QF y2.token.kind) fun y3=>
      bif y3 != 0 then
       zb (Qq (y2.list,s1.2++[y2.token])) fun y4=>
       need (Zc y4.length 1 56)<|
       some (LX.out (s1.1,y4++[(⟨y3,[],0,[],false⟩:ze)]))
      else
       some (LX.out (s1.1,s1.2++[y2.token]))) fun j5=>
    some (LO.again (w64 (j5.1+1),j5.2))
   else
    some (LO.out s1.2):Int×List ze->Option (LO (Int×List ze) (List ze) _)) (0,x.2) fun o6=>
 some o6
def Qq:List zg×List ze->Option (List ze):=recE (EB)
def Xl(x:List zg):Option (List ze):=
 Za (fun(s1:Int×List ze)=>
   bif decide (s1.1<(x.length:Int))then
    zS (X:=Int×List ze) (
      zb (geti x s1.1) fun y2=>
      need (Zc s1.2.length 1 56)<|
      zb (QF y2.token.kind) fun y3=>
      bif y3 != 0 then
       zb (Qq (y2.list,s1.2++[y2.token])) fun y4=>
       need (Zc y4.length 1 56)<|
       some (LX.out (s1.1,y4++[(⟨y3,[],0,[],false⟩:ze)]))
      else
       some (LX.out (s1.1,s1.2++[y2.token]))) fun j5=>
    some (LO.again (w64 (j5.1+1),j5.2))
   else
    some (LO.out s1.2):Int×List ze->Option (LO (Int×List ze) (List ze) _)) (0,[]) fun o6=>
 some o6
def su(x:List zg):Option (List ze×Int):=
 zb (bn x) fun y1=>
 bif y1 != 0 then
  some ([],y1)
 else
  zb (Xl x) fun y2=>
  some (y2,0)
def strings_IndexByte(x:Str×Int):Option Int:=
 zb (Ku (x.1,x.2)) fun y1=>
 some y1
def stringslite_HasPrefix(x:Str×Str):Option Bool:=
 need (decide (0<=(x.2.length:Int))&&decide ((x.2.length:Int)<=(x.1.length:Int))|| !(decide ((x.1.length:Int)>=(x.2.length:Int))))<|
 some (bif decide ((x.1.length:Int)>=(x.2.length:Int))then List.take x.2.length x.1==x.2 else false)
def strings_HasPrefix(x:Str×Str):Option Bool:=
 zb (stringslite_HasPrefix (x.1,x.2)) fun y1=>
 some y1
def Yl(x:Str):Option Str:=
 need (decide (x.length<=maxLen))<|
 Za (fun(s1:Int×List UInt8)=>
   bif decide (s1.1<(x.length:Int))then
    zS (X:=Int×List UInt8) (
      need (decide (0<=s1.1)&&decide (s1.1<(s1.2.length:Int)))<|
      zb s1.2[s1.1.toNat]? fun y2=>
      bif bif decide (65<=(y2.toNat:Int))then decide ((y2.toNat:Int)<=90)else false then
       need (decide (0<=s1.1)&&decide (s1.1<(s1.2.length:Int)))<|
       zb s1.2[s1.1.toNat]? fun y3=>
       need (decide (0<=s1.1)&&decide (s1.1<(s1.2.length:Int)))<|
       zb s1.2[s1.1.toNat]? fun y4=>
       zb (ZP (ibOr IntKind.u8 (y3.toNat:Int) 32)) fun y5=>
       some (LX.out (s1.1,List.set s1.2 s1.1.toNat y5))
      else
       some (LX.out (s1.1,s1.2))) fun j6=>
    some (LO.again (w64 (j6.1+1),j6.2))
   else
    some (LO.out s1.2):Int×List UInt8->Option (LO (Int×List UInt8) (List UInt8) _)) (0,x) fun o7=>
 some o7
def kv(x:Str):Option Bool:=
 zb (zq (!(bif x==[]then true else decide ((x.length:Int)>64))) (strings_IndexByte (x,0)) (default:Int)) fun y1=>
 bif bif bif x==[]then true else decide ((x.length:Int)>64)then true else decide (y1>=0)then
  some false
 else
  zb (strings_HasPrefix (x,[45,45])) fun y2=>
  bif y2 then
   some (!(x==[45,45]))
  else
   zb (Yl x) fun y3=>
   some (x==y3)
def stringslite_TrimPrefix(x:Str×Str):Option Str:=
 zb (stringslite_HasPrefix (x.1,x.2)) fun y1=>
 bif y1 then
  need (decide (0<=(x.2.length:Int))&&decide ((x.2.length:Int)<=(x.1.length:Int)))<|
  some (List.drop x.2.length x.1)
 else
  some x.1
def strings_TrimPrefix(x:Str×Str):Option Str:=
 zb (stringslite_TrimPrefix (x.1,x.2)) fun y1=>
 some y1
def Z8(x:Int):Option Bool:=
 some (bif decide (48<=x)then decide (x<=57)else false)
def Co(x:Str):Option Bool:=
 zb (strings_TrimPrefix (x,[45])) fun y1=>
 zb (zq (!(y1==[])) (geti y1 0) 0) fun y2=>
 zb (zq (!(y1==[])) (Z8 (y2.toNat:Int)) (default:Bool)) fun y3=>
 some (bif !(y1==[])then y3 else false)
def Hr(x:Int):Option Bool:=
 some (bif bif decide (97<=ibOr IntKind.u8 x 32)then decide (ibOr IntKind.u8 x 32<=122)else false then decide (x<128)else false)
def QU(x:Int):Option Bool:=
 zb (Hr x) fun y1=>
 zb (zq (!y1) (Z8 x) (default:Bool)) fun y2=>
 some (bif bif bif bif y1 then true else y2 then true else x==95 then true else x==45 then true else decide (x>=128))
def strings_Contains(x:Str×Str):Option Bool:=
 zb (Vj (x.1,x.2)) fun y1=>
 some (decide (y1>=0))
def xu(x:ze):Option Bool:=
 need (Zf x.text.length x.unit.length)<|
 zb (strings_IndexByte (x.text++x.unit,0)) fun y1=>
 zS (X:=Bool×Bool×Bool×Bool×Bool) (
   zS (X:=Bool×Bool×Bool×Bool×Bool×Bool) (
     bif x.kind==1 then
      some (LX.out (false,false,false,false,decide (y1<0),x.kind==1))
     else
      bif x.kind==2 then
       some (LX.out (false,false,false,false,decide (y1<0),x.kind==2))
      else
       some (LX.out (false,false,false,false,decide (y1<0),x.kind==3))) fun j2=>
   bif j2.2.2.2.2.2 then
    some (LX.out (true,j2.2.1,j2.2.2.1,j2.2.2.2.1,bif j2.2.2.2.2.1 then !(x.text==[])else false))
   else
    bif x.kind==4 then
     zb (zq (!x.flag&&(bif j2.2.2.2.2.1 then !(x.text==[])else false)) (Co x.text) (default:Bool)) fun y3=>
     zb (zq (y3&&(!x.flag&&(bif j2.2.2.2.2.1 then !(x.text==[])else false))) (strings_HasPrefix (x.text,[45,45])) (default:Bool)) fun y4=>
     some (LX.out (true,j2.2.1,j2.2.2.1,true,bif bif j2.2.2.2.2.1 then !(x.text==[])else false then bif bif x.flag then true else bif y3 then !y4 else false then true else x.text==[45]else false))
    else
     zS (X:=Bool×Bool×Bool×Bool×Bool×Bool) (
       bif x.kind==5 then
        some (LX.out (j2.1,j2.2.1,j2.2.2.1,j2.2.2.2.1,j2.2.2.2.2.1,x.kind==5))
       else
        some (LX.out (j2.1,j2.2.1,j2.2.2.1,j2.2.2.2.1,j2.2.2.2.2.1,x.kind==7))) fun j5=>
     bif j5.2.2.2.2.2 then
      some (LX.out (true,j5.2.1,j5.2.2.1,j5.2.2.2.1,j5.2.2.2.2.1))
     else
      bif x.kind==9 then
       zb (zq (bif j5.2.2.2.2.1 then(x.text.length:Int)==1 else false) (geti x.text 0) 0) fun y6=>
       zb (zq (bif j5.2.2.2.2.1 then(x.text.length:Int)==1 else false) (QU (y6.toNat:Int)) (default:Bool)) fun y7=>
       zb (zq (bif bif bif j5.2.2.2.2.1 then(x.text.length:Int)==1 else false then !y7 else false then true else x.text==[45]) (strings_Contains ([32,9,10,12,13,34,39,58,59,44,91,93,40,41,123,125],x.text)) (default:Bool)) fun y8=>
       some (LX.out (true,j5.2.1,j5.2.2.1,j5.2.2.2.1,bif bif bif bif j5.2.2.2.2.1 then(x.text.length:Int)==1 else false then !y7 else false then true else x.text==[45]then !y8 else false))
      else
       zS (X:=Bool×Bool×Bool×Bool×Bool) (
         bif x.kind==10 then
          some (LX.out (j5.2.1,j5.2.2.1,j5.2.2.2.1,j5.2.2.2.2.1,x.kind==10))
         else
          bif x.kind==11 then
           some (LX.out (j5.2.1,j5.2.2.1,j5.2.2.2.1,j5.2.2.2.2.1,x.kind==11))
          else
           some (LX.out (j5.2.1,j5.2.2.1,j5.2.2.2.1,j5.2.2.2.2.1,x.kind==12))) fun j9=>
       bif j9.2.2.2.2 then
        some (LX.out (j5.1,x.kind==12,true,x.kind != 11,bif bif bif bif j9.2.2.2.1 then decide (x.num>=(-1000000000000))else false then decide (x.num<=1000000000000)else false then bif !x.flag then true else Int.tmod x.num 1000==0 else false then bif !(x.kind==12)then true else !(x.unit==[])else false))
       else
        some (LX.out (j5.1,j9.1,j9.2.1,j9.2.2.1,bif decide (x.kind>=13)then decide (x.kind<=24)else false))) fun j10=>
 some (bif bif bif bif j10.2.2.2.2 then bif j10.1 then true else x.text==[]else false then bif j10.2.1 then true else x.unit==[]else false then bif j10.2.2.1 then true else x.num==0 else false then bif j10.2.2.2.1 then true else !x.flag else false)
def ZZ(x:(Int×Int)×List ze):Option Bool:=
 zb (zq (decide (x.1.1<(x.2.length:Int))) (geti x.2 x.1.1) (default:ze)) fun y1=>
 some (bif decide (x.1.1<(x.2.length:Int))then y1.kind==x.1.2 else false)
def Io(x:Str×Str):Option Bool:=
 zb (Yl x.1) fun y1=>
 zb (Yl x.2) fun y2=>
 some (y1==y2)
def QV(x:List ze):Option Int:=
 zb (geti x 0) fun y1=>
 bif bif y1.kind==9 then y1.text==[92]else false then
  zb (ZZ ((1,13),x)) fun y2=>
  bif !y2 then
   some 0
  else
   some 2
 else
  zb (zq (y1.kind==2) (Io (y1.text,[117,114,108])) (default:Bool)) fun y3=>
  bif bif y1.kind==2 then y3 else false then
   zS (X:=Int) (
     zb (ZZ ((1,13),x)) fun y4=>
     bif y4 then
      some (LX.out 2)
     else
      some (LX.out 1)) fun j5=>
   zb (ZZ ((j5,5),x)) fun y6=>
   bif !y6 then
    some 0
   else
    some (w64 (j5+1))
  else
   some 1
def Ul(x:List ze):Option Int:=
 bif decide ((x.length:Int)>1500)then
  some 4
 else
  Za (fun(s1:Int)=>
    bif decide (s1<(x.length:Int))then
     zb (geti x s1) fun y2=>
     zb (xu y2) fun y3=>
     need (decide (0<=s1)&&decide (s1<=(x.length:Int))|| !(!(!y3)))<|
     zb (zq (!(!y3)) (QV (List.drop s1.toNat x)) (default:Int)) fun y4=>
     bif bif !y3 then true else y4==0 then
      some (LO.ret 8)
     else
      some (LO.again (w64 (s1+1)))
    else
     some (LO.out ()):Int->Option (LO (Int) (Unit) _)) 0 fun o5=>
  some 0
def kg(x:zg×Int):Option Bool:=
 some (x.1.token.kind==x.2)
def QT(zB:List zg->Option Bool)(x:zg):Option Bool:=
 zb (kg ((⟨x.token,x.list⟩:zg),20)) fun y1=>
 zb (zq (!y1) (kg ((⟨x.token,x.list⟩:zg),22)) (default:Bool)) fun y2=>
 zb (zq (!(bif y1 then true else y2)) (kg ((⟨x.token,x.list⟩:zg),24)) (default:Bool)) fun y3=>
 zb (zq (!(bif bif y1 then true else y2 then true else y3)) (zB x.list) (default:Bool)) fun y4=>
 some (bif bif bif y1 then true else y2 then true else y3 then true else y4)
def Qb(zB:List zg->Option Bool)(x:List zg):Option Int:=
 Za (fun(s1:Int)=>
   bif decide (s1<(x.length:Int))then
    zb (geti x s1) fun y2=>
    zb (QT zB (⟨y2.token,y2.list⟩:zg)) fun y3=>
    bif y3 then
     some (LO.ret s1)
    else
     some (LO.again (w64 (s1+1)))
   else
    some (LO.out ()):Int->Option (LO (Int) (Unit) _)) 0 fun o4=>
 some (-1)
def ql(zB:List zg->Option Bool)(x:List zg):Option Bool:=
 zb (Qb zB x) fun y1=>
 some (decide (y1>=0))
def VB(zB:List zg->Option Bool)(x:List zg):Option Bool:=
 zb (ql zB x) fun y1=>
 some y1
def zB:List zg->Option Bool:=recE (VB)
def LA(x:zg):Option Bool:=
 zb (kg ((⟨x.token,x.list⟩:zg),9)) fun y1=>
 some (bif y1 then x.token.text==[33]else false)
def Ew(x:zg):Option Bool:=
 zb (kg ((⟨x.token,x.list⟩:zg),17)) fun y1=>
 zb (zq (!y1) (LA (⟨x.token,x.list⟩:zg)) (default:Bool)) fun y2=>
 some (bif y1 then true else y2)
def qB(x:List zg):Option Int:=
 Za (fun(s1:Int)=>
   bif decide (s1<(x.length:Int))then
    zb (geti x s1) fun y2=>
    zb (Ew (⟨y2.token,y2.list⟩:zg)) fun y3=>
    bif y3 then
     some (LO.ret s1)
    else
     some (LO.again (w64 (s1+1)))
   else
    some (LO.out ()):Int->Option (LO (Int) (Unit) _)) 0 fun o4=>
 some (-1)
def Zt(x:List zg):Option Bool:=
 zb (qB x) fun y1=>
 some (decide (y1>=0))
def dn(x:Zj):Option Int:=
 zb (su x.value) fun y1=>
 zb (kv x.name) fun y2=>
 zb (zq (!(bif !y2 then true else y1.2 != 0)) (Ul y1.1) (default:Int)) fun y3=>
 zb (zq (!(bif bif !y2 then true else y1.2 != 0 then true else y3 != 0)) (zB x.value) (default:Bool)) fun y4=>
 bif bif bif bif !y2 then true else y1.2 != 0 then true else y3 != 0 then true else y4 then
  some 8
 else
  zb (Zt x.value) fun y5=>
  bif y5 then
   some 8
  else
   zb (zq ((x.value.length:Int)==0) (strings_HasPrefix (x.name,[45,45])) (default:Bool)) fun y6=>
   zb (zq (decide ((x.value.length:Int)>0)&& !(bif (x.value.length:Int)==0 then !y6 else false)) (geti x.value 0) (default:zg)) fun y7=>
   zb (zq (decide ((x.value.length:Int)>0)&& !(bif (x.value.length:Int)==0 then !y6 else false)) (kg ((⟨y7.token,y7.list⟩:zg),13)) (default:Bool)) fun y8=>
   zb (zq (!y8&&(decide ((x.value.length:Int)>0)&& !(bif (x.value.length:Int)==0 then !y6 else false))) (geti x.value (w64 ((x.value.length:Int) - 1))) (default:zg)) fun y9=>
   zb (zq (!y8&&(decide ((x.value.length:Int)>0)&& !(bif (x.value.length:Int)==0 then !y6 else false))) (kg ((⟨y9.token,y9.list⟩:zg),13)) (default:Bool)) fun y10=>
   bif bif bif (x.value.length:Int)==0 then !y6 else false then true else bif decide ((x.value.length:Int)>0)then bif y8 then true else y10 else false then
    some 8
   else
    some 0
def Qu(x:Str):Option Int:=
 zb (strings_HasPrefix (x,[45])) fun y1=>
 bif y1 then
  some 2
 else
  some 1
def ZH(x:Int×List UInt8):Option (List UInt8):=
 zb (zq (bif decide (x.1>32)then decide (x.1<127)else false) (Z8 x.1) (default:Bool)) fun y1=>
 zb (zq (bif bif decide (x.1>32)then decide (x.1<127)else false then !y1 else false) (Hr x.1) (default:Bool)) fun y2=>
 bif bif bif bif decide (x.1>32)then decide (x.1<127)else false then !y1 else false then !y2 else false then
  zb (ZP x.1) fun y3=>
  need (Zc x.2.length 2 1)<|
  some (x.2++[(92:UInt8),y3])
 else
  need (Zc x.2.length 1 1)<|
  zb (ym ((wu64 x.1,16),x.2++[(92:UInt8)])) fun y4=>
  need (Zc y4.length 1 1)<|
  some (y4++[(32:UInt8)])
def Yv(x:Str×Int):Option (List UInt8):=
 Za (fun(s1:Int×List UInt8)=>
   bif decide (s1.1<(x.1.length:Int))then
    zS (X:=Int×List UInt8) (
      zb (geti x.1 s1.1) fun y2=>
      zb (QU (y2.toNat:Int)) fun y3=>
      zb (zq (!(decide (s1.1>=x.2))&&y3) (Z8 (y2.toNat:Int)) (default:Bool)) fun y4=>
      bif bif bif y3 then bif decide (s1.1>=x.2)then true else !y4 else false then bif x.2==0 then true else !(x.1==[45])else false then
       zb (ZP (y2.toNat:Int)) fun y5=>
       need (Zc s1.2.length 1 1)<|
       some (LX.out (s1.1,s1.2++[y5]))
      else
       zb (ZH ((y2.toNat:Int),s1.2)) fun y6=>
       some (LX.out (s1.1,y6))) fun j7=>
    some (LO.again (w64 (j7.1+1),j7.2))
   else
    some (LO.out s1.2):Int×List UInt8->Option (LO (Int×List UInt8) (List UInt8) _)) (0,[]) fun o8=>
 some o8
def yu(x:Str):Option (Str×Int):=
 zb (zq (!(x==[])) (strings_IndexByte (x,0)) (default:Int)) fun y1=>
 bif bif x==[]then true else decide (y1>=0)then
  some ([],8)
 else
  zb (Qu x) fun y2=>
  zb (Yv (x,y2)) fun y3=>
  bif bif decide ((x.length:Int)>4000)then true else decide ((y3.length:Int)>4000)then
   some ([],28)
  else
   some (y3,0)
def qW(x:(Str×Int)×List UInt8):Option (List UInt8):=
 Za (fun(s1:Int×List UInt8)=>
   bif decide (s1.1<(x.1.1.length:Int))then
    zS (X:=Int×List UInt8) (
      zb (geti x.1.1 s1.1) fun y2=>
      zb (QU (y2.toNat:Int)) fun y3=>
      zb (zq (!(decide (s1.1>=x.1.2))&&y3) (Z8 (y2.toNat:Int)) (default:Bool)) fun y4=>
      bif bif bif y3 then bif decide (s1.1>=x.1.2)then true else !y4 else false then bif x.1.2==0 then true else !(x.1.1==[45])else false then
       zb (ZP (y2.toNat:Int)) fun y5=>
       need (Zc s1.2.length 1 1)<|
       some (LX.out (s1.1,s1.2++[y5]))
      else
       zb (ZH ((y2.toNat:Int),s1.2)) fun y6=>
       some (LX.out (s1.1,y6))) fun j7=>
    some (LO.again (w64 (j7.1+1),j7.2))
   else
    some (LO.out s1.2):Int×List UInt8->Option (LO (Int×List UInt8) (List UInt8) _)) (0,x.2) fun o8=>
 some o8
def bv(x:Unit):Option QR:=
 some (⟨[32],[60,33,45,45],[45,45,62],[58],[59],[44],[91],[93],[40],[41],[123],[125]⟩:QR)
def QE(x:(Int×Bool)×List UInt8):Option (List UInt8):=
 zS (X:=Int×List UInt8) (
   bif decide (x.1.1<0)then
    need (Zc x.2.length 1 1)<|
    some (LX.out (w64 (0 - x.1.1),x.2++[(45:UInt8)]))
   else
    some (LX.out (x.1.1,x.2))) fun j1=>
 zb (Bn ((w64 (Int.tdiv j1.1 1000),10),j1.2)) fun y2=>
 zb (gm (w64 (1000+Int.tmod j1.1 1000),10)) fun y3=>
 need (decide (1<=(y3.length:Int)))<|
 zb (ak (List.drop 1 y3,[48])) fun y4=>
 zS (X:=List UInt8) (
   bif !(y4==[])then
    need (Zc y2.length 1 1)<|
    need (Zc (y2++[(46:UInt8)]).length y4.length 1)<|
    some (LX.out (y2++[(46:UInt8)]++y4))
   else
    bif x.1.2 then
     need (Zc y2.length ([46,48]:Str).length 1)<|
     some (LX.out (y2++([46,48]:Str)))
    else
     some (LX.out y2)) fun j5=>
 some j5
def Er(x:ze×List UInt8):Option (List UInt8):=
 bif x.1.kind==1 then
  zb (Qu x.1.text) fun y1=>
  zb (qW ((x.1.text,y1),x.2)) fun y2=>
  some y2
 else
  bif x.1.kind==2 then
   zb (Qu x.1.text) fun y3=>
   zb (qW ((x.1.text,y3),x.2)) fun y4=>
   need (Zc y4.length 1 1)<|
   some (y4++[(40:UInt8)])
  else
   bif x.1.kind==3 then
    need (Zc x.2.length 1 1)<|
    zb (Qu x.1.text) fun y5=>
    zb (qW ((x.1.text,y5),x.2++[(64:UInt8)])) fun y6=>
    some y6
   else
    bif x.1.kind==4 then
     zS (X:=Int×List UInt8) (
       bif x.1.flag then
        zb (Qu x.1.text) fun y7=>
        some (LX.out (y7,x.2))
       else
        some (LX.out (0,x.2))) fun j8=>
     need (Zc j8.2.length 1 1)<|
     zb (qW ((x.1.text,j8.1),j8.2++[(35:UInt8)])) fun y9=>
     some y9
    else
     bif x.1.kind==5 then
      need (Zc x.2.length 1 1)<|
      need (decide (x.1.text.length<=maxLen))<|
      Za (fun(s10:Int×List UInt8)=>
        bif decide (s10.1<(x.1.text.length:Int))then
         zS (X:=Int×List UInt8) (
           need (decide (0<=s10.1)&&decide (s10.1<(x.1.text.length:Int)))<|
           zb x.1.text[s10.1.toNat]? fun y11=>
           zb (strings_IndexByte ([10,12,13,34,92],(y11.toNat:Int))) fun y12=>
           bif decide (y12>=0)then
            zb (ZH ((y11.toNat:Int),s10.2)) fun y13=>
            some (LX.out (s10.1,y13))
           else
            zb (ZP (y11.toNat:Int)) fun y14=>
            need (Zc s10.2.length 1 1)<|
            some (LX.out (s10.1,s10.2++[y14]))) fun j15=>
         some (LO.again (w64 (j15.1+1),j15.2))
        else
         some (LO.out s10.2):Int×List UInt8->Option (LO (Int×List UInt8) (List UInt8) _)) (0,x.2++[(34:UInt8)]) fun o16=>
      need (Zc o16.length 1 1)<|
      some (o16++[(34:UInt8)])
     else
      bif x.1.kind==7 then
       need (Zc x.2.length ([117,114,108,40]:Str).length 1)<|
       need (decide (x.1.text.length<=maxLen))<|
       Za (fun(s17:Int×List UInt8)=>
         bif decide (s17.1<(x.1.text.length:Int))then
          zS (X:=Int×List UInt8) (
            need (decide (0<=s17.1)&&decide (s17.1<(x.1.text.length:Int)))<|
            zb x.1.text[s17.1.toNat]? fun y18=>
            zb (zq (!(decide ((y18.toNat:Int)<=32))) (strings_IndexByte ([34,39,40,41,92,127],(y18.toNat:Int))) (default:Int)) fun y19=>
            bif bif decide ((y18.toNat:Int)<=32)then true else decide (y19>=0)then
             zb (ZH ((y18.toNat:Int),s17.2)) fun y20=>
             some (LX.out (s17.1,y20))
            else
             zb (ZP (y18.toNat:Int)) fun y21=>
             need (Zc s17.2.length 1 1)<|
             some (LX.out (s17.1,s17.2++[y21]))) fun j22=>
          some (LO.again (w64 (j22.1+1),j22.2))
         else
          some (LO.out s17.2):Int×List UInt8->Option (LO (Int×List UInt8) (List UInt8) _)) (0,x.2++([117,114,108,40]:Str)) fun o23=>
       need (Zc o23.length 1 1)<|
       some (o23++[(41:UInt8)])
      else
       bif x.1.kind==9 then
        need (Zc x.2.length x.1.text.length 1)<|
        some (x.2++x.1.text)
       else
        bif x.1.kind==10 then
         zb (QE ((x.1.num, !x.1.flag),x.2)) fun y24=>
         some y24
        else
         bif x.1.kind==11 then
          zb (QE ((x.1.num,false),x.2)) fun y25=>
          need (Zc y25.length 1 1)<|
          some (y25++[(37:UInt8)])
         else
          bif x.1.kind==12 then
           zb (QE ((x.1.num, !x.1.flag),x.2)) fun y26=>
           zb (geti x.1.unit 0) fun y27=>
           need (decide (1<=(x.1.unit.length:Int))|| !(ibOr IntKind.u8 (y27.toNat:Int) 32==101))<|
           zb (zq (ibOr IntKind.u8 (y27.toNat:Int) 32==101) (Co (List.drop 1 x.1.unit)) (default:Bool)) fun y28=>
           need (decide (1<=(x.1.unit.length:Int))|| !(bif ibOr IntKind.u8 (y27.toNat:Int) 32==101 then y28 else false))<|
           zb (zq (bif ibOr IntKind.u8 (y27.toNat:Int) 32==101 then y28 else false) (strings_HasPrefix (List.drop 1 x.1.unit,[45,45])) (default:Bool)) fun y29=>
           bif bif bif ibOr IntKind.u8 (y27.toNat:Int) 32==101 then y28 else false then !y29 else false then
            zb (geti x.1.unit 0) fun y30=>
            zb (ZH ((y30.toNat:Int),y26)) fun y31=>
            need (decide (1<=(x.1.unit.length:Int)))<|
            zb (qW ((List.drop 1 x.1.unit,0),y31)) fun y32=>
            some y32
           else
            zb (Qu x.1.unit) fun y33=>
            zb (qW ((x.1.unit,y33),y26)) fun y34=>
            some y34
          else
           zb (bv ()) fun y35=>
           zb (geti [y35.e0,y35.e1,y35.e2,y35.e3,y35.e4,y35.e5,y35.e6,y35.e7,y35.e8,y35.e9,y35.e10,y35.e11] (wu8 (x.1.kind - 13))) fun y36=>
           need (Zc x.2.length y36.length 1)<|
           some (x.2++y36)
def Zn(x:za):Option za:=
 Za (fun(s1:za)=>
   need (decide (0<=s1.at_)&&decide (s1.at_<=(s1.s.length:Int)))<|
   zb (strings_HasPrefix (List.drop s1.at_.toNat s1.s,[47,42])) fun y2=>
   bif y2 then
    need (decide (0<=w64 (s1.at_+2))&&decide (w64 (s1.at_+2)<=(s1.s.length:Int)))<|
    zb (Vj (List.drop (w64 (s1.at_+2)).toNat s1.s,[42,47])) fun y3=>
    bif decide (y3<0)then
     some (LO.ret (⟨s1.s,(s1.s.length:Int)⟩:za))
    else
     some (LO.again (⟨s1.s,w64 (s1.at_+w64 (y3+4))⟩:za))
   else
    some (LO.out s1):za->Option (LO (za) (za) _)) x fun o4=>
 some o4
def zf(x:Int×za):Option Int:=
 bif decide (w64 (x.2.at_+x.1)<(x.2.s.length:Int))then
  zb (geti x.2.s (w64 (x.2.at_+x.1))) fun y1=>
  some (w64 (y1.toNat:Int))
 else
  some (-1)
def qF(x:Int):Option Bool:=
 some (bif bif x==32 then true else x==9 then true else x==10)
def Zb(x:za):Option za:=
 Za (fun(s1:za)=>
   zb (zf (0,s1)) fun y2=>
   zb (qF y2) fun y3=>
   bif y3 then
    some (LO.again (⟨s1.s,w64 (s1.at_+1)⟩:za))
   else
    some (LO.out s1):za->Option (LO (za) (za) _)) x fun o4=>
 some o4
def qm(x:Int):Option (List UInt8):=
 bif decide (wu32 x<=2047)then
  zb (ZP (ibOr IntKind.u8 192 (wu8 (bg IntKind.i32 x 6)))) fun y1=>
  zb (ZP (ibOr IntKind.u8 128 (Kh IntKind.u8 (wu8 x) 63))) fun y2=>
  need (Zc 0 2 1)<|
  some [y1,y2]
 else
  zS (X:=Bool) (
    bif decide (wu32 x<55296)then
     some (LX.out (decide (wu32 x<55296)))
    else
     some (LX.out (bif decide (57343<wu32 x)then decide (wu32 x<=65535)else false))) fun j3=>
  bif j3 then
   zb (ZP (ibOr IntKind.u8 224 (wu8 (bg IntKind.i32 x 12)))) fun y4=>
   zb (ZP (ibOr IntKind.u8 128 (Kh IntKind.u8 (wu8 (bg IntKind.i32 x 6)) 63))) fun y5=>
   zb (ZP (ibOr IntKind.u8 128 (Kh IntKind.u8 (wu8 x) 63))) fun y6=>
   need (Zc 0 3 1)<|
   some [y4,y5,y6]
  else
   bif bif decide (wu32 x>65535)then decide (wu32 x<=1114111)else false then
    zb (ZP (ibOr IntKind.u8 240 (wu8 (bg IntKind.i32 x 18)))) fun y7=>
    zb (ZP (ibOr IntKind.u8 128 (Kh IntKind.u8 (wu8 (bg IntKind.i32 x 12)) 63))) fun y8=>
    zb (ZP (ibOr IntKind.u8 128 (Kh IntKind.u8 (wu8 (bg IntKind.i32 x 6)) 63))) fun y9=>
    zb (ZP (ibOr IntKind.u8 128 (Kh IntKind.u8 (wu8 x) 63))) fun y10=>
    need (Zc 0 4 1)<|
    some [y7,y8,y9,y10]
   else
    need (Zc 0 3 1)<|
    some [(239:UInt8),(191:UInt8),(189:UInt8)]
def qd(x:Int):Option (List UInt8):=
 bif decide (wu32 x<=127)then
  zb (ZP (wu8 x)) fun y1=>
  need (Zc 0 1 1)<|
  some [y1]
 else
  zb (qm x) fun y2=>
  some y2
def Z5(x:Int×Int×Int):Option Bool:=
 some (bif decide (x.2.1<=x.1)then decide (x.1<=x.2.2)else false)
def Zz(x:Int):Option Bool:=
 zb (Z5 (x,48,57)) fun y1=>
 some y1
def Kl(x:Int):Option Int:=
 zb (Zz x) fun y1=>
 bif y1 then
  some (w64 (x - 48))
 else
  zb (zq (x != (-1)) (Z5 (ibOr IntKind.i64 x 32,97,102)) (default:Bool)) fun y2=>
  bif bif bif bif x != (-1)then y2 else false then decide (x>64)else false then decide (x<128)else false then
   some (w64 (w64 (ibOr IntKind.i64 x 32 - 97)+10))
  else
   some (-1)
def ZW(x:za):Option (za×List UInt8):=
 zb (zf (0,(⟨x.s,w64 (x.at_+1)⟩:za))) fun y1=>
 bif y1==(-1)then
  zb (qd 65533) fun y2=>
  some ((⟨x.s,w64 (x.at_+1)⟩:za),y2)
 else
  zb (Kl y1) fun y3=>
  bif decide (y3<0)then
   zb (ZP (wu8 y1)) fun y4=>
   need (Zc 0 1 1)<|
   some ((⟨x.s,w64 (w64 (x.at_+1)+1)⟩:za),[y4])
  else
   Za (fun(s5:(Int×Int)×za)=>
     bif decide (s5.1.2<6)then
      zb (zf (0,s5.2)) fun y6=>
      zb (Kl y6) fun y7=>
      bif decide (y7<0)then
       some (LO.out (s5.1.1,s5.2))
      else
       some (LO.again ((ibOr IntKind.i64 (Rs IntKind.i64 s5.1.1 4) y7,w64 (s5.1.2+1)),(⟨s5.2.s,w64 (s5.2.at_+1)⟩:za)))
     else
      some (LO.out (s5.1.1,s5.2)):(Int×Int)×za->Option (LO ((Int×Int)×za) (Int×za) _)) ((0,0),(⟨x.s,w64 (x.at_+1)⟩:za)) fun o8=>
   zS (X:=Int×za) (
     zb (zf (0,o8.2)) fun y9=>
     zb (qF y9) fun y10=>
     bif y10 then
      some (LX.out (o8.1,(⟨o8.2.s,w64 (o8.2.at_+1)⟩:za)))
     else
      some (LX.out (o8.1,o8.2))) fun j11=>
   zS (X:=Int) (
     bif j11.1==0 then
      some (LX.out 65533)
     else
      some (LX.out j11.1)) fun j12=>
   zb (qd (w32 j12)) fun y13=>
   some (j11.2,y13)
def qo(x:Int×List UInt8):Option (List UInt8):=
 bif decide (wu32 x.1<=2047)then
  zb (ZP (ibOr IntKind.u8 192 (wu8 (bg IntKind.i32 x.1 6)))) fun y1=>
  zb (ZP (ibOr IntKind.u8 128 (Kh IntKind.u8 (wu8 x.1) 63))) fun y2=>
  need (Zc x.2.length 2 1)<|
  some (x.2++[y1,y2])
 else
  zS (X:=Bool×List UInt8) (
    bif decide (wu32 x.1<55296)then
     some (LX.out (decide (wu32 x.1<55296),x.2))
    else
     some (LX.out (bif decide (57343<wu32 x.1)then decide (wu32 x.1<=65535)else false,x.2))) fun j3=>
  bif j3.1 then
   zb (ZP (ibOr IntKind.u8 224 (wu8 (bg IntKind.i32 x.1 12)))) fun y4=>
   zb (ZP (ibOr IntKind.u8 128 (Kh IntKind.u8 (wu8 (bg IntKind.i32 x.1 6)) 63))) fun y5=>
   zb (ZP (ibOr IntKind.u8 128 (Kh IntKind.u8 (wu8 x.1) 63))) fun y6=>
   need (Zc j3.2.length 3 1)<|
   some (j3.2++[y4,y5,y6])
  else
   bif bif decide (wu32 x.1>65535)then decide (wu32 x.1<=1114111)else false then
    zb (ZP (ibOr IntKind.u8 240 (wu8 (bg IntKind.i32 x.1 18)))) fun y7=>
    zb (ZP (ibOr IntKind.u8 128 (Kh IntKind.u8 (wu8 (bg IntKind.i32 x.1 12)) 63))) fun y8=>
    zb (ZP (ibOr IntKind.u8 128 (Kh IntKind.u8 (wu8 (bg IntKind.i32 x.1 6)) 63))) fun y9=>
    zb (ZP (ibOr IntKind.u8 128 (Kh IntKind.u8 (wu8 x.1) 63))) fun y10=>
    need (Zc j3.2.length 4 1)<|
    some (j3.2++[y7,y8,y9,y10])
   else
    need (Zc j3.2.length 3 1)<|
    some (j3.2++[(239:UInt8),(191:UInt8),(189:UInt8)])
def qf(x:Int×List UInt8):Option (List UInt8):=
 bif decide (wu32 x.1<=127)then
  zb (ZP (wu8 x.1)) fun y1=>
  need (Zc x.2.length 1 1)<|
  some (x.2++[y1])
 else
  zb (qo (x.1,x.2)) fun y2=>
  some y2
def zX(x:za×List UInt8):Option (za×List UInt8):=
 zb (zf (0,(⟨x.1.s,w64 (x.1.at_+1)⟩:za))) fun y1=>
 bif y1==(-1)then
  zb (qf (65533,x.2)) fun y2=>
  some ((⟨x.1.s,w64 (x.1.at_+1)⟩:za),y2)
 else
  zb (Kl y1) fun y3=>
  bif decide (y3<0)then
   zb (ZP (wu8 y1)) fun y4=>
   need (Zc x.2.length 1 1)<|
   some ((⟨x.1.s,w64 (w64 (x.1.at_+1)+1)⟩:za),x.2++[y4])
  else
   Za (fun(s5:(Int×Int)×za)=>
     bif decide (s5.1.2<6)then
      zb (zf (0,s5.2)) fun y6=>
      zb (Kl y6) fun y7=>
      bif decide (y7<0)then
       some (LO.out (s5.1.1,s5.2))
      else
       some (LO.again ((ibOr IntKind.i64 (Rs IntKind.i64 s5.1.1 4) y7,w64 (s5.1.2+1)),(⟨s5.2.s,w64 (s5.2.at_+1)⟩:za)))
     else
      some (LO.out (s5.1.1,s5.2)):(Int×Int)×za->Option (LO ((Int×Int)×za) (Int×za) _)) ((0,0),(⟨x.1.s,w64 (x.1.at_+1)⟩:za)) fun o8=>
   zS (X:=Int×za×List UInt8) (
     zb (zf (0,o8.2)) fun y9=>
     zb (qF y9) fun y10=>
     bif y10 then
      some (LX.out (o8.1,(⟨o8.2.s,w64 (o8.2.at_+1)⟩:za),x.2))
     else
      some (LX.out (o8.1,o8.2,x.2))) fun j11=>
   zS (X:=Int×List UInt8) (
     bif j11.1==0 then
      some (LX.out (65533,j11.2.2))
     else
      some (LX.out (j11.1,j11.2.2))) fun j12=>
   zb (qf (w32 j12.1,j12.2)) fun y13=>
   some (j11.2.1,y13)
def qI(x:za):Option (ze×za):=
 zb (zf (0,x)) fun y1=>
 Za (fun(s2:za×ze×List UInt8)=>
   zb (zf (0,s2.1)) fun y3=>
   bif y3==(-1)then
    some (LO.out (s2.1,s2.2.1,s2.2.2))
   else
    bif y3==y1 then
     some (LO.out ((⟨s2.1.s,w64 (s2.1.at_+1)⟩:za),s2.2.1,s2.2.2))
    else
     bif y3==10 then
      some (LO.ret ((⟨6,[],0,[],false⟩:ze),s2.1))
     else
      zb (zq (y3==92) (zf (1,s2.1)) (default:Int)) fun y4=>
      zb (zq (!(y4==(-1))&&y3==92) (zf (1,s2.1)) (default:Int)) fun y5=>
      bif bif y3==92 then bif y4==(-1)then true else y5==10 else false then
       some (LO.again ((⟨s2.1.s,if(s2.1.s.length:Int)<w64 (s2.1.at_+2)then(s2.1.s.length:Int)else w64 (s2.1.at_+2)⟩:za),s2.2.1,s2.2.2))
      else
       bif y3==92 then
        zb (zX (s2.1,s2.2.2)) fun y6=>
        some (LO.again (y6.1,s2.2.1,y6.2))
       else
        zb (ZP (wu8 y3)) fun y7=>
        need (Zc s2.2.2.length 1 1)<|
        some (LO.again ((⟨s2.1.s,w64 (s2.1.at_+1)⟩:za),s2.2.1,s2.2.2++[y7])):za×ze×List UInt8->Option (LO (za×ze×List UInt8) (za×ze×List UInt8) _)) ((⟨x.s,w64 (x.at_+1)⟩:za),(⟨0,[],0,[],false⟩:ze),[]) fun o8=>
 some ((⟨5,o8.2.2,0,[],false⟩:ze),o8.1)
def Eo(x:Int):Option Bool:=
 zb (Z5 (ibOr IntKind.i64 x 32,97,122)) fun y1=>
 some (bif bif bif bif y1 then decide (x<128)else false then decide (x>64)else false then true else x==95 then true else decide (x>=128))
def Ar(x:Int):Option Bool:=
 zb (Eo x) fun y1=>
 zb (zq (!y1) (Zz x) (default:Bool)) fun y2=>
 some (bif bif y1 then true else y2 then true else x==45)
def zy(x:Int×za):Option Bool:=
 zb (zf (x.1,x.2)) fun y1=>
 zb (zq (y1==92) (zf (w64 (x.1+1),x.2)) (default:Int)) fun y2=>
 some (bif y1==92 then y2 != 10 else false)
def zN(x:Int×za):Option Bool:=
 zb (zf (x.1,x.2)) fun y1=>
 bif y1 != 45 then
  zb (zf (x.1,x.2)) fun y2=>
  zb (Eo y2) fun y3=>
  zb (zq (!y3) (zy (x.1,x.2)) (default:Bool)) fun y4=>
  some (bif y3 then true else y4)
 else
  zb (zf (w64 (x.1+1),x.2)) fun y5=>
  zb (Eo y5) fun y6=>
  zb (zq (!y6) (zf (w64 (x.1+1),x.2)) (default:Int)) fun y7=>
  zb (zq (!(bif y6 then true else y7==45)) (zy (w64 (x.1+1),x.2)) (default:Bool)) fun y8=>
  some (bif bif y6 then true else y7==45 then true else y8)
def zU(x:za):Option (Str×za):=
 Za (fun(s1:za×List UInt8)=>
   zb (zf (0,s1.1)) fun y2=>
   zb (Ar y2) fun y3=>
   bif y3 then
    zb (ZP (wu8 y2)) fun y4=>
    need (Zc s1.2.length 1 1)<|
    some (LO.again ((⟨s1.1.s,w64 (s1.1.at_+1)⟩:za),s1.2++[y4]))
   else
    zb (zq (y2 != (-1)) (zy (0,s1.1)) (default:Bool)) fun y5=>
    bif bif y2 != (-1)then y5 else false then
     zb (zX (s1.1,s1.2)) fun y6=>
     some (LO.again (y6.1,y6.2))
    else
     some (LO.ret (s1.2,s1.1)):za×List UInt8->Option (LO (za×List UInt8) (Unit) _)) (x,[]) fun o7=>
 none
def ZA(x:za):Option Bool:=
 zS (X:=Int) (
   zb (zf (0,x)) fun y1=>
   bif bif y1==43 then true else y1==45 then
    some (LX.out 1)
   else
    some (LX.out 0)) fun j2=>
 zS (X:=Int) (
   zb (zf (j2,x)) fun y3=>
   bif y3==46 then
    some (LX.out (w64 (j2+1)))
   else
    some (LX.out j2)) fun j4=>
 zb (zf (j4,x)) fun y5=>
 zb (Zz y5) fun y6=>
 some y6
def zZ(x:za):Option za:=
 Za (fun(s1:za)=>
   zb (zf (0,s1)) fun y2=>
   zb (Zz y2) fun y3=>
   bif y3 then
    some (LO.again (⟨s1.s,w64 (s1.at_+1)⟩:za))
   else
    some (LO.out s1):za->Option (LO (za) (za) _)) x fun o4=>
 some o4
def qx(x:za):Option (Bool×za):=
 zS (X:=za) (
   zb (zf (0,x)) fun y1=>
   bif bif y1==43 then true else y1==45 then
    some (LX.out (⟨x.s,w64 (x.at_+1)⟩:za))
   else
    some (LX.out x)) fun j2=>
 zb (zZ j2) fun y3=>
 zS (X:=Bool×za) (
   zb (zf (0,y3)) fun y4=>
   zb (zq (y4==46) (zf (1,y3)) (default:Int)) fun y5=>
   zb (zq (y4==46) (Zz y5) (default:Bool)) fun y6=>
   bif bif y4==46 then y6 else false then
    zb (zZ (⟨y3.s,w64 (y3.at_+1)⟩:za)) fun y7=>
    some (LX.out (false,y7))
   else
    some (LX.out (true,y3))) fun j8=>
 zS (X:=Bool×za) (
   zb (zf (0,j8.2)) fun y9=>
   zb (zq (!(y9==101)) (zf (0,j8.2)) (default:Int)) fun y10=>
   bif bif y9==101 then true else y10==69 then
    zS (X:=(Bool×Int)×za) (
      zb (zf (1,j8.2)) fun y11=>
      bif bif y11==43 then true else y11==45 then
       some (LX.out ((j8.1,2),j8.2))
      else
       some (LX.out ((j8.1,1),j8.2))) fun j12=>
    zb (zf (j12.1.2,j12.2)) fun y13=>
    zb (Zz y13) fun y14=>
    bif y14 then
     zb (zZ (⟨j12.2.s,w64 (j12.2.at_+j12.1.2)⟩:za)) fun y15=>
     some (LX.out (false,y15))
    else
     some (LX.out (j12.1.1,j12.2))
   else
    some (LX.out (j8.1,j8.2))) fun j16=>
 some (j16.1,j16.2)
def qc(x:Str):Option Int:=
 zb (geti x 0) fun y1=>
 zb (Pi (x,[43,45])) fun y2=>
 zS (X:=Str×Int) (
   zb (di (y2,[101,69])) fun y3=>
   bif decide (y3>=0)then
    need (decide (0<=w64 (y3+1))&&decide (w64 (y3+1)<=(y2.length:Int)))<|
    zb (Pi (List.drop (w64 (y3+1)).toNat y2,[43,45])) fun y4=>
    need (decide (y4.length<=maxLen))<|
    Za (fun(s5:Int×Int)=>
      bif decide (s5.2<(y4.length:Int))then
       need (decide (0<=s5.2)&&decide (s5.2<(y4.length:Int)))<|
       zb y4[s5.2.toNat]? fun y6=>
       some (LO.again (if 1048576<w64 (w64 (10*s5.1)+w64 (wu8 ((y6.toNat:Int) - 48)))then 1048576 else w64 (w64 (10*s5.1)+w64 (wu8 ((y6.toNat:Int) - 48))),w64 (s5.2+1)))
      else
       some (LO.out s5.1):Int×Int->Option (LO (Int×Int) (Int) _)) (0,0) fun o7=>
    zS (X:=Str×Int×Int) (
      zb (geti y2 (w64 (y3+1))) fun y8=>
      bif (y8.toNat:Int)==45 then
       some (LX.out (y2,3,w64 (0 - o7)))
      else
       some (LX.out (y2,3,o7))) fun j9=>
    need (decide (0<=y3)&&decide (y3<=(j9.1.length:Int)))<|
    some (LX.out (List.take y3.toNat j9.1,w64 (j9.2.1+j9.2.2)))
   else
    some (LX.out (y2,3))) fun j10=>
 zb (cutF (j10.1,[46])) fun y11=>
 need (Zf y11.1.length y11.2.1.length)<|
 zS (X:=Str×Int) (
   bif decide (w64 (j10.2 - (y11.2.1.length:Int))<0)then
    need (decide (0<=(if w64 (((y11.1++y11.2.1).length:Int)+w64 (j10.2 - (y11.2.1.length:Int)))>0 then w64 (((y11.1++y11.2.1).length:Int)+w64 (j10.2 - (y11.2.1.length:Int)))else 0))&&decide ((if w64 (((y11.1++y11.2.1).length:Int)+w64 (j10.2 - (y11.2.1.length:Int)))>0 then w64 (((y11.1++y11.2.1).length:Int)+w64 (j10.2 - (y11.2.1.length:Int)))else 0)<=((y11.1++y11.2.1).length:Int)))<|
    some (LX.out (List.take (if w64 (((y11.1++y11.2.1).length:Int)+w64 (j10.2 - (y11.2.1.length:Int)))>0 then w64 (((y11.1++y11.2.1).length:Int)+w64 (j10.2 - (y11.2.1.length:Int)))else 0).toNat (y11.1++y11.2.1),w64 (j10.2 - (y11.2.1.length:Int))))
   else
    some (LX.out (y11.1++y11.2.1,w64 (j10.2 - (y11.2.1.length:Int))))) fun j12=>
 need (decide (j12.1.length<=maxLen))<|
 Za (fun(s13:Int×Int)=>
   bif decide (s13.2<(j12.1.length:Int))then
    need (decide (0<=s13.2)&&decide (s13.2<(j12.1.length:Int)))<|
    zb j12.1[s13.2.toNat]? fun y14=>
    some (LO.again (if 1000000000000<w64 (w64 (10*s13.1)+w64 (wu8 ((y14.toNat:Int) - 48)))then 1000000000000 else w64 (w64 (10*s13.1)+w64 (wu8 ((y14.toNat:Int) - 48))),w64 (s13.2+1)))
   else
    some (LO.out s13.1):Int×Int->Option (LO (Int×Int) (Int) _)) (0,0) fun o15=>
 Za (fun(s16:Int×Int)=>
   bif bif bif decide (s16.1>0)then decide (s16.2>0)else false then decide (s16.2<1000000000000)else false then
    some (LO.again (w64 (s16.1 - 1),if 1000000000000<w64 (10*s16.2)then 1000000000000 else w64 (10*s16.2)))
   else
    some (LO.out s16.2):Int×Int->Option (LO (Int×Int) (Int) _)) (j12.2,o15) fun o17=>
 zS (X:=Int) (
   bif (y1.toNat:Int)==45 then
    some (LX.out (w64 (0 - o17)))
   else
    some (LX.out o17)) fun j18=>
 some j18
def ZM(x:za):Option (ze×za):=
 zb (qx x) fun y1=>
 need (decide (0<=x.at_)&&(decide (x.at_<=y1.2.at_)&&decide (y1.2.at_<=(y1.2.s.length:Int))))<|
 zb (qc (List.drop x.at_.toNat (List.take y1.2.at_.toNat y1.2.s))) fun y2=>
 zS (X:=za×ze×ze) (
   zb (zN (0,y1.2)) fun y3=>
   bif y3 then
    zb (zU y1.2) fun y4=>
    some (LX.out (y4.2,(⟨0,[],0,[],false⟩:ze),(⟨12,[],y2,y4.1,y1.1⟩:ze)))
   else
    zb (zf (0,y1.2)) fun y5=>
    bif y5==37 then
     some (LX.out ((⟨y1.2.s,w64 (y1.2.at_+1)⟩:za),(⟨0,[],0,[],false⟩:ze),(⟨11,[],y2,[],false⟩:ze)))
    else
     some (LX.out (y1.2,(⟨0,[],0,[],false⟩:ze),(⟨10,[],y2,[],y1.1⟩:ze)))) fun j6=>
 some (j6.2.2,j6.1)
def qb(x:za):Option (ze×za):=
 Za (fun(s1:za×ze)=>
   zb (zf (0,s1.1)) fun y2=>
   bif y2==(-1)then
    some (LO.ret ((⟨8,[],0,[],false⟩:ze),s1.1))
   else
    zb (zy (0,s1.1)) fun y3=>
    bif y3 then
     zb (ZW s1.1) fun y4=>
     some (LO.again (y4.1,s1.2))
    else
     zb (geti s1.1.s (w64 (w64 (s1.1.at_+1) - 1))) fun y5=>
     bif (y5.toNat:Int)==41 then
      some (LO.ret ((⟨8,[],0,[],false⟩:ze),(⟨s1.1.s,w64 (s1.1.at_+1)⟩:za)))
     else
      some (LO.again ((⟨s1.1.s,w64 (s1.1.at_+1)⟩:za),s1.2)):za×ze->Option (LO (za×ze) (Unit) _)) (x,(⟨0,[],0,[],false⟩:ze)) fun o6=>
 none
def Qy(x:za):Option (ze×za):=
 zb (Zb x) fun y1=>
 Za (fun(s2:za×ze×List UInt8)=>
   zb (zf (0,s2.1)) fun y3=>
   zS (X:=Int×za×ze×List UInt8) (
     zb (qF y3) fun y4=>
     bif y4 then
      zb (Zb s2.1) fun y5=>
      zb (zf (0,y5)) fun y6=>
      bif bif y6 != 41 then y6 != (-1)else false then
       zb (qb y5) fun y7=>
       some (LX.ret (LO.ret (y7.1,y7.2)))
      else
       some (LX.out (y6,y5,s2.2.1,s2.2.2))
     else
      some (LX.out (y3,s2.1,s2.2.1,s2.2.2))) fun j8=>
   bif j8.1==(-1)then
    some (LO.ret ((⟨7,j8.2.2.2,0,[],false⟩:ze),j8.2.1))
   else
    bif j8.1==41 then
     some (LO.ret ((⟨7,j8.2.2.2,0,[],false⟩:ze),(⟨j8.2.1.s,w64 (j8.2.1.at_+1)⟩:za)))
    else
     zb (zq (!(bif bif bif bif j8.1==34 then true else j8.1==39 then true else j8.1==40 then true else decide (j8.1<=8)then true else j8.1==11)) (Z5 (j8.1,14,31)) (default:Bool)) fun y9=>
     bif bif bif bif bif bif bif j8.1==34 then true else j8.1==39 then true else j8.1==40 then true else decide (j8.1<=8)then true else j8.1==11 then true else y9 then true else j8.1==127 then
      zb (qb j8.2.1) fun y10=>
      some (LO.ret (y10.1,y10.2))
     else
      bif j8.1 != 92 then
       zb (ZP (wu8 j8.1)) fun y11=>
       need (Zc j8.2.2.2.length 1 1)<|
       some (LO.again ((⟨j8.2.1.s,w64 (j8.2.1.at_+1)⟩:za),j8.2.2.1,j8.2.2.2++[y11]))
      else
       zb (zy (0,j8.2.1)) fun y12=>
       bif y12 then
        zb (zX (j8.2.1,j8.2.2.2)) fun y13=>
        some (LO.again (y13.1,j8.2.2.1,y13.2))
       else
        zb (qb j8.2.1) fun y14=>
        some (LO.ret (y14.1,y14.2)):za×ze×List UInt8->Option (LO (za×ze×List UInt8) (Unit) _)) (y1,(⟨0,[],0,[],false⟩:ze),[]) fun o15=>
 none
def ZK(x:za):Option (ze×za):=
 zb (zU x) fun y1=>
 zb (zf (0,y1.2)) fun y2=>
 bif y2 != 40 then
  some ((⟨1,y1.1,0,[],false⟩:ze),y1.2)
 else
  zS (X:=za×ze) (
    zb (Io (y1.1,[117,114,108])) fun y3=>
    bif y3 then
     zb (Zb (⟨y1.2.s,w64 (y1.2.at_+1)⟩:za)) fun y4=>
     zb (zf (0,y4)) fun y5=>
     bif bif y5 != 34 then y5 != 39 else false then
      zb (Qy (⟨y1.2.s,w64 (y1.2.at_+1)⟩:za)) fun y6=>
      some (LX.ret (y6.1,y6.2))
     else
      some (LX.out ((⟨y1.2.s,w64 (y1.2.at_+1)⟩:za),(⟨0,[],0,[],false⟩:ze)))
    else
     some (LX.out ((⟨y1.2.s,w64 (y1.2.at_+1)⟩:za),(⟨0,[],0,[],false⟩:ze)))) fun j7=>
  some ((⟨2,y1.1,0,[],false⟩:ze),j7.1)
def qC(x:za):Option (ze×za):=
 zb (zf (0,x)) fun y1=>
 need (decide (0<=x.at_)&&decide (x.at_<=(x.s.length:Int)))<|
 zb (qF y1) fun y2=>
 bif y2 then
  zb (Zb x) fun y3=>
  some ((⟨13,[],0,[],false⟩:ze),y3)
 else
  bif bif y1==34 then true else y1==39 then
   zb (qI x) fun y4=>
   some (y4.1,y4.2)
  else
   zb (zq (y1==35) (zf (1,x)) (default:Int)) fun y5=>
   zb (zq (y1==35) (Ar y5) (default:Bool)) fun y6=>
   zb (zq (!y6&&y1==35) (zy (1,x)) (default:Bool)) fun y7=>
   bif bif y1==35 then bif y6 then true else y7 else false then
    zb (zN (1,x)) fun y8=>
    zb (zU (⟨x.s,w64 (x.at_+1)⟩:za)) fun y9=>
    some ((⟨4,y9.1,0,[],y8⟩:ze),y9.2)
   else
    zb (ZA x) fun y10=>
    bif y10 then
     zb (ZM x) fun y11=>
     some (y11.1,y11.2)
    else
     zb (strings_HasPrefix (List.drop x.at_.toNat x.s,[45,45,62])) fun y12=>
     bif y12 then
      some ((⟨15,[],0,[],false⟩:ze),(⟨x.s,w64 (x.at_+3)⟩:za))
     else
      zb (strings_HasPrefix (List.drop x.at_.toNat x.s,[60,33,45,45])) fun y13=>
      bif y13 then
       some ((⟨14,[],0,[],false⟩:ze),(⟨x.s,w64 (x.at_+4)⟩:za))
      else
       zb (zq (y1==64) (zN (1,x)) (default:Bool)) fun y14=>
       bif bif y1==64 then y14 else false then
        zb (zU (⟨x.s,w64 (x.at_+1)⟩:za)) fun y15=>
        some ((⟨3,y15.1,0,[],false⟩:ze),y15.2)
       else
        zb (zN (0,x)) fun y16=>
        bif y16 then
         zb (ZK x) fun y17=>
         some (y17.1,y17.2)
        else
         zb (strings_IndexByte ([58,59,44,91,93,40,41,123,125],wu8 y1)) fun y18=>
         bif decide (y18>=0)then
          some ((⟨wu8 (16+wu8 y18),[],0,[],false⟩:ze),(⟨x.s,w64 (x.at_+1)⟩:za))
         else
          need (decide (1<=((List.drop x.at_.toNat x.s).length:Int)))<|
          some ((⟨9,List.take 1 (List.drop x.at_.toNat x.s),0,[],false⟩:ze),(⟨x.s,w64 (x.at_+1)⟩:za))
def QO(x:(ze×Int×Int)×List ze):Option (List ze):=
 need (Zc x.2.length 1 56)<|
 some (x.2++[x.1.1])
def Aw(x:Str):Option (Int×List ze):=
 zb (Rj x) fun y1=>
 bif y1.2 != 0 then
  some (y1.2,[])
 else
  zb (Zn (⟨y1.1,0⟩:za)) fun y2=>
  Za (fun(s3:Int×List ze×za)=>
    bif decide (s3.2.2.at_<(y1.1.length:Int))then
     bif decide (w64 (s3.1+1)>1500)then
      some (LO.ret (4,s3.2.1))
     else
      zb (qC s3.2.2) fun y4=>
      zb (QO ((y4.1,s3.2.2.at_,y4.2.at_),s3.2.1)) fun y5=>
      zb (Zn y4.2) fun y6=>
      some (LO.again (w64 (s3.1+1),y5,y6))
    else
     some (LO.out (s3.2.1,s3.2.2)):Int×List ze×za->Option (LO (Int×List ze×za) (List ze×za) _)) (0,[],y2) fun o7=>
  some (0,o7.1)
def Bw(x:Str):Option (List ze×Int):=
 zb (Aw x) fun y1=>
 bif y1.1 != 0 then
  some ([],y1.1)
 else
  some (y1.2,0)
def qA(x:List ze×List ze):Option Bool:=
 bif (x.1.length:Int) != (x.2.length:Int)then
  some false
 else
  Za (fun(s1:Int)=>
    bif decide (s1<(x.1.length:Int))then
     zb (geti x.1 s1) fun y2=>
     zb (geti x.2 s1) fun y3=>
     bif !(y2.kind==y3.kind&&(y2.text==y3.text&&(y2.num==y3.num&&(y2.unit==y3.unit&&(y2.flag==y3.flag&&true)))))then
      some (LO.ret false)
     else
      some (LO.again (w64 (s1+1)))
    else
     some (LO.out ()):Int->Option (LO (Int) (Unit) _)) 0 fun o4=>
  some true
def jv(x:List ze):Option (Str×Int):=
 zb (Ul x) fun y1=>
 bif y1 != 0 then
  some ([],y1)
 else
  Za (fun(s2:Int×List UInt8×List zH)=>
    bif decide (s2.1<(x.length:Int))then
     need (decide (0<=s2.1)&&decide (s2.1<=(x.length:Int)))<|
     zb (QV (List.drop s2.1.toNat x)) fun y3=>
     need (decide (0<=s2.1)&&(decide (s2.1<=w64 (s2.1+y3))&&decide (w64 (s2.1+y3)<=(x.length:Int))))<|
     Za (fun(s4:Int×List UInt8)=>
       bif decide (s4.1<((List.drop s2.1.toNat (List.take (w64 (s2.1+y3)).toNat x)).length:Int))then
        zb (geti (List.drop s2.1.toNat (List.take (w64 (s2.1+y3)).toNat x)) s4.1) fun y5=>
        zb (Er (y5,s4.2)) fun y6=>
        some (LO.again (w64 (s4.1+1),y6))
       else
        some (LO.out s4.2):Int×List UInt8->Option (LO (Int×List UInt8) (List UInt8) _)) (0,[]) fun o7=>
     zS (X:=Int×List UInt8×List zH×List UInt8) (
       zb (geti x s2.1) fun y8=>
       bif bif y8.kind==9 then y3==2 else false then
        some (LX.out (s2.1,s2.2.1,s2.2.2,[(92:UInt8),(10:UInt8)]))
       else
        some (LX.out (s2.1,s2.2.1,s2.2.2,o7))) fun j9=>
     zS (X:=Int×List UInt8×List zH×zH) (
       bif decide (w64 ((j9.2.2.1.length:Int) - 4)>=0)then
        need (decide (0<=w64 ((j9.2.2.1.length:Int) - 4))&&decide (w64 ((j9.2.2.1.length:Int) - 4)<(j9.2.2.1.length:Int)))<|
        zb (j9.2.2.1[(w64 ((j9.2.2.1.length:Int) - 4)).toNat]?) fun y10=>
        some (LX.out (j9.1,j9.2.1,j9.2.2.1,y10))
       else
        some (LX.out (j9.1,j9.2.1,j9.2.2.1,(⟨0,0⟩:zH)))) fun j11=>
     need (decide (0<=j11.2.2.2.at_)&&decide (j11.2.2.2.at_<=(j11.2.1.length:Int)))<|
     need (decide (j11.2.2.2.at_.toNat+(j11.2.1.length - j11.2.2.2.at_.toNat)<=j11.2.1.length))<|
     need (Zf (List.take (j11.2.1.length - j11.2.2.2.at_.toNat) (List.drop j11.2.2.2.at_.toNat j11.2.1)).length j9.2.2.2.length)<|
     zb (Bw (List.take (j11.2.1.length - j11.2.2.2.at_.toNat) (List.drop j11.2.2.2.at_.toNat j11.2.1)++j9.2.2.2)) fun y12=>
     zS (X:=Int×List zH×List UInt8) (
       need (decide (0<=j11.2.2.2.token)&&(decide (j11.2.2.2.token<=w64 (j11.1+y3))&&decide (w64 (j11.1+y3)<=(x.length:Int)))|| !(!(y12.2 != 0)))<|
       zb (zq (!(y12.2 != 0)) (qA (y12.1,List.drop j11.2.2.2.token.toNat (List.take (w64 (j11.1+y3)).toNat x))) (default:Bool)) fun y13=>
       bif bif y12.2 != 0 then true else !y13 then
        need (Zc j11.2.1.length ([47,42,42,47]:Str).length 1)<|
        some (LX.out (j11.1,j11.2.2.1,j11.2.1++([47,42,42,47]:Str)))
       else
        some (LX.out (j11.1,j11.2.2.1,j11.2.1))) fun j14=>
     need (Zc j14.2.1.length 1 16)<|
     need (Zc j14.2.2.length j9.2.2.2.length 1)<|
     bif decide (((j14.2.2++j9.2.2.2).length:Int)>4000)then
      some (LO.ret ([],28))
     else
      some (LO.again (w64 (j14.1+y3),j14.2.2++j9.2.2.2,j14.2.1++[(⟨j14.1,(j14.2.2.length:Int)⟩:zH)]))
    else
     some (LO.out s2.2.1):Int×List UInt8×List zH->Option (LO (Int×List UInt8×List zH) (List UInt8) _)) (0,[],[]) fun o15=>
  some (o15,0)
def pu(x:List zg):Option (Str×Int):=
 zb (bn x) fun y1=>
 bif y1 != 0 then
  some ([],y1)
 else
  zb (Xl x) fun y2=>
  zb (jv y2) fun y3=>
  some (y3.1,y3.2)
def Vn(x:Zj):Option (Str×Int):=
 zb (dn x) fun y1=>
 bif y1 != 0 then
  some ([],y1)
 else
  zb (yu x.name) fun y2=>
  bif y2.2 != 0 then
   some ([],y2.2)
  else
   zb (pu x.value) fun y3=>
   bif y3.2 != 0 then
    some ([],y3.2)
   else
    need (Zf y2.1.length ([58,32]:Str).length)<|
    need (Zf (y2.1++([58,32]:Str)).length y3.1.length)<|
    zS (X:=Str) (
      bif x.important then
       need (Zf (y2.1++([58,32]:Str)++y3.1).length ([32,33,105,109,112,111,114,116,97,110,116]:Str).length)<|
       some (LX.out (y2.1++([58,32]:Str)++y3.1++([32,33,105,109,112,111,114,116,97,110,116]:Str)))
      else
       some (LX.out (y2.1++([58,32]:Str)++y3.1))) fun j4=>
    bif decide ((j4.length:Int)>4000)then
     some ([],28)
    else
     some (j4,0)
def ZJ(x:Int):Option Int:=
 bif bif decide (x>=65)then decide (x<=90)else false then
  some (wu8 (wu8 (x - 65)+97))
 else
  some x
def qY(x:Str):Option Str:=
 need (decide (x.length<=maxLen))<|
 Za (fun(s1:Int×List UInt8)=>
   bif decide (s1.1<(s1.2.length:Int))then
    need (decide (0<=s1.1)&&decide (s1.1<(s1.2.length:Int)))<|
    zb s1.2[s1.1.toNat]? fun y2=>
    zb (ZJ (y2.toNat:Int)) fun y3=>
    need (decide (0<=s1.1)&&decide (s1.1<(s1.2.length:Int)))<|
    zb s1.2[s1.1.toNat]? fun y4=>
    zb (ZP y3) fun y5=>
    some (LO.again (w64 (s1.1+1),List.set s1.2 s1.1.toNat y5))
   else
    some (LO.out s1.2):Int×List UInt8->Option (LO (Int×List UInt8) (List UInt8) _)) (0,x) fun o6=>
 some o6
def Vv(x:Str):Option Bool:=
 bif bif decide ((x.length:Int)<1)then true else decide ((x.length:Int)>64)then
  some false
 else
  Za (fun(s1:Int)=>
    bif decide (s1<(x.length:Int))then
     zb (geti x s1) fun y2=>
     bif (y2.toNat:Int)==0 then
      some (LO.ret false)
     else
      some (LO.again (w64 (s1+1)))
    else
     some (LO.out ()):Int->Option (LO (Int) (Unit) _)) 0 fun o3=>
  need (decide (2<=(x.length:Int))|| !(decide ((x.length:Int)>=2)))<|
  bif bif decide ((x.length:Int)>=2)then List.take 2 x==[45,45]else false then
   some (decide ((x.length:Int)>2))
  else
   zb (qY x) fun y4=>
   some (x==y4)
def rA(ZB:List zg->Option (List ze))(x:List zg):Option (List ze):=
 Za (fun(s1:Int×List ze)=>
   bif decide (s1.1<(x.length:Int))then
    zS (X:=Int×List ze) (
      zb (geti x s1.1) fun y2=>
      need (Zc s1.2.length 1 56)<|
      zb (geti x s1.1) fun y3=>
      zb (Qm y3.token.kind) fun y4=>
      bif y4 != 0 then
       zb (geti x s1.1) fun y5=>
       zb (ZB y5.list) fun y6=>
       need (Zc (s1.2++[y2.token]).length y6.length 56)<|
       need (Zc (s1.2++[y2.token]++y6).length 1 56)<|
       some (LX.out (s1.1,s1.2++[y2.token]++y6++[(⟨y4,[],0,[],false⟩:ze)]))
      else
       some (LX.out (s1.1,s1.2++[y2.token]))) fun j7=>
    some (LO.again (w64 (j7.1+1),j7.2))
   else
    some (LO.out s1.2):Int×List ze->Option (LO (Int×List ze) (List ze) _)) (0,[]) fun o8=>
 some o8
def ZB:List zg->Option (List ze):=recE (rA)
def nA(qP:List zg×Int->Option Bool)(x:List zg×Int):Option Bool:=
 Za (fun(s1:Int)=>
   bif decide (s1<(x.1.length:Int))then
    zb (geti x.1 s1) fun y2=>
    zb (Qm y2.token.kind) fun y3=>
    zb (zq (y3==0) (geti x.1 s1) (default:zg)) fun y4=>
    zb (zq (x.2 != 0&& !(bif y3==0 then decide ((y4.list.length:Int)>0)else false)) (geti x.1 s1) (default:zg)) fun y5=>
    zb (zq (y3 != 0&& !(bif bif y3==0 then decide ((y4.list.length:Int)>0)else false then true else bif x.2 != 0 then y5.token.kind==x.2 else false)) (geti x.1 s1) (default:zg)) fun y6=>
    zb (zq (y3 != 0&& !(bif bif y3==0 then decide ((y4.list.length:Int)>0)else false then true else bif x.2 != 0 then y5.token.kind==x.2 else false)) (qP (y6.list,y3)) (default:Bool)) fun y7=>
    bif bif bif bif y3==0 then decide ((y4.list.length:Int)>0)else false then true else bif x.2 != 0 then y5.token.kind==x.2 else false then true else bif y3 != 0 then !y7 else false then
     some (LO.ret false)
    else
     some (LO.again (w64 (s1+1)))
   else
    some (LO.out ()):Int->Option (LO (Int) (Unit) _)) 0 fun o8=>
 some true
def qP:List zg×Int->Option Bool:=recE (nA)
def Wv(x:List zg):Option Int:=
 zb (Qf x) fun y1=>
 bif decide (y1>16)then
  some 20
 else
  zb (ZB x) fun y2=>
  bif decide ((y2.length:Int)>1500)then
   some 4
  else
   zb (qP (x,0)) fun y3=>
   bif !y3 then
    some 8
   else
    some 0
def Wl(x:Str):Option Bool:=
 Za (fun(s1:Int)=>
   bif decide (s1<(x.length:Int))then
    zb (geti x s1) fun y2=>
    bif (y2.toNat:Int)==0 then
     some (LO.ret false)
    else
     some (LO.again (w64 (s1+1)))
   else
    some (LO.out ()):Int->Option (LO (Int) (Unit) _)) 0 fun o3=>
 some true
def zw(x:Int):Option Bool:=
 some (bif decide (x>=48)then decide (x<=57)else false)
def Nv(x:Str):Option Bool:=
 bif x==[]then
  some false
 else
  zb (geti x 0) fun y1=>
  zb (zw (y1.toNat:Int)) fun y2=>
  zb (zq (!(bif y2 then true else x==[45])) (geti x 0) 0) fun y3=>
  zb (zq ((y3.toNat:Int)==45&& !(bif y2 then true else x==[45])) (geti x 1) 0) fun y4=>
  zb (zq ((y3.toNat:Int)==45&& !(bif y2 then true else x==[45])) (zw (y4.toNat:Int)) (default:Bool)) fun y5=>
  some (bif bif y2 then true else x==[45]then true else bif (y3.toNat:Int)==45 then y5 else false)
def ZU(x:Int):Option Bool:=
 some (bif bif x==10 then true else x==9 then true else x==32)
def zu(x:Str×Int):Option Int:=
 bif decide (x.2<(x.1.length:Int))then
  zb (geti x.1 x.2) fun y1=>
  some (y1.toNat:Int)
 else
  some 0
def Z0(x:Str×Int):Option Int:=
 Za (fun(s1:Int)=>
   zb (zu (x.1,s1)) fun y2=>
   zb (ZU y2) fun y3=>
   bif y3 then
    some (LO.again (w64 (s1+1)))
   else
    some (LO.out s1):Int->Option (LO (Int) (Int) _)) x.2 fun o4=>
 some o4
def Nl(x:Unit):Option Str:=
 some [(239:UInt8),(191:UInt8),(189:UInt8)]
def Jk(x:Int):Option Int:=
 zb (zw x) fun y1=>
 bif y1 then
  some (w64 (wu8 (x - 48)))
 else
  zb (ZJ x) fun y2=>
  bif bif decide (y2>=97)then decide (y2<=102)else false then
   some (w64 (w64 (wu8 (y2 - 97))+10))
  else
   some (-1)
def rq(x:Int):Option Str:=
 bif bif bif x==0 then true else bif decide (x>=55296)then decide (x<=57343)else false then true else decide (x>1114111)then
  zb (Nl ()) fun y1=>
  some y1
 else
  bif decide (x<128)then
   zb (ZP (wu8 x)) fun y2=>
   some [y2]
  else
   bif decide (x<2048)then
    zb (ZP (wu8 (w64 (192+w64 (Int.tdiv x 64))))) fun y3=>
    zb (ZP (wu8 (w64 (128+Int.tmod x 64)))) fun y4=>
    some [y3,y4]
   else
    bif decide (x<65536)then
     zb (ZP (wu8 (w64 (224+w64 (Int.tdiv x 4096))))) fun y5=>
     zb (ZP (wu8 (w64 (128+Int.tmod (w64 (Int.tdiv x 64)) 64)))) fun y6=>
     zb (ZP (wu8 (w64 (128+Int.tmod x 64)))) fun y7=>
     some [y5,y6,y7]
    else
     zb (ZP (wu8 (w64 (240+w64 (Int.tdiv x 262144))))) fun y8=>
     zb (ZP (wu8 (w64 (128+Int.tmod (w64 (Int.tdiv x 4096)) 64)))) fun y9=>
     zb (ZP (wu8 (w64 (128+Int.tmod (w64 (Int.tdiv x 64)) 64)))) fun y10=>
     zb (ZP (wu8 (w64 (128+Int.tmod x 64)))) fun y11=>
     some [y8,y9,y10,y11]
def Zk(x:Str×Int):Option (Str×Int):=
 bif decide (w64 (x.2+1)>=(x.1.length:Int))then
  zb (Nl ()) fun y1=>
  some (y1,w64 (x.2+1))
 else
  zb (geti x.1 (w64 (x.2+1))) fun y2=>
  zb (Jk (y2.toNat:Int)) fun y3=>
  bif decide (y3<0)then
   need (decide (0<=w64 (x.2+1))&&(decide (w64 (x.2+1)<=w64 (w64 (x.2+1)+1))&&decide (w64 (w64 (x.2+1)+1)<=(x.1.length:Int))))<|
   some (List.drop (w64 (x.2+1)).toNat (List.take (w64 (w64 (x.2+1)+1)).toNat x.1),w64 (w64 (x.2+1)+1))
  else
   Za (fun(s4:Int×Int)=>
     zb (zq (bif decide (s4.2<(x.1.length:Int))then decide (s4.2<w64 (w64 (x.2+1)+6))else false) (geti x.1 s4.2) 0) fun y5=>
     zb (zq (bif decide (s4.2<(x.1.length:Int))then decide (s4.2<w64 (w64 (x.2+1)+6))else false) (Jk (y5.toNat:Int)) (default:Int)) fun y6=>
     bif bif bif decide (s4.2<(x.1.length:Int))then decide (s4.2<w64 (w64 (x.2+1)+6))else false then decide (y6>=0)else false then
      zb (geti x.1 s4.2) fun y7=>
      zb (Jk (y7.toNat:Int)) fun y8=>
      some (LO.again (w64 (w64 (16*s4.1)+y8),w64 (s4.2+1)))
     else
      some (LO.out (s4.1,s4.2)):Int×Int->Option (LO (Int×Int) (Int×Int) _)) (0,w64 (x.2+1)) fun o9=>
   zS (X:=Int) (
     zb (zu (x.1,o9.2)) fun y10=>
     zb (ZU y10) fun y11=>
     bif y11 then
      some (LX.out (w64 (o9.2+1)))
     else
      some (LX.out o9.2)) fun j12=>
   zb (rq o9.1) fun y13=>
   some (y13,j12)
def Ao(x:Str×Int):Option (ze×Int):=
 zb (geti x.1 x.2) fun y1=>
 Za (fun(s2:Int×ze×ze)=>
   bif decide (s2.1<(x.1.length:Int))then
    zb (geti x.1 s2.1) fun y3=>
    bif (y3.toNat:Int)==(y1.toNat:Int)then
     some (LO.ret (s2.2.2,w64 (s2.1+1)))
    else
     zb (geti x.1 s2.1) fun y4=>
     bif (y4.toNat:Int)==10 then
      some (LO.ret ((⟨6,[],0,[],false⟩:ze),s2.1))
     else
      zb (geti x.1 s2.1) fun y5=>
      bif bif (y5.toNat:Int)==92 then w64 (s2.1+1)==(x.1.length:Int)else false then
       some (LO.again (w64 (s2.1+1),s2.2.1,s2.2.2))
      else
       zb (geti x.1 s2.1) fun y6=>
       zb (zq ((y6.toNat:Int)==92) (geti x.1 (w64 (s2.1+1))) 0) fun y7=>
       bif bif (y6.toNat:Int)==92 then(y7.toNat:Int)==10 else false then
        some (LO.again (w64 (s2.1+2),s2.2.1,s2.2.2))
       else
        zb (geti x.1 s2.1) fun y8=>
        bif (y8.toNat:Int)==92 then
         zb (Zk (x.1,s2.1)) fun y9=>
         need (Zf s2.2.2.text.length y9.1.length)<|
         some (LO.again (y9.2,s2.2.1,(⟨s2.2.2.kind,s2.2.2.text++y9.1,s2.2.2.num,s2.2.2.unit,s2.2.2.flag⟩:ze)))
        else
         need (decide (0<=s2.1)&&(decide (s2.1<=w64 (s2.1+1))&&decide (w64 (s2.1+1)<=(x.1.length:Int))))<|
         need (Zf s2.2.2.text.length (List.drop s2.1.toNat (List.take (w64 (s2.1+1)).toNat x.1)).length)<|
         some (LO.again (w64 (s2.1+1),s2.2.1,(⟨s2.2.2.kind,s2.2.2.text++List.drop s2.1.toNat (List.take (w64 (s2.1+1)).toNat x.1),s2.2.2.num,s2.2.2.unit,s2.2.2.flag⟩:ze)))
   else
    some (LO.out (s2.1,s2.2.1,s2.2.2)):Int×ze×ze->Option (LO (Int×ze×ze) (Int×ze×ze) _)) (w64 (x.2+1),(⟨0,[],0,[],false⟩:ze),(⟨5,[],0,[],false⟩:ze)) fun o10=>
 some (o10.2.2,o10.1)
def Bo(x:Int):Option Bool:=
 zb (ZJ x) fun y1=>
 some (bif bif bif decide (y1>=97)then decide (y1<=122)else false then true else x==95 then true else decide (x>=128))
def Zr(x:Int):Option Bool:=
 zb (Bo x) fun y1=>
 zb (zq (!y1) (zw x) (default:Bool)) fun y2=>
 some (bif bif y1 then true else y2 then true else x==45)
def zY(x:Str×Int):Option Bool:=
 zb (zu (x.1,x.2)) fun y1=>
 zb (zq (y1==92) (zu (x.1,w64 (x.2+1))) (default:Int)) fun y2=>
 some (bif y1==92 then y2 != 10 else false)
def qE(x:Str×Int):Option (Str×Int):=
 Za (fun(s1:Int×Str)=>
   zb (zq (decide (s1.1<(x.1.length:Int))) (geti x.1 s1.1) 0) fun y2=>
   zb (zq (decide (s1.1<(x.1.length:Int))) (Zr (y2.toNat:Int)) (default:Bool)) fun y3=>
   bif bif decide (s1.1<(x.1.length:Int))then y3 else false then
    need (decide (0<=s1.1)&&(decide (s1.1<=w64 (s1.1+1))&&decide (w64 (s1.1+1)<=(x.1.length:Int))))<|
    need (Zf s1.2.length (List.drop s1.1.toNat (List.take (w64 (s1.1+1)).toNat x.1)).length)<|
    some (LO.again (w64 (s1.1+1),s1.2++List.drop s1.1.toNat (List.take (w64 (s1.1+1)).toNat x.1)))
   else
    zb (zq (decide (s1.1<(x.1.length:Int))) (zY (x.1,s1.1)) (default:Bool)) fun y4=>
    bif bif decide (s1.1<(x.1.length:Int))then y4 else false then
     zb (Zk (x.1,s1.1)) fun y5=>
     need (Zf s1.2.length y5.1.length)<|
     some (LO.again (y5.2,s1.2++y5.1))
    else
     some (LO.ret (s1.2,s1.1)):Int×Str->Option (LO (Int×Str) (Unit) _)) (x.2,[]) fun o6=>
 none
def ZL(x:Str×Int):Option Bool:=
 zb (zu (x.1,x.2)) fun y1=>
 bif y1==45 then
  zb (zu (x.1,w64 (x.2+1))) fun y2=>
  zb (Bo y2) fun y3=>
  zb (zq (!y3) (zu (x.1,w64 (x.2+1))) (default:Int)) fun y4=>
  zb (zq (!(bif y3 then true else y4==45)) (zY (x.1,w64 (x.2+1))) (default:Bool)) fun y5=>
  some (bif bif y3 then true else y4==45 then true else y5)
 else
  zb (zu (x.1,x.2)) fun y6=>
  zb (Bo y6) fun y7=>
  zb (zq (!y7) (zY (x.1,x.2)) (default:Bool)) fun y8=>
  some (bif y7 then true else y8)
def QX(x:Str×Int):Option Bool:=
 zS (X:=Int) (
   zb (zu (x.1,x.2)) fun y1=>
   bif bif y1==43 then true else y1==45 then
    some (LX.out (w64 (x.2+1)))
   else
    some (LX.out x.2)) fun j2=>
 zS (X:=Int) (
   zb (zu (x.1,j2)) fun y3=>
   bif y3==46 then
    some (LX.out (w64 (j2+1)))
   else
    some (LX.out j2)) fun j4=>
 zb (zu (x.1,j4)) fun y5=>
 zb (zw y5) fun y6=>
 some y6
def qN(x:Str×Int):Option Int:=
 Za (fun(s1:Int)=>
   zb (zu (x.1,s1)) fun y2=>
   zb (zw y2) fun y3=>
   bif y3 then
    some (LO.again (w64 (s1+1)))
   else
    some (LO.out s1):Int->Option (LO (Int) (Int) _)) x.2 fun o4=>
 some o4
def qZ(x:Str×Int):Option (Int×Bool):=
 zS (X:=Int) (
   zb (zu (x.1,x.2)) fun y1=>
   bif bif y1==43 then true else y1==45 then
    some (LX.out (w64 (x.2+1)))
   else
    some (LX.out x.2)) fun j2=>
 zb (qN (x.1,j2)) fun y3=>
 zS (X:=Int×Bool) (
   zb (zu (x.1,y3)) fun y4=>
   zb (zq (y4==46) (zu (x.1,w64 (y3+1))) (default:Int)) fun y5=>
   zb (zq (y4==46) (zw y5) (default:Bool)) fun y6=>
   bif bif y4==46 then y6 else false then
    zb (qN (x.1,w64 (y3+1))) fun y7=>
    some (LX.out (y7,false))
   else
    some (LX.out (y3,true))) fun j8=>
 zS (X:=Int×Bool) (
   zb (zu (x.1,j8.1)) fun y9=>
   bif bif y9==101 then true else y9==69 then
    zS (X:=Int×Bool×Int) (
      zb (zu (x.1,w64 (j8.1+1))) fun y10=>
      bif bif y10==43 then true else y10==45 then
       some (LX.out (j8.1,j8.2,w64 (w64 (j8.1+1)+1)))
      else
       some (LX.out (j8.1,j8.2,w64 (j8.1+1)))) fun j11=>
    zb (zu (x.1,j11.2.2)) fun y12=>
    zb (zw y12) fun y13=>
    bif y13 then
     zb (qN (x.1,j11.2.2)) fun y14=>
     some (LX.out (y14,false))
    else
     some (LX.out (j11.1,j11.2.1))
   else
    some (LX.out (j8.1,j8.2))) fun j15=>
 some (j15.1,j15.2)
def qa(x:Str):Option Int:=
 zb (geti x 0) fun y1=>
 zS (X:=Str×Int×Int) (
   zb (geti x 0) fun y2=>
   bif bif (y2.toNat:Int)==43 then true else(y1.toNat:Int)==45 then
    some (LX.out ([],3,1))
   else
    some (LX.out ([],3,0))) fun j3=>
 Za (fun(s4:Str×Int)=>
   zb (zu (x,s4.2)) fun y5=>
   zb (zw y5) fun y6=>
   bif y6 then
    need (decide (0<=s4.2)&&(decide (s4.2<=w64 (s4.2+1))&&decide (w64 (s4.2+1)<=(x.length:Int))))<|
    need (Zf s4.1.length (List.drop s4.2.toNat (List.take (w64 (s4.2+1)).toNat x)).length)<|
    some (LO.again (s4.1++List.drop s4.2.toNat (List.take (w64 (s4.2+1)).toNat x),w64 (s4.2+1)))
   else
    some (LO.out (s4.1,s4.2)):Str×Int->Option (LO (Str×Int) (Str×Int) _)) (j3.1,j3.2.2) fun o7=>
 zS (X:=Str×Int×Int) (
   zb (zu (x,o7.2)) fun y8=>
   bif y8==46 then
    Za (fun(s9:Str×Int×Int)=>
      zb (zu (x,s9.2.2)) fun y10=>
      zb (zw y10) fun y11=>
      bif y11 then
       need (decide (0<=s9.2.2)&&(decide (s9.2.2<=w64 (s9.2.2+1))&&decide (w64 (s9.2.2+1)<=(x.length:Int))))<|
       need (Zf s9.1.length (List.drop s9.2.2.toNat (List.take (w64 (s9.2.2+1)).toNat x)).length)<|
       some (LO.again (s9.1++List.drop s9.2.2.toNat (List.take (w64 (s9.2.2+1)).toNat x),w64 (s9.2.1 - 1),w64 (s9.2.2+1)))
      else
       some (LO.out (s9.1,s9.2.1,s9.2.2)):Str×Int×Int->Option (LO (Str×Int×Int) (Str×Int×Int) _)) (o7.1,j3.2.1,w64 (o7.2+1)) fun o12=>
    some (LX.out (o12.1,o12.2.1,o12.2.2))
   else
    some (LX.out (o7.1,j3.2.1,o7.2))) fun j13=>
 zS (X:=Int) (
   bif decide (j13.2.2<(x.length:Int))then
    zb (geti x (w64 (j13.2.2+1))) fun y14=>
    zS (X:=Int×Int) (
      zb (geti x (w64 (j13.2.2+1))) fun y15=>
      bif bif (y15.toNat:Int)==43 then true else(y14.toNat:Int)==45 then
       some (LX.out (j13.2.1,w64 (w64 (j13.2.2+1)+1)))
      else
       some (LX.out (j13.2.1,w64 (j13.2.2+1)))) fun j16=>
    Za (fun(s17:Int×Int)=>
      bif decide (s17.1<(x.length:Int))then
       zb (geti x s17.1) fun y18=>
       some (LO.again (w64 (s17.1+1),if w64 (w64 (10*s17.2)+w64 (wu8 ((y18.toNat:Int) - 48)))<10000 then w64 (w64 (10*s17.2)+w64 (wu8 ((y18.toNat:Int) - 48)))else 10000))
      else
       some (LO.out s17.2):Int×Int->Option (LO (Int×Int) (Int) _)) (j16.2,0) fun o19=>
    zS (X:=Int×Int) (
      bif (y14.toNat:Int)==45 then
       some (LX.out (j16.1,w64 (0 - o19)))
      else
       some (LX.out (j16.1,o19))) fun j20=>
    some (LX.out (w64 (j20.1+j20.2)))
   else
    some (LX.out j13.2.1)) fun j21=>
 Za (fun(s22:Int×Int)=>
   bif bif decide (s22.2<w64 ((j13.1.length:Int)+j21))then decide (s22.2<(j13.1.length:Int))else false then
    zb (geti j13.1 s22.2) fun y23=>
    some (LO.again (if w64 (w64 (10*s22.1)+w64 (wu8 ((y23.toNat:Int) - 48)))<1000000000000 then w64 (w64 (10*s22.1)+w64 (wu8 ((y23.toNat:Int) - 48)))else 1000000000000,w64 (s22.2+1)))
   else
    some (LO.out s22.1):Int×Int->Option (LO (Int×Int) (Int) _)) (0,0) fun o24=>
 Za (fun(s25:Int×Int)=>
   bif bif bif decide (s25.1>0)then decide (s25.2>0)else false then decide (s25.2<1000000000000)else false then
    some (LO.again (w64 (s25.1 - 1),if w64 (10*s25.2)<1000000000000 then w64 (10*s25.2)else 1000000000000))
   else
    some (LO.out s25.2):Int×Int->Option (LO (Int×Int) (Int) _)) (j21,o24) fun o26=>
 bif (y1.toNat:Int)==45 then
  some (w64 (0 - o26))
 else
  some o26
def QH(x:Str×Int):Option (ze×Int):=
 zb (qZ (x.1,x.2)) fun y1=>
 need (decide (0<=x.2)&&(decide (x.2<=y1.1)&&decide (y1.1<=(x.1.length:Int))))<|
 zb (qa (List.drop x.2.toNat (List.take y1.1.toNat x.1))) fun y2=>
 zS (X:=Int×ze×ze) (
   zb (ZL (x.1,y1.1)) fun y3=>
   bif y3 then
    zb (qE (x.1,y1.1)) fun y4=>
    some (LX.out (y4.2,(⟨0,[],0,[],false⟩:ze),(⟨12,[],y2,y4.1,y1.2⟩:ze)))
   else
    zb (zu (x.1,y1.1)) fun y5=>
    bif y5==37 then
     some (LX.out (w64 (y1.1+1),(⟨0,[],0,[],false⟩:ze),(⟨11,[],y2,[],false⟩:ze)))
    else
     some (LX.out (y1.1,(⟨0,[],0,[],false⟩:ze),(⟨10,[],y2,[],y1.2⟩:ze)))) fun j6=>
 some (j6.2.2,j6.1)
def QN(x:Str×Int×Str):Option Bool:=
 need (decide (0<=x.2.1)&&(decide (x.2.1<=w64 (x.2.1+(x.2.2.length:Int)))&&decide (w64 (x.2.1+(x.2.2.length:Int))<=(x.1.length:Int)))|| !(decide (w64 ((x.1.length:Int) - x.2.1)>=(x.2.2.length:Int))))<|
 some (bif decide (w64 ((x.1.length:Int) - x.2.1)>=(x.2.2.length:Int))then List.drop x.2.1.toNat (List.take (w64 (x.2.1+(x.2.2.length:Int))).toNat x.1)==x.2.2 else false)
def Z9(x:Str×Str):Option Bool:=
 zb (qY x.1) fun y1=>
 zb (qY x.2) fun y2=>
 some (y1==y2)
def Fj(x:Str×Int):Option (ze×Int):=
 Za (fun(s1:Int)=>
   zb (zq (decide (s1<(x.1.length:Int))) (geti x.1 s1) 0) fun y2=>
   bif bif decide (s1<(x.1.length:Int))then(y2.toNat:Int) != 41 else false then
    zb (zY (x.1,s1)) fun y3=>
    bif y3 then
     zb (Zk (x.1,s1)) fun y4=>
     some (LO.again y4.2)
    else
     some (LO.again (w64 (s1+1)))
   else
    some (LO.out s1):Int->Option (LO (Int) (Int) _)) x.2 fun o5=>
 some ((⟨8,[],0,[],false⟩:ze),if w64 (o5+1)<(x.1.length:Int)then w64 (o5+1)else(x.1.length:Int))
def qU(x:Int):Option Bool:=
 some (bif bif bif decide (x<=8)then true else x==11 then true else bif decide (x>=14)then decide (x<=31)else false then true else x==127)
def Nn(x:Str×Int):Option (ze×Int):=
 zb (Z0 (x.1,x.2)) fun y1=>
 Za (fun(s2:Int×ze×ze)=>
   zb (zq (decide (s2.1<(x.1.length:Int))) (geti x.1 s2.1) 0) fun y3=>
   bif bif decide (s2.1<(x.1.length:Int))then(y3.toNat:Int) != 41 else false then
    zb (geti x.1 s2.1) fun y4=>
    zb (ZU (y4.toNat:Int)) fun y5=>
    bif y5 then
     zb (Z0 (x.1,s2.1)) fun y6=>
     zb (zq (decide (y6<(x.1.length:Int))) (geti x.1 y6) 0) fun y7=>
     bif bif decide (y6<(x.1.length:Int))then(y7.toNat:Int) != 41 else false then
      zb (Fj (x.1,y6)) fun y8=>
      some (LO.ret (y8.1,y8.2))
     else
      some (LO.again (y6,s2.2.1,s2.2.2))
    else
     zb (zq (!(bif bif (y4.toNat:Int)==34 then true else(y4.toNat:Int)==39 then true else(y4.toNat:Int)==40)) (qU (y4.toNat:Int)) (default:Bool)) fun y9=>
     zb (zq ((y4.toNat:Int)==92&& !(bif bif bif (y4.toNat:Int)==34 then true else(y4.toNat:Int)==39 then true else(y4.toNat:Int)==40 then true else y9)) (zY (x.1,s2.1)) (default:Bool)) fun y10=>
     bif bif bif bif bif (y4.toNat:Int)==34 then true else(y4.toNat:Int)==39 then true else(y4.toNat:Int)==40 then true else y9 then true else bif (y4.toNat:Int)==92 then !y10 else false then
      zb (Fj (x.1,s2.1)) fun y11=>
      some (LO.ret (y11.1,y11.2))
     else
      bif (y4.toNat:Int)==92 then
       zb (Zk (x.1,s2.1)) fun y12=>
       need (Zf s2.2.2.text.length y12.1.length)<|
       some (LO.again (y12.2,s2.2.1,(⟨s2.2.2.kind,s2.2.2.text++y12.1,s2.2.2.num,s2.2.2.unit,s2.2.2.flag⟩:ze)))
      else
       need (decide (0<=s2.1)&&(decide (s2.1<=w64 (s2.1+1))&&decide (w64 (s2.1+1)<=(x.1.length:Int))))<|
       need (Zf s2.2.2.text.length (List.drop s2.1.toNat (List.take (w64 (s2.1+1)).toNat x.1)).length)<|
       some (LO.again (w64 (s2.1+1),s2.2.1,(⟨s2.2.2.kind,s2.2.2.text++List.drop s2.1.toNat (List.take (w64 (s2.1+1)).toNat x.1),s2.2.2.num,s2.2.2.unit,s2.2.2.flag⟩:ze)))
   else
    some (LO.out (s2.1,s2.2.1,s2.2.2)):Int×ze×ze->Option (LO (Int×ze×ze) (Int×ze×ze) _)) (y1,(⟨0,[],0,[],false⟩:ze),(⟨7,[],0,[],false⟩:ze)) fun o13=>
 some (o13.2.2,if w64 (o13.1+1)<(x.1.length:Int)then w64 (o13.1+1)else(x.1.length:Int))
def Wn(x:Str×Int):Option (ze×Int):=
 zb (qE (x.1,x.2)) fun y1=>
 zb (zu (x.1,y1.2)) fun y2=>
 bif y2 != 40 then
  some ((⟨1,y1.1,0,[],false⟩:ze),y1.2)
 else
  zS (X:=ze) (
    zb (Z9 (y1.1,[117,114,108])) fun y3=>
    bif y3 then
     zb (Z0 (x.1,w64 (y1.2+1))) fun y4=>
     zb (zu (x.1,y4)) fun y5=>
     bif bif y5 != 34 then y5 != 39 else false then
      zb (Nn (x.1,w64 (y1.2+1))) fun y6=>
      some (LX.ret (y6.1,y6.2))
     else
      some (LX.out (⟨0,[],0,[],false⟩:ze))
    else
     some (LX.out (⟨0,[],0,[],false⟩:ze))) fun j7=>
  some ((⟨2,y1.1,0,[],false⟩:ze),w64 (y1.2+1))
def Xn(x:Int):Option Int:=
 bif x==58 then
  some 16
 else
  bif x==59 then
   some 17
  else
   bif x==44 then
    some 18
   else
    bif x==91 then
     some 19
    else
     bif x==93 then
      some 20
     else
      bif x==40 then
       some 21
      else
       bif x==41 then
        some 22
       else
        bif x==123 then
         some 23
        else
         bif x==125 then
          some 24
         else
          some 0
def Gj(x:Str×Int):Option (ze×Int):=
 zb (geti x.1 x.2) fun y1=>
 zb (ZU (y1.toNat:Int)) fun y2=>
 bif y2 then
  zb (Z0 (x.1,x.2)) fun y3=>
  some ((⟨13,[],0,[],false⟩:ze),y3)
 else
  bif bif (y1.toNat:Int)==34 then true else(y1.toNat:Int)==39 then
   zb (Ao (x.1,x.2)) fun y4=>
   some (y4.1,y4.2)
  else
   zb (zq (decide (w64 (x.2+1)<(x.1.length:Int))&&(y1.toNat:Int)==35) (geti x.1 (w64 (x.2+1))) 0) fun y5=>
   zb (zq (decide (w64 (x.2+1)<(x.1.length:Int))&&(y1.toNat:Int)==35) (Zr (y5.toNat:Int)) (default:Bool)) fun y6=>
   zb (zq (!(bif decide (w64 (x.2+1)<(x.1.length:Int))then y6 else false)&&(y1.toNat:Int)==35) (zY (x.1,w64 (x.2+1))) (default:Bool)) fun y7=>
   bif bif (y1.toNat:Int)==35 then bif bif decide (w64 (x.2+1)<(x.1.length:Int))then y6 else false then true else y7 else false then
    zb (qE (x.1,w64 (x.2+1))) fun y8=>
    zb (ZL (x.1,w64 (x.2+1))) fun y9=>
    some ((⟨4,y8.1,0,[],y9⟩:ze),y8.2)
   else
    zb (QX (x.1,x.2)) fun y10=>
    bif y10 then
     zb (QH (x.1,x.2)) fun y11=>
     some (y11.1,y11.2)
    else
     zb (QN (x.1,x.2,[45,45,62])) fun y12=>
     bif y12 then
      some ((⟨15,[],0,[],false⟩:ze),w64 (x.2+3))
     else
      zb (QN (x.1,x.2,[60,33,45,45])) fun y13=>
      bif y13 then
       some ((⟨14,[],0,[],false⟩:ze),w64 (x.2+4))
      else
       zb (zq ((y1.toNat:Int)==64) (ZL (x.1,w64 (x.2+1))) (default:Bool)) fun y14=>
       bif bif (y1.toNat:Int)==64 then y14 else false then
        zb (qE (x.1,w64 (x.2+1))) fun y15=>
        some ((⟨3,y15.1,0,[],false⟩:ze),y15.2)
       else
        zb (ZL (x.1,x.2)) fun y16=>
        bif y16 then
         zb (Wn (x.1,x.2)) fun y17=>
         some (y17.1,y17.2)
        else
         zb (Xn (y1.toNat:Int)) fun y18=>
         bif y18 != 0 then
          zb (Xn (y1.toNat:Int)) fun y19=>
          some ((⟨y19,[],0,[],false⟩:ze),w64 (x.2+1))
         else
          need (decide (0<=x.2)&&(decide (x.2<=w64 (x.2+1))&&decide (w64 (x.2+1)<=(x.1.length:Int))))<|
          some ((⟨9,List.drop x.2.toNat (List.take (w64 (x.2+1)).toNat x.1),0,[],false⟩:ze),w64 (x.2+1))
def Qa(x:Int):Option Bool:=
 zb (ZP x) fun y1=>
 zb (Gj ([y1,(10:UInt8)],0)) fun y2=>
 some (bif bif bif bif decide (x>=1)then decide (x<=127)else false then x != 12 else false then x != 13 else false then y2.1.kind==9 else false)
def Mv(x:ze):Option Bool:=
 zS (X:=Bool×ze) (
   bif x.kind==1 then
    some (LX.out (x.kind==1,x))
   else
    bif x.kind==2 then
     some (LX.out (x.kind==2,x))
    else
     some (LX.out (x.kind==3,x))) fun j1=>
 bif j1.1 then
  zb (zq (!(x.text==[])) (Wl x.text) (default:Bool)) fun y2=>
  some (bif bif !(x.text==[])then y2 else false then j1.2.kind==x.kind&&(([]:Str)==[]&&(j1.2.num==0&&(j1.2.unit==[]&&(j1.2.flag==false&&true))))else false)
 else
  bif x.kind==4 then
   zb (zq (!(x.text==[])) (Wl x.text) (default:Bool)) fun y3=>
   zb (zq (!x.flag&&(bif !(x.text==[])then y3 else false)) (Nv x.text) (default:Bool)) fun y4=>
   some (bif bif bif !(x.text==[])then y3 else false then bif x.flag then true else y4 else false then j1.2.kind==x.kind&&(([]:Str)==[]&&(j1.2.num==0&&(j1.2.unit==[]&&(false==false&&true))))else false)
  else
   zS (X:=Bool×ze) (
     bif x.kind==5 then
      some (LX.out (x.kind==5,j1.2))
     else
      some (LX.out (x.kind==7,j1.2))) fun j5=>
   bif j5.1 then
    zb (Wl x.text) fun y6=>
    some (bif y6 then j5.2.kind==x.kind&&(([]:Str)==[]&&(j5.2.num==0&&(j5.2.unit==[]&&(j5.2.flag==false&&true))))else false)
   else
    bif x.kind==9 then
     zb (zq ((x.text.length:Int)==1) (geti x.text 0) 0) fun y7=>
     zb (zq ((x.text.length:Int)==1) (Qa (y7.toNat:Int)) (default:Bool)) fun y8=>
     some (bif bif (x.text.length:Int)==1 then y8 else false then j5.2.kind==x.kind&&(([]:Str)==[]&&(j5.2.num==0&&(j5.2.unit==[]&&(j5.2.flag==false&&true))))else false)
    else
     zS (X:=Bool×ze) (
       bif x.kind==10 then
        some (LX.out (x.kind==10,j5.2))
       else
        bif x.kind==11 then
         some (LX.out (x.kind==11,j5.2))
        else
         some (LX.out (x.kind==12,j5.2))) fun j9=>
     bif j9.1 then
      zb (zq ((!(x.unit==[]))==(x.kind==12)) (Wl x.unit) (default:Bool)) fun y10=>
      some (bif bif bif bif bif decide (x.num>=(-1000000000000))then decide (x.num<=1000000000000)else false then bif !x.flag then true else Int.tmod x.num 1000==0 else false then bif (!(x.unit==[]))==(x.kind==12)then y10 else false else false then bif x.kind != 11 then true else !x.flag else false then j9.2.kind==x.kind&&(j9.2.text==[]&&(0==0&&(([]:Str)==[]&&(false==false&&true))))else false)
     else
      zS (X:=Bool) (
        bif x.kind==6 then
         some (LX.out (x.kind==6))
        else
         some (LX.out (x.kind==8))) fun j11=>
      bif j11 then
       some false
      else
       some (bif bif decide (x.kind>=1)then decide (x.kind<=24)else false then x.kind==x.kind&&(x.text==[]&&(x.num==0&&(x.unit==[]&&(x.flag==false&&true))))else false)
def Ho(x:List ze):Option Int:=
 bif decide ((x.length:Int)>1500)then
  some 4
 else
  Za (fun(s1:Int)=>
    bif decide (s1<(x.length:Int))then
     zb (geti x s1) fun y2=>
     zb (Mv y2) fun y3=>
     bif !y3 then
      some (LO.ret 8)
     else
      zS (X:=Unit) (
        zb (geti x s1) fun y4=>
        zb (zq (y4.kind==2) (geti x s1) (default:ze)) fun y5=>
        zb (zq (y4.kind==2) (Z9 (y5.text,[117,114,108])) (default:Bool)) fun y6=>
        bif bif y4.kind==2 then y6 else false then
         zS (X:=Int) (
           zb (zq (decide (w64 (s1+1)<(x.length:Int))) (geti x (w64 (s1+1))) (default:ze)) fun y7=>
           bif bif decide (w64 (s1+1)<(x.length:Int))then y7.kind==13 else false then
            some (LX.out (w64 (w64 (s1+1)+1)))
           else
            some (LX.out (w64 (s1+1)))) fun j8=>
         zb (zq (!(decide (j8>=(x.length:Int)))) (geti x j8) (default:ze)) fun y9=>
         bif bif decide (j8>=(x.length:Int))then true else y9.kind != 5 then
          some (LX.ret (LO.ret 8))
         else
          some (LX.out ())
        else
         some (LX.out ())) fun j10=>
      zb (geti x s1) fun y11=>
      zb (zq (y11.kind==9) (geti x s1) (default:ze)) fun y12=>
      zb (zq (!(w64 (s1+1)==(x.length:Int))&&(bif y11.kind==9 then y12.text==[92]else false)) (geti x (w64 (s1+1))) (default:ze)) fun y13=>
      bif bif bif y11.kind==9 then y12.text==[92]else false then bif w64 (s1+1)==(x.length:Int)then true else y13.kind != 13 else false then
       some (LO.ret 8)
      else
       some (LO.again (w64 (s1+1)))
    else
     some (LO.out ()):Int->Option (LO (Int) (Unit) _)) 0 fun o14=>
  some 0
def SB(qj:List zg->Option Bool)(x:List zg):Option Bool:=
 Za (fun(s1:Int)=>
   bif decide (s1<(x.length:Int))then
    zb (geti x s1) fun y2=>
    zb (zq (!(bif bif y2.token.kind==20 then true else y2.token.kind==22 then true else y2.token.kind==24)) (geti x s1) (default:zg)) fun y3=>
    zb (zq (!(bif bif y2.token.kind==20 then true else y2.token.kind==22 then true else y2.token.kind==24)) (qj y3.list) (default:Bool)) fun y4=>
    bif bif bif bif y2.token.kind==20 then true else y2.token.kind==22 then true else y2.token.kind==24 then true else y4 then
     some (LO.ret true)
    else
     some (LO.again (w64 (s1+1)))
   else
    some (LO.out ()):Int->Option (LO (Int) (Unit) _)) 0 fun o5=>
 some false
def qj:List zg->Option Bool:=recE (SB)
def Kw(x:List zg):Option (List zg):=
 Za (fun(s1:List zg)=>
   zb (zq (decide ((s1.length:Int)>0)) (geti s1 0) (default:zg)) fun y2=>
   bif bif decide ((s1.length:Int)>0)then y2.token.kind==13 else false then
    need (decide (1<=(s1.length:Int)))<|
    some (LO.again (List.drop 1 s1))
   else
    some (LO.out s1):List zg->Option (LO (List zg) (List zg) _)) x fun o3=>
 Za (fun(s4:List zg)=>
   zb (zq (decide ((s4.length:Int)>0)) (geti s4 (w64 ((s4.length:Int) - 1))) (default:zg)) fun y5=>
   bif bif decide ((s4.length:Int)>0)then y5.token.kind==13 else false then
    need (decide (0<=w64 ((s4.length:Int) - 1))&&decide (w64 ((s4.length:Int) - 1)<=(s4.length:Int)))<|
    some (LO.again (List.take (w64 ((s4.length:Int) - 1)).toNat s4))
   else
    some (LO.out s4):List zg->Option (LO (List zg) (List zg) _)) o3 fun o6=>
 some o6
def Dw(x:Str):Option Bool:=
 need (decide (2<=(x.length:Int))|| !(decide ((x.length:Int)>2)))<|
 some (bif decide ((x.length:Int)>2)then List.take 2 x==[45,45]else false)
def Cw(x:Str×List zg):Option Bool:=
 zb (Wv x.2) fun y1=>
 zb (zq (!(y1 != 0)) (ZB x.2) (default:List ze)) fun y2=>
 zb (zq (!(y1 != 0)) (Ho y2) (default:Int)) fun y3=>
 zb (zq (!(bif y1 != 0 then true else y3 != 0)) (qj x.2) (default:Bool)) fun y4=>
 bif bif bif y1 != 0 then true else y3 != 0 then true else y4 then
  some false
 else
  zb (Kw x.2) fun y5=>
  zb (zq ((x.2.length:Int)==0&& !((y5.length:Int) != (x.2.length:Int))) (Dw x.1) (default:Bool)) fun y6=>
  bif bif (y5.length:Int) != (x.2.length:Int)then true else bif (x.2.length:Int)==0 then !y6 else false then
   some false
  else
   Za (fun(s7:Int)=>
     bif decide (s7<(x.2.length:Int))then
      zb (geti x.2 s7) fun y8=>
      bif bif y8.token.kind==17 then true else bif y8.token.kind==9 then y8.token.text==[33]else false then
       some (LO.ret false)
      else
       some (LO.again (w64 (s7+1)))
     else
      some (LO.out ()):Int->Option (LO (Int) (Unit) _)) 0 fun o9=>
   some true
def QI(x:Zj):Option Int:=
 zb (Vv x.name) fun y1=>
 zb (zq (!(!y1)) (Cw (x.name,x.value)) (default:Bool)) fun y2=>
 bif bif !y1 then true else !y2 then
  some 8
 else
  some 0
def qO(x:Int):Option Str:=
 zb (ZJ x) fun y1=>
 zb (zq (bif decide (x>=33)then decide (x<=126)else false) (zw x) (default:Bool)) fun y2=>
 bif bif bif bif decide (x>=33)then decide (x<=126)else false then !y2 else false then bif decide (y1<97)then true else decide (y1>122)else false then
  zb (ZP x) fun y3=>
  some [(92:UInt8),y3]
 else
  need (decide (0<=Int.tmod x 16)&&(decide (Int.tmod x 16<=wu8 (Int.tmod x 16+1))&&decide (wu8 (Int.tmod x 16+1)<=16)))<|
  zS (X:=Str) (
    bif decide (x>=16)then
     need (decide (0<=wu8 (Int.tdiv x 16))&&(decide (wu8 (Int.tdiv x 16)<=wu8 (wu8 (Int.tdiv x 16)+1))&&decide (wu8 (wu8 (Int.tdiv x 16)+1)<=16)))<|
     need (Zf (List.drop (wu8 (Int.tdiv x 16)).toNat (List.take (wu8 (wu8 (Int.tdiv x 16)+1)).toNat ([48,49,50,51,52,53,54,55,56,57,97,98,99,100,101,102]:Str))).length (List.drop (Int.tmod x 16).toNat (List.take (wu8 (Int.tmod x 16+1)).toNat ([48,49,50,51,52,53,54,55,56,57,97,98,99,100,101,102]:Str))).length)<|
     some (LX.out (List.drop (wu8 (Int.tdiv x 16)).toNat (List.take (wu8 (wu8 (Int.tdiv x 16)+1)).toNat ([48,49,50,51,52,53,54,55,56,57,97,98,99,100,101,102]:Str))++List.drop (Int.tmod x 16).toNat (List.take (wu8 (Int.tmod x 16+1)).toNat ([48,49,50,51,52,53,54,55,56,57,97,98,99,100,101,102]:Str))))
    else
     some (LX.out (List.drop (Int.tmod x 16).toNat (List.take (wu8 (Int.tmod x 16+1)).toNat ([48,49,50,51,52,53,54,55,56,57,97,98,99,100,101,102]:Str))))) fun j4=>
  need (Zf ([92]:Str).length j4.length)<|
  need (Zf (([92]:Str)++j4).length ([32]:Str).length)<|
  some (([92]:Str)++j4++([32]:Str))
def ZV(x:Str×Bool):Option Str:=
 Za (fun(s1:Str×Int)=>
   bif decide (s1.2<(x.1.length:Int))then
    zS (X:=Str×Int) (
      zb (geti x.1 s1.2) fun y2=>
      zb (zq (s1.2==1&& !(s1.2==0)) (geti x.1 0) 0) fun y3=>
      zb (Zr (y2.toNat:Int)) fun y4=>
      zS (X:=Str×Bool) (
        zb (zq (!x.2) (zw (y2.toNat:Int)) (default:Bool)) fun y5=>
        bif bif !x.2 then bif bif y5 then bif s1.2==0 then true else bif s1.2==1 then(y3.toNat:Int)==45 else false else false then true else x.1==[45]else false then
         some (LX.out (s1.1,false))
        else
         some (LX.out (s1.1,y4))) fun j6=>
      bif j6.2 then
       need (decide (0<=s1.2)&&(decide (s1.2<=w64 (s1.2+1))&&decide (w64 (s1.2+1)<=(x.1.length:Int))))<|
       need (Zf j6.1.length (List.drop s1.2.toNat (List.take (w64 (s1.2+1)).toNat x.1)).length)<|
       some (LX.out (j6.1++List.drop s1.2.toNat (List.take (w64 (s1.2+1)).toNat x.1),s1.2))
      else
       zb (qO (y2.toNat:Int)) fun y7=>
       need (Zf j6.1.length y7.length)<|
       some (LX.out (j6.1++y7,s1.2))) fun j8=>
    some (LO.again (j8.1,w64 (j8.2+1)))
   else
    some (LO.out s1.1):Str×Int->Option (LO (Str×Int) (Str) _)) ([],0) fun o9=>
 some o9
def Cr(x:Str×Bool):Option Str:=
 Za (fun(s1:Str×Int)=>
   bif decide (s1.2<(x.1.length:Int))then
    zS (X:=Str×Int) (
      zb (geti x.1 s1.2) fun y2=>
      zS (X:=Str×Bool) (
        bif x.2 then
         some (LX.out (s1.1,bif bif bif bif bif bif bif bif bif (y2.toNat:Int)==10 then true else(y2.toNat:Int)==12 then true else(y2.toNat:Int)==13 then true else(y2.toNat:Int)==34 then true else(y2.toNat:Int)==92 then true else decide ((y2.toNat:Int)<=32)then true else(y2.toNat:Int)==127 then true else(y2.toNat:Int)==39 then true else(y2.toNat:Int)==40 then true else(y2.toNat:Int)==41))
        else
         some (LX.out (s1.1,bif bif bif bif (y2.toNat:Int)==10 then true else(y2.toNat:Int)==12 then true else(y2.toNat:Int)==13 then true else(y2.toNat:Int)==34 then true else(y2.toNat:Int)==92))) fun j3=>
      bif j3.2 then
       zb (qO (y2.toNat:Int)) fun y4=>
       need (Zf j3.1.length y4.length)<|
       some (LX.out (j3.1++y4,s1.2))
      else
       need (decide (0<=s1.2)&&(decide (s1.2<=w64 (s1.2+1))&&decide (w64 (s1.2+1)<=(x.1.length:Int))))<|
       need (Zf j3.1.length (List.drop s1.2.toNat (List.take (w64 (s1.2+1)).toNat x.1)).length)<|
       some (LX.out (j3.1++List.drop s1.2.toNat (List.take (w64 (s1.2+1)).toNat x.1),s1.2))) fun j5=>
    some (LO.again (j5.1,w64 (j5.2+1)))
   else
    some (LO.out s1.1):Str×Int->Option (LO (Str×Int) (Str) _)) ([],0) fun o6=>
 some o6
def xA(qw:Int->Option Str)(x:Int):Option Str:=
 bif decide (x<10)then
  need (decide (0<=x)&&(decide (x<=w64 (x+1))&&decide (w64 (x+1)<=16)))<|
  some (List.drop x.toNat (List.take (w64 (x+1)).toNat ([48,49,50,51,52,53,54,55,56,57,97,98,99,100,101,102]:Str)))
 else
  zb (qw (w64 (Int.tdiv x 10))) fun y1=>
  need (decide (0<=Int.tmod x 10)&&(decide (Int.tmod x 10<=w64 (Int.tmod x 10+1))&&decide (w64 (Int.tmod x 10+1)<=16)))<|
  need (Zf y1.length (List.drop (Int.tmod x 10).toNat (List.take (w64 (Int.tmod x 10+1)).toNat ([48,49,50,51,52,53,54,55,56,57,97,98,99,100,101,102]:Str))).length)<|
  some (y1++List.drop (Int.tmod x 10).toNat (List.take (w64 (Int.tmod x 10+1)).toNat ([48,49,50,51,52,53,54,55,56,57,97,98,99,100,101,102]:Str)))
def qw:Int->Option Str:=recE (xA)
def uA(Z4:Int×Bool->Option Str)(x:Int×Bool):Option Str:=
 bif decide (x.1<0)then
  zb (Z4 (w64 (0 - x.1),x.2)) fun y1=>
  need (Zf ([45]:Str).length y1.length)<|
  some (([45]:Str)++y1)
 else
  zb (qw (w64 (Int.tdiv x.1 1000))) fun y2=>
  bif Int.tmod x.1 1000==0 then
   bif x.2 then
    need (Zf y2.length ([46,48]:Str).length)<|
    some (y2++([46,48]:Str))
   else
    some y2
  else
   zb (qw (w64 (Int.tmod x.1 1000+1000))) fun y3=>
   need (decide (1<=(y3.length:Int)))<|
   Za (fun(s4:Str)=>
     zb (geti s4 (w64 ((s4.length:Int) - 1))) fun y5=>
     bif (y5.toNat:Int)==48 then
      need (decide (0<=w64 ((s4.length:Int) - 1))&&decide (w64 ((s4.length:Int) - 1)<=(s4.length:Int)))<|
      some (LO.again (List.take (w64 ((s4.length:Int) - 1)).toNat s4))
     else
      some (LO.out s4):Str->Option (LO (Str) (Str) _)) (List.drop 1 y3) fun o6=>
   need (Zf y2.length ([46]:Str).length)<|
   need (Zf (y2++([46]:Str)).length o6.length)<|
   some (y2++([46]:Str)++o6)
def Z4:Int×Bool->Option Str:=recE (uA)
def Kv(x:Str):Option Str:=
 zb (geti x 0) fun y1=>
 zb (ZJ (y1.toNat:Int)) fun y2=>
 zb (zq (y2==101) (zu (x,1)) (default:Int)) fun y3=>
 zb (zq (y2==101) (zw y3) (default:Bool)) fun y4=>
 zb (zq (!y4&&y2==101) (zu (x,1)) (default:Int)) fun y5=>
 zb (zq (y5==45&&(!y4&&y2==101)) (zu (x,2)) (default:Int)) fun y6=>
 zb (zq (y5==45&&(!y4&&y2==101)) (zw y6) (default:Bool)) fun y7=>
 bif bif y2==101 then bif y4 then true else bif y5==45 then y7 else false else false then
  zb (geti x 0) fun y8=>
  zb (qO (y8.toNat:Int)) fun y9=>
  Za (fun(s10:Str×Int)=>
    bif decide (s10.2<(x.length:Int))then
     zS (X:=Str×Int) (
       zb (geti x s10.2) fun y11=>
       zb (Zr (y11.toNat:Int)) fun y12=>
       bif y12 then
        need (decide (0<=s10.2)&&(decide (s10.2<=w64 (s10.2+1))&&decide (w64 (s10.2+1)<=(x.length:Int))))<|
        need (Zf s10.1.length (List.drop s10.2.toNat (List.take (w64 (s10.2+1)).toNat x)).length)<|
        some (LX.out (s10.1++List.drop s10.2.toNat (List.take (w64 (s10.2+1)).toNat x),s10.2))
       else
        zb (geti x s10.2) fun y13=>
        zb (qO (y13.toNat:Int)) fun y14=>
        need (Zf s10.1.length y14.length)<|
        some (LX.out (s10.1++y14,s10.2))) fun j15=>
     some (LO.again (j15.1,w64 (j15.2+1)))
    else
     some (LO.out s10.1):Str×Int->Option (LO (Str×Int) (Str) _)) (y9,1) fun o16=>
  some o16
 else
  zb (ZV (x,false)) fun y17=>
  some y17
def yn(x:ze):Option Str:=
 bif x.kind==1 then
  zb (ZV (x.text,false)) fun y1=>
  some y1
 else
  bif x.kind==2 then
   zb (ZV (x.text,false)) fun y2=>
   need (Zf y2.length ([40]:Str).length)<|
   some (y2++([40]:Str))
  else
   bif x.kind==3 then
    zb (ZV (x.text,false)) fun y3=>
    need (Zf ([64]:Str).length y3.length)<|
    some (([64]:Str)++y3)
   else
    bif x.kind==4 then
     zb (ZV (x.text, !x.flag)) fun y4=>
     need (Zf ([35]:Str).length y4.length)<|
     some (([35]:Str)++y4)
    else
     bif x.kind==5 then
      zb (Cr (x.text,false)) fun y5=>
      need (Zf ([34]:Str).length y5.length)<|
      need (Zf (([34]:Str)++y5).length ([34]:Str).length)<|
      some (([34]:Str)++y5++([34]:Str))
     else
      bif x.kind==7 then
       zb (Cr (x.text,true)) fun y6=>
       need (Zf ([117,114,108,40]:Str).length y6.length)<|
       need (Zf (([117,114,108,40]:Str)++y6).length ([41]:Str).length)<|
       some (([117,114,108,40]:Str)++y6++([41]:Str))
      else
       bif x.kind==9 then
        some x.text
       else
        bif x.kind==10 then
         zb (Z4 (x.num, !x.flag)) fun y7=>
         some y7
        else
         bif x.kind==11 then
          zb (Z4 (x.num,false)) fun y8=>
          need (Zf y8.length ([37]:Str).length)<|
          some (y8++([37]:Str))
         else
          bif x.kind==12 then
           zb (Z4 (x.num, !x.flag)) fun y9=>
           zb (Kv x.unit) fun y10=>
           need (Zf y9.length y10.length)<|
           some (y9++y10)
          else
           zb (geti [[32],[60,33,45,45],[45,45,62],[58],[59],[44],[91],[93],[40],[41],[123],[125]] (wu8 (x.kind - 13))) fun y11=>
           some y11
def Xv(x:List ze):Option (Int×Str):=
 zb (geti x 0) fun y1=>
 bif bif y1.kind==9 then y1.text==[92]else false then
  some (2,[92,10])
 else
  zb (zq (y1.kind==2) (Z9 (y1.text,[117,114,108])) (default:Bool)) fun y2=>
  bif bif y1.kind==2 then y2 else false then
   zb (yn y1) fun y3=>
   Za (fun(s4:Int×Str)=>
     zb (geti x (w64 (s4.1 - 1))) fun y5=>
     bif y5.kind != 5 then
      zb (geti x s4.1) fun y6=>
      zb (yn y6) fun y7=>
      need (Zf s4.2.length y7.length)<|
      some (LO.again (w64 (s4.1+1),s4.2++y7))
     else
      some (LO.out (s4.1,s4.2)):Int×Str->Option (LO (Int×Str) (Int×Str) _)) (1,y3) fun o8=>
   some (o8.1,o8.2)
  else
   zb (yn y1) fun y9=>
   some (1,y9)
def Yn(x:Str×Int):Option Int:=
 Za (fun(s1:Int)=>
   zb (QN (x.1,s1,[47,42])) fun y2=>
   bif y2 then
    Za (fun(s3:Int)=>
      zb (zq (decide (s3<(x.1.length:Int))) (QN (x.1,s3,[42,47])) (default:Bool)) fun y4=>
      bif bif decide (s3<(x.1.length:Int))then !y4 else false then
       some (LO.again (w64 (s3+1)))
      else
       some (LO.out s3):Int->Option (LO (Int) (Int) _)) (w64 (s1+2)) fun o5=>
    some (LO.again (if w64 (o5+2)<(x.1.length:Int)then w64 (o5+2)else(x.1.length:Int)))
   else
    some (LO.out s1):Int->Option (LO (Int) (Int) _)) x.2 fun o6=>
 some o6
def Ev(x:Str):Option (List ze×List Zl):=
 zb (Yn (x,0)) fun y1=>
 Za (fun(s2:Int×List ze×List Zl)=>
   bif decide (s2.1<(x.length:Int))then
    zb (Gj (x,s2.1)) fun y3=>
    need (Zc s2.2.1.length 1 56)<|
    need (Zc s2.2.2.length 1 16)<|
    zb (Yn (x,y3.2)) fun y4=>
    some (LO.again (y4,s2.2.1++[y3.1],s2.2.2++[(⟨s2.1,y3.2⟩:Zl)]))
   else
    some (LO.out (s2.2.1,s2.2.2)):Int×List ze×List Zl->Option (LO (Int×List ze×List Zl) (List ze×List Zl) _)) (y1,[],[]) fun o5=>
 some (o5.1,o5.2)
def Ov(x:List ze×List ze):Option Bool:=
 bif (x.1.length:Int) != (x.2.length:Int)then
  some false
 else
  Za (fun(s1:Int)=>
    bif decide (s1<(x.1.length:Int))then
     zb (geti x.1 s1) fun y2=>
     zb (geti x.2 s1) fun y3=>
     bif !(y2.kind==y3.kind&&(y2.text==y3.text&&(y2.num==y3.num&&(y2.unit==y3.unit&&(y2.flag==y3.flag&&true)))))then
      some (LO.ret false)
     else
      some (LO.again (w64 (s1+1)))
    else
     some (LO.out ()):Int->Option (LO (Int) (Unit) _)) 0 fun o4=>
  some true
def Kr(x:List ze):Option Str:=
 Za (fun(s1:Str×Int)=>
   bif decide (s1.2<(x.length:Int))then
    need (decide (0<=s1.2)&&decide (s1.2<=(x.length:Int)))<|
    zb (Xv (List.drop s1.2.toNat x)) fun y2=>
    zS (X:=Str×Int) (
      need (Zf s1.1.length y2.2.length)<|
      zb (Ev (s1.1++y2.2)) fun y3=>
      need (decide (0<=w64 (s1.2+y2.1))&&decide (w64 (s1.2+y2.1)<=(x.length:Int)))<|
      zb (Ov (y3.1,List.take (w64 (s1.2+y2.1)).toNat x)) fun y4=>
      bif !y4 then
       need (Zf s1.1.length ([47,42,42,47]:Str).length)<|
       some (LX.out (s1.1++([47,42,42,47]:Str),s1.2))
      else
       some (LX.out (s1.1,s1.2))) fun j5=>
    need (Zf j5.1.length y2.2.length)<|
    some (LO.again (j5.1++y2.2,w64 (j5.2+y2.1)))
   else
    some (LO.out s1.1):Str×Int->Option (LO (Str×Int) (Str) _)) ([],0) fun o6=>
 some o6
def QJ(x:Zj):Option Str:=
 zb (ZV (x.name,false)) fun y1=>
 need (Zf y1.length ([58,32]:Str).length)<|
 zb (ZB x.value) fun y2=>
 zb (Kr y2) fun y3=>
 need (Zf (y1++([58,32]:Str)).length y3.length)<|
 zS (X:=Str) (
   bif x.important then
    need (Zf (y1++([58,32]:Str)++y3).length ([32,33,105,109,112,111,114,116,97,110,116]:Str).length)<|
    some (LX.out (y1++([58,32]:Str)++y3++([32,33,105,109,112,111,114,116,97,110,116]:Str)))
   else
    some (LX.out (y1++([58,32]:Str)++y3))) fun j4=>
 some j4
def Fv(x:Zj):Option (Str×Int):=
 zb (QI x) fun y1=>
 bif y1 != 0 then
  some ([],8)
 else
  zb (QJ x) fun y2=>
  bif decide ((y2.length:Int)<=4000)then
   some (y2,0)
  else
   some ([],28)
def Av(x:List Zj):Option (Str×Int):=
 bif decide ((x.length:Int)>32)then
  some ([],4)
 else
  Za (fun(s1:(Bool×Int)×List Str)=>
    bif decide (s1.1.2<(x.length:Int))then
     zb (geti x s1.1.2) fun y2=>
     zb (Vn y2) fun y3=>
     bif y3.2==8 then
      some (LO.ret ([],y3.2))
     else
      need (Zc s1.2.length 1 16)<|
      some (LO.again ((bif s1.1.1 then true else y3.2 != 0,w64 (s1.1.2+1)),s1.2++[y3.1]))
    else
     some (LO.out (s1.1.1,s1.2)):(Bool×Int)×List Str->Option (LO ((Bool×Int)×List Str) (Bool×List Str) _)) ((false,0),[]) fun o4=>
  zb (Gm (o4.2,[59,32])) fun y5=>
  bif bif o4.1 then true else decide ((y5.length:Int)>4000)then
   some ([],28)
  else
   some (y5,0)
def Jv(x:List Zj):Option Str:=
 Za (fun(s1:Str×Int)=>
   bif decide (s1.2<(x.length:Int))then
    zS (X:=Str) (
      bif decide (s1.2>0)then
       need (Zf s1.1.length ([59,32]:Str).length)<|
       some (LX.out (s1.1++([59,32]:Str)))
      else
       some (LX.out s1.1)) fun j2=>
    zb (geti x s1.2) fun y3=>
    zb (QJ y3) fun y4=>
    need (Zf j2.length y4.length)<|
    some (LO.again (j2++y4,w64 (s1.2+1)))
   else
    some (LO.out s1.1):Str×Int->Option (LO (Str×Int) (Str) _)) ([],0) fun o5=>
 some o5
def Gv(x:List Zj):Option (Str×Int):=
 bif decide ((x.length:Int)>32)then
  some ([],4)
 else
  Za (fun(s1:Int)=>
    bif decide (s1<(x.length:Int))then
     zb (geti x s1) fun y2=>
     zb (QI y2) fun y3=>
     bif y3 != 0 then
      some (LO.ret ([],8))
     else
      some (LO.again (w64 (s1+1)))
    else
     some (LO.out ()):Int->Option (LO (Int) (Unit) _)) 0 fun o4=>
  zb (Jv x) fun y5=>
  bif decide ((y5.length:Int)<=4000)then
   some (y5,0)
  else
   some ([],28)
def cB(x:Zj×List Zj):Option Bool:=
 zb (Jr [x.1]) fun y1=>
 zb (zq (!y1) (Jr x.2) (default:Bool)) fun y2=>
 bif bif y1 then true else y2 then
  some true
 else
  zb (Vn x.1) fun y3=>
  zb (Fv x.1) fun y4=>
  zb (Av x.2) fun y5=>
  zb (Gv x.2) fun y6=>
  zb (dn x.1) fun y7=>
  zb (QI x.1) fun y8=>
  some (bif bif bif bif y7==y8 then y3.1==y4.1 else false then y3.2==y4.2 else false then y5.1==y6.1 else false then y5.2==y6.2 else false)
end Go.Lv.VT
end
