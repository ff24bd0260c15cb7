/- Texts. -/
import Derived.Test.YtkecjfeffabgiaaGreatDoorTy
import Derived.Test.YtkecjfeffabgiaaGreatDoorLf
noncomputable section
set_option linter.unusedSimpArgs false
set_option linter.unusedVariables false
namespace Go.Lv.VT
set_option maxRecDepth 100000
def Ny(Qo:zf×Int->Option Int)(x:zf×Int):Option Int:=
 Zj (fun(s1:Int×Int)=>
   bif bif decide (s1.2<(x.1.list.length:Int))then decide (s1.1<=x.2)else false then
    ze (geti x.1.list s1.2) fun y2=>
    ze (Qo ((⟨y2.kind,y2.name,y2.num,y2.decl,y2.list⟩:zf),w64 (x.2 - s1.1))) fun y3=>
    some (LO.again (w64 (s1.1+y3),w64 (s1.2+1)))
   else
    some (LO.out s1.1):Int×Int->Option (LO (Int×Int) (Int) _)) (1,0) fun o4=>
 some o4
def Qo:zf×Int->Option Int:=recE (Ny)
def Oy(Qm:List zb×Int->Option Int)(x:List zb×Int):Option Int:=
 Zj (fun(s1:Int×Int)=>
   bif bif decide (s1.2<(x.1.length:Int))then decide (s1.1<=x.2)else false then
    ze (geti x.1 s1.2) fun y2=>
    ze (geti x.1 s1.2) fun y3=>
    ze (geti x.1 s1.2) fun y4=>
    ze (Qm (y4.list,w64 (x.2 - s1.1))) fun y5=>
    some (LO.again (w64 (s1.1+w64 (w64 (w64 (1+(y2.token.text.length:Int))+(y3.token.unit.length:Int))+y5)),w64 (s1.2+1)))
   else
    some (LO.out s1.1):Int×Int->Option (LO (Int×Int) (Int) _)) (0,0) fun o6=>
 some o6
def Qm:List zb×Int->Option Int:=recE (Oy)
def cB(x:Int):Option Int:=
 bif x==19 then
  some 20
 else
  Zk (X:=Bool) (
    bif x==21 then
     some (LX.out (x==21))
    else
     some (LX.out (x==2))) fun j1=>
  bif j1 then
   some 22
  else
   bif x==23 then
    some 24
   else
    some 0
def lG(Km:List zb->Option Int)(x:List zb):Option Int:=
 Zj (fun(s1:Int×Int)=>
   bif decide (s1.2<(x.length:Int))then
    Zk (X:=Int×Int) (
      ze (geti x s1.2) fun y2=>
      ze (cB y2.token.kind) fun y3=>
      bif y3 != 0 then
       ze (geti x s1.2) fun y4=>
       ze (Km y4.list) fun y5=>
       some (LX.out (if w64 (1+y5)>s1.1 then w64 (1+y5)else s1.1,s1.2))
      else
       some (LX.out (s1.1,s1.2))) fun j6=>
    some (LO.again (j6.1,w64 (j6.2+1)))
   else
    some (LO.out s1.1):Int×Int->Option (LO (Int×Int) (Int) _)) (0,0) fun o7=>
 some o7
def Km:List zb->Option Int:=recE (lG)
def YB(x:List zD):Option Bool:=
 bif decide ((x.length:Int)>40)then
  some true
 else
  Zj (fun(s1:Int×Int)=>
    bif decide (s1.2<(x.length:Int))then
     ze (geti x s1.2) fun y2=>
     ze (geti x s1.2) fun y3=>
     ze (Qm (y3.value,300)) fun y4=>
     ze (zA (!(decide (w64 (s1.1+w64 ((y2.name.length:Int)+y4))>300))) (geti x s1.2) (default:zD)) fun y5=>
     ze (zA (!(decide (w64 (s1.1+w64 ((y2.name.length:Int)+y4))>300))) (Km y5.value) (default:Int)) fun y6=>
     bif bif decide (w64 (s1.1+w64 ((y2.name.length:Int)+y4))>300)then true else decide (y6>40)then
      some (LO.ret true)
     else
      some (LO.again (w64 (s1.1+w64 ((y2.name.length:Int)+y4)),w64 (s1.2+1)))
    else
     some (LO.out ()):Int×Int->Option (LO (Int×Int) (Unit) _)) (0,0) fun o7=>
  some false
def Ky(Ol:zf->Option Bool)(x:zf):Option Bool:=
 ze (YB [x.decl]) fun y1=>
 bif bif y1 then true else decide ((x.name.length:Int)>200)then
  some true
 else
  Zj (fun(s2:Int)=>
    bif decide (s2<(x.list.length:Int))then
     ze (geti x.list s2) fun y3=>
     ze (Ol (⟨y3.kind,y3.name,y3.num,y3.decl,y3.list⟩:zf)) fun y4=>
     bif y4 then
      some (LO.ret true)
     else
      some (LO.again (w64 (s2+1)))
    else
     some (LO.out ()):Int->Option (LO (Int) (Unit) _)) 0 fun o5=>
  some false
def Ol:zf->Option Bool:=recE (Ky)
def Tx(x:zf):Option Bool:=
 ze (Qo ((⟨x.kind,x.name,x.num,x.decl,x.list⟩:zf),100)) fun y1=>
 ze (zA (!(decide (y1>100))) (Ol (⟨x.kind,x.name,x.num,x.decl,x.list⟩:zf)) (default:Bool)) fun y2=>
 some (bif decide (y1>100)then true else y2)
def Ro(x:Int):Option Int:=
 bif x==2 then
  some 22
 else
  Zk (X:=Bool) (
    bif x==19 then
     some (LX.out (x==19))
    else
     bif x==21 then
      some (LX.out (x==21))
     else
      some (LX.out (x==23))) fun j1=>
  bif j1 then
   some (wu8 (x+1))
  else
   some 0
def YG(ak:List zb×Int->Option Zc)(x:List zb×Int):Option Zc:=
 Zj (fun(s1:Int×Zc)=>
   bif decide (s1.1<(x.1.length:Int))then
    Zk (X:=Int×Zc) (
      ze (geti x.1 s1.1) fun y2=>
      ze (Ro y2.token.kind) fun y3=>
      Zk (X:=Zc) (
        bif bif bif x.2 != 0 then y2.token.kind==x.2 else false then true else bif y3==0 then decide ((y2.list.length:Int)>0)else false then
         some (LX.out (⟨s1.2.depth,w64 (s1.2.tokens+1),true⟩:Zc))
        else
         some (LX.out (⟨s1.2.depth,w64 (s1.2.tokens+1),s1.2.bad⟩:Zc))) fun j4=>
      bif y3==0 then
       some (LX.out (s1.1,j4))
      else
       ze (ak (y2.list,y3)) fun y5=>
       some (LX.out (s1.1,(⟨if w64 (y5.depth+1)>j4.depth then w64 (y5.depth+1)else j4.depth,w64 (w64 (j4.tokens+y5.tokens)+1),bif j4.bad then true else y5.bad⟩:Zc)))) fun j6=>
    some (LO.again (w64 (j6.1+1),j6.2))
   else
    some (LO.out s1.2):Int×Zc->Option (LO (Int×Zc) (Zc) _)) (0,(⟨0,0,false⟩:Zc)) fun o7=>
 some o7
def ak:List zb×Int->Option Zc:=recE (YG)
def qb(x:List zb):Option Int:=
 ze (ak (x,0)) fun y1=>
 bif decide (y1.depth>16)then
  some 20
 else
  bif decide (y1.tokens>1500)then
   some 4
  else
   bif y1.bad then
    some 8
   else
    some 0
def MB(x:List zb):Option (Int×Int):=
 ze (qb x) fun y1=>
 bif y1 != 0 then
  some (0,y1)
 else
  ze (ak (x,0)) fun y2=>
  some (y2.depth,0)
def nG(QX:List zb×List zg->Option (List zg))(x:List zb×List zg):Option (List zg):=
 Zj (fun(s1:Int×List zg)=>
   bif decide (s1.1<(x.1.length:Int))then
    Zk (X:=Int×List zg) (
      ze (geti x.1 s1.1) fun y2=>
      need (zW s1.2.length 1 56)<|
      ze (Ro y2.token.kind) fun y3=>
      bif y3 != 0 then
       ze (QX (y2.list,s1.2++[y2.token])) fun y4=>
       need (zW y4.length 1 56)<|
       some (LX.out (s1.1,y4++[(⟨y3,[],0,[],false⟩:zg)]))
      else
       some (LX.out (s1.1,s1.2++[y2.token]))) fun j5=>
    some (LO.again (w64 (j5.1+1),j5.2))
   else
    some (LO.out s1.2):Int×List zg->Option (LO (Int×List zg) (List zg) _)) (0,x.2) fun o6=>
 some o6
def QX:List zb×List zg->Option (List zg):=recE (nG)
def pq(x:List zb):Option (List zg):=
 Zj (fun(s1:Int×List zg)=>
   bif decide (s1.1<(x.length:Int))then
    Zk (X:=Int×List zg) (
      ze (geti x s1.1) fun y2=>
      need (zW s1.2.length 1 56)<|
      ze (Ro y2.token.kind) fun y3=>
      bif y3 != 0 then
       ze (QX (y2.list,s1.2++[y2.token])) fun y4=>
       need (zW y4.length 1 56)<|
       some (LX.out (s1.1,y4++[(⟨y3,[],0,[],false⟩:zg)]))
      else
       some (LX.out (s1.1,s1.2++[y2.token]))) fun j5=>
    some (LO.again (w64 (j5.1+1),j5.2))
   else
    some (LO.out s1.2):Int×List zg->Option (LO (Int×List zg) (List zg) _)) (0,[]) fun o6=>
 some o6
def TA(x:List zb):Option (List zg×Int):=
 ze (qb x) fun y1=>
 bif y1 != 0 then
  some ([],y1)
 else
  ze (pq x) fun y2=>
  some (y2,0)
def strings_IndexByte(x:Str×Int):Option Int:=
 ze (az (x.1,x.2)) fun y1=>
 some y1
def stringslite_HasPrefix(x:Str×Str):Option Bool:=
 need (decide (0<=(x.2.length:Int))&&decide ((x.2.length:Int)<=(x.1.length:Int))|| !(decide ((x.1.length:Int)>=(x.2.length:Int))))<|
 some (bif decide ((x.1.length:Int)>=(x.2.length:Int))then List.take x.2.length x.1==x.2 else false)
def strings_HasPrefix(x:Str×Str):Option Bool:=
 ze (stringslite_HasPrefix (x.1,x.2)) fun y1=>
 some y1
def ZL(x:Str):Option Str:=
 need (decide (x.length<=maxLen))<|
 Zj (fun(s1:Int×List UInt8)=>
   bif decide (s1.1<(x.length:Int))then
    Zk (X:=Int×List UInt8) (
      need (decide (0<=s1.1)&&decide (s1.1<(s1.2.length:Int)))<|
      ze s1.2[s1.1.toNat]? fun y2=>
      bif bif decide (65<=(y2.toNat:Int))then decide ((y2.toNat:Int)<=90)else false then
       need (decide (0<=s1.1)&&decide (s1.1<(s1.2.length:Int)))<|
       ze s1.2[s1.1.toNat]? fun y3=>
       need (decide (0<=s1.1)&&decide (s1.1<(s1.2.length:Int)))<|
       ze s1.2[s1.1.toNat]? fun y4=>
       ze (QA (ibOr IntKind.u8 (y3.toNat:Int) 32)) fun y5=>
       some (LX.out (s1.1,List.set s1.2 s1.1.toNat y5))
      else
       some (LX.out (s1.1,s1.2))) fun j6=>
    some (LO.again (w64 (j6.1+1),j6.2))
   else
    some (LO.out s1.2):Int×List UInt8->Option (LO (Int×List UInt8) (List UInt8) _)) (0,x) fun o7=>
 some o7
def EB(x:Str):Option Bool:=
 ze (zA (!(bif x==[]then true else decide ((x.length:Int)>64))) (strings_IndexByte (x,0)) (default:Int)) fun y1=>
 bif bif bif x==[]then true else decide ((x.length:Int)>64)then true else decide (y1>=0)then
  some false
 else
  ze (strings_HasPrefix (x,[45,45])) fun y2=>
  bif y2 then
   some (!(x==[45,45]))
  else
   ze (ZL x) fun y3=>
   some (x==y3)
def stringslite_TrimPrefix(x:Str×Str):Option Str:=
 ze (stringslite_HasPrefix (x.1,x.2)) fun y1=>
 bif y1 then
  need (decide (0<=(x.2.length:Int))&&decide ((x.2.length:Int)<=(x.1.length:Int)))<|
  some (List.drop x.2.length x.1)
 else
  some x.1
def strings_TrimPrefix(x:Str×Str):Option Str:=
 ze (stringslite_TrimPrefix (x.1,x.2)) fun y1=>
 some y1
def qz(x:Int):Option Bool:=
 some (bif decide (48<=x)then decide (x<=57)else false)
def Ju(x:Str):Option Bool:=
 ze (strings_TrimPrefix (x,[45])) fun y1=>
 ze (zA (!(y1==[])) (geti y1 0) 0) fun y2=>
 ze (zA (!(y1==[])) (qz (y2.toNat:Int)) (default:Bool)) fun y3=>
 some (bif !(y1==[])then y3 else false)
def Wx(x:Int):Option Bool:=
 some (bif bif decide (97<=ibOr IntKind.u8 x 32)then decide (ibOr IntKind.u8 x 32<=122)else false then decide (x<128)else false)
def Om(x:Int):Option Bool:=
 ze (Wx x) fun y1=>
 ze (zA (!y1) (qz x) (default:Bool)) fun y2=>
 some (bif bif bif bif y1 then true else y2 then true else x==95 then true else x==45 then true else decide (x>=128))
def strings_Contains(x:Str×Str):Option Bool:=
 ze (Bn (x.1,x.2)) fun y1=>
 some (decide (y1>=0))
def dw(x:zg):Option Bool:=
 need (Ig x.text.length x.unit.length)<|
 ze (strings_IndexByte (x.text++x.unit,0)) fun y1=>
 Zk (X:=Bool×Bool×Bool×Bool×Bool) (
   Zk (X:=Bool×Bool×Bool×Bool×Bool×Bool) (
     bif x.kind==1 then
      some (LX.out (false,false,false,false,decide (y1<0),x.kind==1))
     else
      bif x.kind==2 then
       some (LX.out (false,false,false,false,decide (y1<0),x.kind==2))
      else
       some (LX.out (false,false,false,false,decide (y1<0),x.kind==3))) fun j2=>
   bif j2.2.2.2.2.2 then
    some (LX.out (true,j2.2.1,j2.2.2.1,j2.2.2.2.1,bif j2.2.2.2.2.1 then !(x.text==[])else false))
   else
    bif x.kind==4 then
     ze (zA (!x.flag&&(bif j2.2.2.2.2.1 then !(x.text==[])else false)) (Ju x.text) (default:Bool)) fun y3=>
     ze (zA (y3&&(!x.flag&&(bif j2.2.2.2.2.1 then !(x.text==[])else false))) (strings_HasPrefix (x.text,[45,45])) (default:Bool)) fun y4=>
     some (LX.out (true,j2.2.1,j2.2.2.1,true,bif bif j2.2.2.2.2.1 then !(x.text==[])else false then bif bif x.flag then true else bif y3 then !y4 else false then true else x.text==[45]else false))
    else
     Zk (X:=Bool×Bool×Bool×Bool×Bool×Bool) (
       bif x.kind==5 then
        some (LX.out (j2.1,j2.2.1,j2.2.2.1,j2.2.2.2.1,j2.2.2.2.2.1,x.kind==5))
       else
        some (LX.out (j2.1,j2.2.1,j2.2.2.1,j2.2.2.2.1,j2.2.2.2.2.1,x.kind==7))) fun j5=>
     bif j5.2.2.2.2.2 then
      some (LX.out (true,j5.2.1,j5.2.2.1,j5.2.2.2.1,j5.2.2.2.2.1))
     else
      bif x.kind==9 then
       ze (zA (bif j5.2.2.2.2.1 then(x.text.length:Int)==1 else false) (geti x.text 0) 0) fun y6=>
       ze (zA (bif j5.2.2.2.2.1 then(x.text.length:Int)==1 else false) (Om (y6.toNat:Int)) (default:Bool)) fun y7=>
       ze (zA (bif bif bif j5.2.2.2.2.1 then(x.text.length:Int)==1 else false then !y7 else false then true else x.text==[45]) (strings_Contains ([32,9,10,12,13,34,39,58,59,44,91,93,40,41,123,125],x.text)) (default:Bool)) fun y8=>
       some (LX.out (true,j5.2.1,j5.2.2.1,j5.2.2.2.1,bif bif bif bif j5.2.2.2.2.1 then(x.text.length:Int)==1 else false then !y7 else false then true else x.text==[45]then !y8 else false))
      else
       Zk (X:=Bool×Bool×Bool×Bool×Bool) (
         bif x.kind==10 then
          some (LX.out (j5.2.1,j5.2.2.1,j5.2.2.2.1,j5.2.2.2.2.1,x.kind==10))
         else
          bif x.kind==11 then
           some (LX.out (j5.2.1,j5.2.2.1,j5.2.2.2.1,j5.2.2.2.2.1,x.kind==11))
          else
           some (LX.out (j5.2.1,j5.2.2.1,j5.2.2.2.1,j5.2.2.2.2.1,x.kind==12))) fun j9=>
       bif j9.2.2.2.2 then
        some (LX.out (j5.1,x.kind==12,true,x.kind != 11,bif bif bif bif j9.2.2.2.1 then decide (x.num>=(-1000000000000))else false then decide (x.num<=1000000000000)else false then bif !x.flag then true else Int.tmod x.num 1000==0 else false then bif !(x.kind==12)then true else !(x.unit==[])else false))
       else
        some (LX.out (j5.1,j9.1,j9.2.1,j9.2.2.1,bif decide (x.kind>=13)then decide (x.kind<=24)else false))) fun j10=>
 some (bif bif bif bif j10.2.2.2.2 then bif j10.1 then true else x.text==[]else false then bif j10.2.1 then true else x.unit==[]else false then bif j10.2.2.1 then true else x.num==0 else false then bif j10.2.2.2.1 then true else !x.flag else false)
def ZK(x:(Int×Int)×List zg):Option Bool:=
 ze (zA (decide (x.1.1<(x.2.length:Int))) (geti x.2 x.1.1) (default:zg)) fun y1=>
 some (bif decide (x.1.1<(x.2.length:Int))then y1.kind==x.1.2 else false)
def Zt(x:Str×Str):Option Bool:=
 ze (ZL x.1) fun y1=>
 ze (ZL x.2) fun y2=>
 some (y1==y2)
def QF(x:List zg):Option Int:=
 ze (geti x 0) fun y1=>
 bif bif y1.kind==9 then y1.text==[92]else false then
  ze (ZK ((1,13),x)) fun y2=>
  bif !y2 then
   some 0
  else
   some 2
 else
  ze (zA (y1.kind==2) (Zt (y1.text,[117,114,108])) (default:Bool)) fun y3=>
  bif bif y1.kind==2 then y3 else false then
   Zk (X:=Int) (
     ze (ZK ((1,13),x)) fun y4=>
     bif y4 then
      some (LX.out 2)
     else
      some (LX.out 1)) fun j5=>
   ze (ZK ((j5,5),x)) fun y6=>
   bif !y6 then
    some 0
   else
    some (w64 (j5+1))
  else
   some 1
def QE(x:List zg):Option Int:=
 bif decide ((x.length:Int)>1500)then
  some 4
 else
  Zj (fun(s1:Int)=>
    bif decide (s1<(x.length:Int))then
     ze (geti x s1) fun y2=>
     ze (dw y2) fun y3=>
     need (decide (0<=s1)&&decide (s1<=(x.length:Int))|| !(!(!y3)))<|
     ze (zA (!(!y3)) (QF (List.drop s1.toNat x)) (default:Int)) fun y4=>
     bif bif !y3 then true else y4==0 then
      some (LO.ret 8)
     else
      some (LO.again (w64 (s1+1)))
    else
     some (LO.out ()):Int->Option (LO (Int) (Unit) _)) 0 fun o5=>
  some 0
def ZZ(x:zb×Int):Option Bool:=
 some (x.1.token.kind==x.2)
def Ry(zO:List zb->Option Bool)(x:zb):Option Bool:=
 ze (ZZ ((⟨x.token,x.list⟩:zb),20)) fun y1=>
 ze (zA (!y1) (ZZ ((⟨x.token,x.list⟩:zb),22)) (default:Bool)) fun y2=>
 ze (zA (!(bif y1 then true else y2)) (ZZ ((⟨x.token,x.list⟩:zb),24)) (default:Bool)) fun y3=>
 ze (zA (!(bif bif y1 then true else y2 then true else y3)) (zO x.list) (default:Bool)) fun y4=>
 some (bif bif bif y1 then true else y2 then true else y3 then true else y4)
def Qz(zO:List zb->Option Bool)(x:List zb):Option Int:=
 Zj (fun(s1:Int)=>
   bif decide (s1<(x.length:Int))then
    ze (geti x s1) fun y2=>
    ze (Ry zO (⟨y2.token,y2.list⟩:zb)) fun y3=>
    bif y3 then
     some (LO.ret s1)
    else
     some (LO.again (w64 (s1+1)))
   else
    some (LO.out ()):Int->Option (LO (Int) (Unit) _)) 0 fun o4=>
 some (-1)
def qG(zO:List zb->Option Bool)(x:List zb):Option Bool:=
 ze (Qz zO x) fun y1=>
 some (decide (y1>=0))
def BH(zO:List zb->Option Bool)(x:List zb):Option Bool:=
 ze (qG zO x) fun y1=>
 some y1
def zO:List zb->Option Bool:=recE (BH)
def Ho(x:zb):Option Bool:=
 ze (ZZ ((⟨x.token,x.list⟩:zb),9)) fun y1=>
 some (bif y1 then x.token.text==[33]else false)
def dB(x:zb):Option Bool:=
 ze (ZZ ((⟨x.token,x.list⟩:zb),17)) fun y1=>
 ze (zA (!y1) (Ho (⟨x.token,x.list⟩:zb)) (default:Bool)) fun y2=>
 some (bif y1 then true else y2)
def qV(x:List zb):Option Int:=
 Zj (fun(s1:Int)=>
   bif decide (s1<(x.length:Int))then
    ze (geti x s1) fun y2=>
    ze (dB (⟨y2.token,y2.list⟩:zb)) fun y3=>
    bif y3 then
     some (LO.ret s1)
    else
     some (LO.again (w64 (s1+1)))
   else
    some (LO.out ()):Int->Option (LO (Int) (Unit) _)) 0 fun o4=>
 some (-1)
def ZN(x:List zb):Option Bool:=
 ze (qV x) fun y1=>
 some (decide (y1>=0))
def Pm(x:zD):Option Int:=
 ze (TA x.value) fun y1=>
 ze (EB x.name) fun y2=>
 ze (zA (!(bif !y2 then true else y1.2 != 0)) (QE y1.1) (default:Int)) fun y3=>
 ze (zA (!(bif bif !y2 then true else y1.2 != 0 then true else y3 != 0)) (zO x.value) (default:Bool)) fun y4=>
 bif bif bif bif !y2 then true else y1.2 != 0 then true else y3 != 0 then true else y4 then
  some 8
 else
  ze (ZN x.value) fun y5=>
  bif y5 then
   some 8
  else
   ze (zA ((x.value.length:Int)==0) (strings_HasPrefix (x.name,[45,45])) (default:Bool)) fun y6=>
   ze (zA (decide ((x.value.length:Int)>0)&& !(bif (x.value.length:Int)==0 then !y6 else false)) (geti x.value 0) (default:zb)) fun y7=>
   ze (zA (decide ((x.value.length:Int)>0)&& !(bif (x.value.length:Int)==0 then !y6 else false)) (ZZ ((⟨y7.token,y7.list⟩:zb),13)) (default:Bool)) fun y8=>
   ze (zA (!y8&&(decide ((x.value.length:Int)>0)&& !(bif (x.value.length:Int)==0 then !y6 else false))) (geti x.value (w64 ((x.value.length:Int) - 1))) (default:zb)) fun y9=>
   ze (zA (!y8&&(decide ((x.value.length:Int)>0)&& !(bif (x.value.length:Int)==0 then !y6 else false))) (ZZ ((⟨y9.token,y9.list⟩:zb),13)) (default:Bool)) fun y10=>
   bif bif bif (x.value.length:Int)==0 then !y6 else false then true else bif decide ((x.value.length:Int)>0)then bif y8 then true else y10 else false then
    some 8
   else
    some 0
def QJ(x:zf):Option Bool:=
 some (bif bif bif bif x.name==[]then x.num==0 else false then x.decl.name==[]else false then(x.decl.value.length:Int)==0 else false then !x.decl.important else false)
def Wt(x:zf):Option Bool:=
 some (bif x.kind==7 then true else x.kind==8)
def Xx(yj:zf×Int->Option ((Int×Bool)×Int))(x:zf×Int):Option ((Int×Bool)×Int):=
 bif decide (w64 (x.2+1)>1500)then
  some ((0,false),w64 (x.2+1))
 else
  bif x.1.kind==7 then
   ze (MB x.1.decl.value) fun y1=>
   ze (zA (bif bif bif (x.1.list.length:Int)==0 then x.1.name==[]else false then x.1.num==0 else false then y1.2==0 else false) (Pm x.1.decl) (default:Int)) fun y2=>
   some ((w64 (y1.1+1),bif bif bif bif (x.1.list.length:Int)==0 then x.1.name==[]else false then x.1.num==0 else false then y1.2==0 else false then y2==0 else false),w64 (x.2+1))
  else
   bif x.1.kind==8 then
    ze (zA ((x.1.list.length:Int)==0) (QJ (⟨x.1.kind,x.1.name,x.1.num,x.1.decl,x.1.list⟩:zf)) (default:Bool)) fun y3=>
    some ((1,bif (x.1.list.length:Int)==0 then y3 else false),w64 (x.2+1))
   else
    Zk (X:=Bool) (
      bif x.1.kind==3 then
       some (LX.out (x.1.kind==3))
      else
       bif x.1.kind==1 then
        some (LX.out (x.1.kind==1))
       else
        some (LX.out (x.1.kind==2))) fun j4=>
    bif j4 then
     ze (QJ (⟨x.1.kind,x.1.name,x.1.num,x.1.decl,x.1.list⟩:zf)) fun y5=>
     bif bif bif !y5 then true else bif x.1.kind==3 then(x.1.list.length:Int) != 1 else false then true else bif x.1.kind != 3 then decide ((x.1.list.length:Int)<2)else false then
      some ((0,false),w64 (x.2+1))
     else
      Zj (fun(s6:(Int×Int)×Int)=>
        bif decide (s6.1.2<(x.1.list.length:Int))then
         ze (geti x.1.list s6.1.2) fun y7=>
         ze (yj ((⟨y7.kind,y7.name,y7.num,y7.decl,y7.list⟩:zf),s6.2)) fun y8=>
         bif !y8.1.2 then
          some (LO.ret ((0,false),y8.2))
         else
          Zk (X:=Int×Int) (
            ze (Wt (⟨y7.kind,y7.name,y7.num,y7.decl,y7.list⟩:zf)) fun y9=>
            bif !y9 then
             some (LX.out (s6.1.1,w64 (y8.1.1+1)))
            else
             some (LX.out (s6.1.1,y8.1.1))) fun j10=>
          some (LO.again ((if j10.2>j10.1 then j10.2 else j10.1,w64 (s6.1.2+1)),y8.2))
        else
         some (LO.out (s6.1.1,s6.2)):(Int×Int)×Int->Option (LO ((Int×Int)×Int) (Int×Int) _)) ((0,0),w64 (x.2+1)) fun o11=>
      some ((o11.1,true),o11.2)
    else
     some ((0,false),w64 (x.2+1))
def yj:zf×Int->Option ((Int×Bool)×Int):=recE (Xx)
def ZI(x:zf):Option Int:=
 ze (yj ((⟨x.kind,x.name,x.num,x.decl,x.list⟩:zf),0)) fun y1=>
 bif bif !y1.1.2 then true else decide (y1.1.1>16)then
  some 8
 else
  some 0
def Ux(x:Int×List zb):Option Bool:=
 ze (geti x.2 x.1) fun y1=>
 some (y1.token.kind==13)
def QR(x:List zb):Option (List zb):=
 bif x.isEmpty then
  both (
    some []) (
    need (zW 0 x.length 80)<|
    some x)
 else
  need (zW 0 x.length 80)<|
  some x
def XG(uj:List zb->Option (List zb))(x:List zb):Option (List zb):=
 ze (QR x) fun y1=>
 Zj (fun(s2:Int×List zb)=>
   bif decide (s2.1<(y1.length:Int))then
    need (decide (0<=s2.1)&&decide (s2.1<(s2.2.length:Int)))<|
    ze s2.2[s2.1.toNat]? fun y3=>
    ze (uj y3.list) fun y4=>
    need (decide (0<=s2.1)&&decide (s2.1<(s2.2.length:Int)))<|
    ze s2.2[s2.1.toNat]? fun y5=>
    some (LO.again (w64 (s2.1+1),List.set s2.2 s2.1.toNat (⟨y5.token,y4⟩:zb)))
   else
    some (LO.out s2.2):Int×List zb->Option (LO (Int×List zb) (List zb) _)) (0,y1) fun o6=>
 some o6
def uj:List zb->Option (List zb):=recE (XG)
def Vl(x:List zb):Option (List zb×Int):=
 ze (qb x) fun y1=>
 bif y1 != 0 then
  some ([],y1)
 else
  Zj (fun(s2:Int)=>
    ze (zA (decide (s2<(x.length:Int))) (Ux (s2,x)) (default:Bool)) fun y3=>
    bif bif decide (s2<(x.length:Int))then y3 else false then
     some (LO.again (w64 (s2+1)))
    else
     some (LO.out s2):Int->Option (LO (Int) (Int) _)) 0 fun o4=>
  Zj (fun(s5:Int)=>
    ze (zA (decide (o4<s5)) (Ux (w64 (s5 - 1),x)) (default:Bool)) fun y6=>
    bif bif decide (o4<s5)then y6 else false then
     some (LO.again (w64 (s5 - 1)))
    else
     some (LO.out s5):Int->Option (LO (Int) (Int) _)) (x.length:Int) fun o7=>
  need (decide (0<=o4)&&(decide (o4<=o7)&&(decide (o7<=o7)&&decide (o7<=(x.length:Int))))&&decide (o7=o7))<|
  ze (uj (List.drop o4.toNat (List.take o7.toNat x))) fun y8=>
  some (y8,0)
def fG(qR:zf->Option (List zD))(x:zf):Option (List zD):=
 bif x.kind==7 then
  ze (Vl x.decl.value) fun y1=>
  some [(⟨x.decl.name,y1.1,x.decl.important⟩:zD)]
 else
  Zj (fun(s2:Int×List zD)=>
    bif decide (s2.1<(x.list.length:Int))then
     ze (geti x.list s2.1) fun y3=>
     ze (qR (⟨y3.kind,y3.name,y3.num,y3.decl,y3.list⟩:zf)) fun y4=>
     need (zW s2.2.length y4.length 48)<|
     some (LO.again (w64 (s2.1+1),s2.2++y4))
    else
     some (LO.out s2.2):Int×List zD->Option (LO (Int×List zD) (List zD) _)) (0,[]) fun o5=>
  some o5
def qR:zf->Option (List zD):=recE (fG)
def Ex(x:zf):Option (List zD×Int):=
 ze (ZI (⟨x.kind,x.name,x.num,x.decl,x.list⟩:zf)) fun y1=>
 bif y1 != 0 then
  some ([],y1)
 else
  ze (qR (⟨x.kind,x.name,x.num,x.decl,x.list⟩:zf)) fun y2=>
  some (y2,0)
def RB(x:Int):Option Int:=
 bif bif decide (x>=65)then decide (x<=90)else false then
  some (wu8 (wu8 (x - 65)+97))
 else
  some x
def SB(x:Str):Option Str:=
 need (decide (x.length<=maxLen))<|
 Zj (fun(s1:Int×List UInt8)=>
   bif decide (s1.1<(s1.2.length:Int))then
    need (decide (0<=s1.1)&&decide (s1.1<(s1.2.length:Int)))<|
    ze s1.2[s1.1.toNat]? fun y2=>
    ze (RB (y2.toNat:Int)) fun y3=>
    need (decide (0<=s1.1)&&decide (s1.1<(s1.2.length:Int)))<|
    ze s1.2[s1.1.toNat]? fun y4=>
    ze (QA y3) fun y5=>
    some (LO.again (w64 (s1.1+1),List.set s1.2 s1.1.toNat y5))
   else
    some (LO.out s1.2):Int×List UInt8->Option (LO (Int×List UInt8) (List UInt8) _)) (0,x) fun o6=>
 some o6
def fq(x:zD):Option Bool:=
 some (bif bif x.name==[]then(x.value.length:Int)==0 else false then !x.important else false)
def QP(x:zf):Option Bool:=
 ze (zA (bif x.name==[]then x.num==0 else false) (fq x.decl) (default:Bool)) fun y1=>
 some (bif bif x.name==[]then x.num==0 else false then y1 else false)
def slices_Index_string(x:List Str×Str):Option Int:=
 Zj (fun(s1:Int)=>
   bif decide (s1<(x.1.length:Int))then
    ze (geti x.1 s1) fun y2=>
    bif x.2==y2 then
     some (LO.ret s1)
    else
     some (LO.again (w64 (s1+1)))
   else
    some (LO.out ()):Int->Option (LO (Int) (Unit) _)) 0 fun o3=>
 some (-1)
def slices_Contains_string(x:List Str×Str):Option Bool:=
 ze (slices_Index_string (x.1,x.2)) fun y1=>
 some (decide (y1>=0))
def oq(x:Str):Option Bool:=
 ze (slices_Contains_string ([[],[97,110,100],[111,114],[110,111,116],[111,110,108,121]],x)) fun y1=>
 ze (zA (bif !y1 then decide ((x.length:Int)<=64)else false) (ZL x) (default:Str)) fun y2=>
 ze (zA (bif bif !y1 then decide ((x.length:Int)<=64)else false then y2==x else false) (strings_IndexByte (x,0)) (default:Int)) fun y3=>
 some (bif bif bif !y1 then decide ((x.length:Int)<=64)else false then y2==x else false then decide (y3<0)else false)
def mq(x:List Int):Option Int:=
 Zj (fun(s1:Int)=>
   bif decide (s1<(x.length:Int))then
    ze (geti x s1) fun y2=>
    bif bif decide (y2<(-1000000000000))then true else decide (y2>1000000000000)then
     some (LO.ret 8)
    else
     some (LO.again (w64 (s1+1)))
   else
    some (LO.out ()):Int->Option (LO (Int) (Unit) _)) 0 fun o3=>
 some 0
def Qt(x:Int):Option Int:=
 ze (mq [x]) fun y1=>
 some y1
def Dx(x:zf):Option Bool:=
 ze (zA (!(x.kind != 1)) (QJ (⟨x.kind,x.name,x.num,x.decl,x.list⟩:zf)) (default:Bool)) fun y1=>
 bif bif bif x.kind != 1 then true else !y1 then true else(x.list.length:Int)==0 then
  some false
 else
  Zj (fun(s2:Int)=>
    bif decide (s2<(x.list.length:Int))then
     Zk (X:=Int) (
       ze (geti x.list s2) fun y3=>
       ze (zA (!(decide ((y3.list.length:Int)>0))) (QJ (⟨y3.kind,[],0,y3.decl,y3.list⟩:zf)) (default:Bool)) fun y4=>
       bif bif decide ((y3.list.length:Int)>0)then true else !y4 then
        some (LX.ret (LO.ret false))
       else
        bif y3.kind==4 then
         ze (zA (!(bif decide (s2>0)then true else y3.num != 0)) (oq y3.name) (default:Bool)) fun y5=>
         bif bif bif decide (s2>0)then true else y3.num != 0 then true else !y5 then
          some (LX.ret (LO.ret false))
         else
          some (LX.out s2)
        else
         Zk (X:=Bool) (
           bif y3.kind==5 then
            some (LX.out (y3.kind==5))
           else
            some (LX.out (y3.kind==6))) fun j6=>
         bif j6 then
          ze (zA (!(bif !(y3.name==[])then true else decide (y3.num<0))) (Qt y3.num) (default:Int)) fun y7=>
          bif bif bif !(y3.name==[])then true else decide (y3.num<0)then true else y7 != 0 then
           some (LX.ret (LO.ret false))
          else
           some (LX.out s2)
         else
          some (LX.ret (LO.ret false))) fun j8=>
     some (LO.again (w64 (j8+1)))
    else
     some (LO.out ()):Int->Option (LO (Int) (Unit) _)) 0 fun o9=>
  some true
def FB(x:zf):Option Bool:=
 ze (zA (decide ((x.list.length:Int)>0)) (geti x.list 0) (default:zf)) fun y1=>
 some (bif decide ((x.list.length:Int)>0)then y1.kind==4 else false)
def dA(x:zf):Option Bool:=
 bif x.kind==3 then
  ze (QJ (⟨x.kind,x.name,x.num,x.decl,x.list⟩:zf)) fun y1=>
  ze (zA (bif y1 then(x.list.length:Int)==1 else false) (geti x.list 0) (default:zf)) fun y2=>
  ze (zA (bif y1 then(x.list.length:Int)==1 else false) (Dx (⟨y2.kind,y2.name,y2.num,y2.decl,y2.list⟩:zf)) (default:Bool)) fun y3=>
  ze (zA (bif bif y1 then(x.list.length:Int)==1 else false then y3 else false) (geti x.list 0) (default:zf)) fun y4=>
  ze (zA (bif bif y1 then(x.list.length:Int)==1 else false then y3 else false) (FB (⟨y4.kind,y4.name,y4.num,y4.decl,y4.list⟩:zf)) (default:Bool)) fun y5=>
  some (bif bif bif y1 then(x.list.length:Int)==1 else false then y3 else false then y5 else false)
 else
  ze (Dx (⟨x.kind,x.name,x.num,x.decl,x.list⟩:zf)) fun y6=>
  some y6
def Q8(x:zf):Option Bool:=
 ze (dA (⟨x.kind,x.name,x.num,x.decl,x.list⟩:zf)) fun y1=>
 some (!y1)
def QS(x:List zf):Option Int:=
 Zj (fun(s1:Int)=>
   bif decide (s1<(x.length:Int))then
    ze (geti x s1) fun y2=>
    ze (Q8 (⟨y2.kind,y2.name,y2.num,y2.decl,y2.list⟩:zf)) fun y3=>
    bif y3 then
     some (LO.ret s1)
    else
     some (LO.again (w64 (s1+1)))
   else
    some (LO.out ()):Int->Option (LO (Int) (Unit) _)) 0 fun o4=>
 some (-1)
def qc(x:List zf):Option Bool:=
 ze (QS x) fun y1=>
 some (decide (y1>=0))
def Qq(x:zf):Option Int:=
 ze (zA (bif bif x.kind==2 then decide ((x.list.length:Int)>0)else false then decide ((x.list.length:Int)<=64)else false) (qc x.list) (default:Bool)) fun y1=>
 ze (QJ (⟨x.kind,x.name,x.num,x.decl,x.list⟩:zf)) fun y2=>
 bif bif !y2 then true else bif !(bif x.kind==1 then(x.list.length:Int)==0 else false)then !(bif bif bif x.kind==2 then decide ((x.list.length:Int)>0)else false then decide ((x.list.length:Int)<=64)else false then !y1 else false)else false then
  some 8
 else
  some 0
def Oo(x:zf):Option Int:=
 ze (Qq (⟨x.kind,x.name,x.num,x.decl,x.list⟩:zf)) fun y1=>
 bif y1 != 0 then
  ze (ZI (⟨x.kind,x.name,x.num,x.decl,x.list⟩:zf)) fun y2=>
  some y2
 else
  some 0
def Gy(x:Int×List Bool):Option (Bool×Int):=
 ze (geti x.2 (w64 (w64 (x.1+1) - 1))) fun y1=>
 some (y1,w64 (x.1+1))
def Py(Q9:(zf×Int)×Int×List Bool->Option (Bool×Int))(x:(zf×Int)×Int×List Bool):Option (Bool×Int):=
 bif x.1.1.kind==4 then
  some (bif x.1.1.name==[97,108,108]then true else x.1.1.name==[115,99,114,101,101,110],x.2.1)
 else
  bif x.1.1.kind==5 then
   some (decide (x.1.2>=x.1.1.num),x.2.1)
  else
   bif x.1.1.kind==6 then
    some (decide (x.1.2<=x.1.1.num),x.2.1)
   else
    bif x.1.1.kind==7 then
     ze (Gy (x.2.1,x.2.2)) fun y1=>
     some (y1.1,y1.2)
    else
     bif x.1.1.kind==8 then
      some (false,x.2.1)
     else
      Zj (fun(s2:(Bool×Bool×Int)×Int)=>
        bif decide (s2.1.2.2<(x.1.1.list.length:Int))then
         ze (geti x.1.1.list s2.1.2.2) fun y3=>
         ze (Q9 (((⟨y3.kind,y3.name,y3.num,y3.decl,y3.list⟩:zf),x.1.2),s2.2,x.2.2)) fun y4=>
         some (LO.again ((bif s2.1.1 then y4.1 else false,bif s2.1.2.1 then true else y4.1,w64 (s2.1.2.2+1)),y4.2))
        else
         some (LO.out ((s2.1.1,s2.1.2.1),s2.2)):(Bool×Bool×Int)×Int->Option (LO ((Bool×Bool×Int)×Int) ((Bool×Bool)×Int) _)) ((true,false,0),x.2.1) fun o5=>
      bif x.1.1.kind==1 then
       some (o5.1.1,o5.2)
      else
       bif x.1.1.kind==2 then
        some (o5.1.2,o5.2)
       else
        some (!o5.1.2,o5.2)
def Q9:(zf×Int)×Int×List Bool->Option (Bool×Int):=recE (Py)
def Au(x:zf×VEnv×List Bool):Option (Bool×Int):=
 ze (Oo (⟨x.1.kind,x.1.name,x.1.num,x.1.decl,x.1.list⟩:zf)) fun y1=>
 bif y1 != 0 then
  some (false,y1)
 else
  ze (zA (!(bif decide (x.2.1.width<0)then true else decide (x.2.1.width>1000000000))) (qR (⟨x.1.kind,x.1.name,x.1.num,x.1.decl,x.1.list⟩:zf)) (default:List zD)) fun y2=>
  bif bif bif decide (x.2.1.width<0)then true else decide (x.2.1.width>1000000000)then true else(x.2.2.length:Int) != (y2.length:Int)then
   some (false,2)
  else
   ze (Q9 (((⟨x.1.kind,x.1.name,x.1.num,x.1.decl,x.1.list⟩:zf),w64 (1000*x.2.1.width)),0,x.2.2)) fun y3=>
   some (y3.1,0)
def Jy(x:Str):Option Bool:=
 ze (zA (!(bif x==[]then true else decide ((x.length:Int)>64))) (SB x) (default:Str)) fun y1=>
 bif bif bif bif bif bif bif x==[]then true else decide ((x.length:Int)>64)then true else !(x==y1)then true else x==[97,110,100]then true else x==[111,114]then true else x==[110,111,116]then true else x==[111,110,108,121]then
  some false
 else
  Zj (fun(s2:Int)=>
    bif decide (s2<(x.length:Int))then
     ze (geti x s2) fun y3=>
     bif (y3.toNat:Int)==0 then
      some (LO.ret false)
     else
      some (LO.again (w64 (s2+1)))
    else
     some (LO.out ()):Int->Option (LO (Int) (Unit) _)) 0 fun o4=>
  some true
def Ww(x:Int):Option Bool:=
 some (bif decide (x>=(-1000000000000))then decide (x<=1000000000000)else false)
def ow(x:zf):Option (Bool×Bool):=
 ze (zA (!(x.kind != 1)) (QP (⟨x.kind,x.name,x.num,x.decl,x.list⟩:zf)) (default:Bool)) fun y1=>
 bif bif bif x.kind != 1 then true else !y1 then true else(x.list.length:Int)==0 then
  some (false,false)
 else
  Zj (fun(s2:Int)=>
    bif decide (s2<(x.list.length:Int))then
     Zk (X:=Int) (
       ze (geti x.list s2) fun y3=>
       ze (zA (!(decide ((y3.list.length:Int)>0))) (fq y3.decl) (default:Bool)) fun y4=>
       bif bif decide ((y3.list.length:Int)>0)then true else !y4 then
        some (LX.ret (LO.ret (false,false)))
       else
        ze (zA (bif bif s2==0 then y3.kind==4 else false then y3.num==0 else false) (Jy y3.name) (default:Bool)) fun y5=>
        bif bif bif bif s2==0 then y3.kind==4 else false then y3.num==0 else false then y5 else false then
         some (LX.out s2)
        else
         ze (zA (!(bif bif bif y3.kind != 5 then y3.kind != 6 else false then true else !(y3.name==[])then true else decide (y3.num<0))) (Ww y3.num) (default:Bool)) fun y6=>
         bif bif bif bif bif y3.kind != 5 then y3.kind != 6 else false then true else !(y3.name==[])then true else decide (y3.num<0)then true else !y6 then
          some (LX.ret (LO.ret (false,false)))
         else
          some (LX.out s2)) fun j7=>
     some (LO.again (w64 (j7+1)))
    else
     some (LO.out ()):Int->Option (LO (Int) (Unit) _)) 0 fun o8=>
  ze (geti x.list 0) fun y9=>
  some (true,y9.kind==4)
def Rx(x:zf):Option Bool:=
 bif x.kind==3 then
  ze (QP (⟨x.kind,x.name,x.num,x.decl,x.list⟩:zf)) fun y1=>
  bif bif !y1 then true else(x.list.length:Int) != 1 then
   some false
  else
   ze (geti x.list 0) fun y2=>
   ze (ow (⟨y2.kind,y2.name,y2.num,y2.decl,y2.list⟩:zf)) fun y3=>
   some (bif y3.1 then y3.2 else false)
 else
  ze (ow (⟨x.kind,x.name,x.num,x.decl,x.list⟩:zf)) fun y4=>
  some y4.1
def bB(x:zf):Option Bool:=
 ze (QP (⟨x.kind,x.name,x.num,x.decl,x.list⟩:zf)) fun y1=>
 bif !y1 then
  some false
 else
  bif x.kind==1 then
   some ((x.list.length:Int)==0)
  else
   bif bif bif x.kind != 2 then true else decide ((x.list.length:Int)<1)then true else decide ((x.list.length:Int)>64)then
    some false
   else
    Zj (fun(s2:Int)=>
      bif decide (s2<(x.list.length:Int))then
       ze (geti x.list s2) fun y3=>
       ze (Rx (⟨y3.kind,y3.name,y3.num,y3.decl,y3.list⟩:zf)) fun y4=>
       bif !y4 then
        some (LO.ret false)
       else
        some (LO.again (w64 (s2+1)))
      else
       some (LO.out ()):Int->Option (LO (Int) (Unit) _)) 0 fun o5=>
    some true
def Rl(x:Str):Option Int:=
 ze (strings_HasPrefix (x,[45])) fun y1=>
 bif y1 then
  some 2
 else
  some 1
def Z4(x:Int×List UInt8):Option (List UInt8):=
 ze (zA (bif decide (x.1>32)then decide (x.1<127)else false) (qz x.1) (default:Bool)) fun y1=>
 ze (zA (bif bif decide (x.1>32)then decide (x.1<127)else false then !y1 else false) (Wx x.1) (default:Bool)) fun y2=>
 bif bif bif bif decide (x.1>32)then decide (x.1<127)else false then !y1 else false then !y2 else false then
  ze (QA x.1) fun y3=>
  need (zW x.2.length 2 1)<|
  some (x.2++[(92:UInt8),y3])
 else
  need (zW x.2.length 1 1)<|
  ze (Jt ((wu64 x.1,16),x.2++[(92:UInt8)])) fun y4=>
  need (zW y4.length 1 1)<|
  some (y4++[(32:UInt8)])
def VB(x:Str×Int):Option (List UInt8):=
 Zj (fun(s1:Int×List UInt8)=>
   bif decide (s1.1<(x.1.length:Int))then
    Zk (X:=Int×List UInt8) (
      ze (geti x.1 s1.1) fun y2=>
      ze (Om (y2.toNat:Int)) fun y3=>
      ze (zA (!(decide (s1.1>=x.2))&&y3) (qz (y2.toNat:Int)) (default:Bool)) fun y4=>
      bif bif bif y3 then bif decide (s1.1>=x.2)then true else !y4 else false then bif x.2==0 then true else !(x.1==[45])else false then
       ze (QA (y2.toNat:Int)) fun y5=>
       need (zW s1.2.length 1 1)<|
       some (LX.out (s1.1,s1.2++[y5]))
      else
       ze (Z4 ((y2.toNat:Int),s1.2)) fun y6=>
       some (LX.out (s1.1,y6))) fun j7=>
    some (LO.again (w64 (j7.1+1),j7.2))
   else
    some (LO.out s1.2):Int×List UInt8->Option (LO (Int×List UInt8) (List UInt8) _)) (0,[]) fun o8=>
 some o8
def Tt(x:Str):Option (Str×Int):=
 ze (zA (!(x==[])) (strings_IndexByte (x,0)) (default:Int)) fun y1=>
 bif bif x==[]then true else decide (y1>=0)then
  some ([],8)
 else
  ze (Rl x) fun y2=>
  ze (VB (x,y2)) fun y3=>
  bif bif decide ((x.length:Int)>4000)then true else decide ((y3.length:Int)>4000)then
   some ([],28)
  else
   some (y3,0)
def Z0(x:Int×Int×List UInt8):Option (Int×List UInt8):=
 need (decide (0<=w64 (x.2.1 - 1))&&(decide (w64 (x.2.1 - 1)<20)&&decide (w64 (x.2.1 - 1)<(x.2.2.length:Int))))<|
 ze (x.2.2[(w64 (x.2.1 - 1)).toNat]?) fun y1=>
 ze (QA x.1) fun y2=>
 some (w64 (x.2.1 - 1),List.set x.2.2 (w64 (x.2.1 - 1)).toNat y2)
def WB(x:Int):Option (Str×Int):=
 ze (mq [x]) fun y1=>
 bif y1 != 0 then
  some ([],y1)
 else
  Zk (X:=Int) (
    bif decide (x<0)then
     some (LX.out (w64 (0 - x)))
    else
     some (LX.out x)) fun j2=>
  Zj (fun(s3:(Int×Int)×List UInt8×Int)=>
    bif decide (s3.1.2<3)then
     Zk (X:=(Int×Int)×List UInt8×Int) (
       Zk (X:=Int×List UInt8×Int) (
         bif bif Int.tmod s3.1.1 10 != 0 then true else decide (s3.2.2<20)then
          ze (Z0 (wu8 (w64 (48+Int.tmod s3.1.1 10)),s3.2.2,s3.2.1)) fun y4=>
          some (LX.out (s3.1.1,y4.2,y4.1))
         else
          some (LX.out (s3.1.1,s3.2.1,s3.2.2))) fun j5=>
       bif bif s3.1.2==2 then decide (j5.2.2<20)else false then
        ze (Z0 (46,j5.2.2,j5.2.1)) fun y6=>
        some (LX.out ((w64 (Int.tdiv j5.1 10),s3.1.2),y6.2,y6.1))
       else
        some (LX.out ((w64 (Int.tdiv j5.1 10),s3.1.2),j5.2.1,j5.2.2))) fun j7=>
     some (LO.again ((j7.1.1,w64 (j7.1.2+1)),j7.2.1,j7.2.2))
    else
     some (LO.out (s3.2.1,s3.2.2)):(Int×Int)×List UInt8×Int->Option (LO ((Int×Int)×List UInt8×Int) (List UInt8×Int) _)) ((Int.tmod j2 1000,0),List.replicate 20 (0:UInt8),20) fun o8=>
  Zj (fun(s9:Int×List UInt8×Int)=>
    ze (Z0 (wu8 (w64 (48+Int.tmod s9.1 10)),s9.2.2,s9.2.1)) fun y10=>
    bif decide (s9.1<10)then
     some (LO.out (y10.2,y10.1))
    else
     some (LO.again (w64 (Int.tdiv s9.1 10),y10.2,y10.1)):Int×List UInt8×Int->Option (LO (Int×List UInt8×Int) (List UInt8×Int) _)) (w64 (Int.tdiv j2 1000),o8.1,o8.2) fun o11=>
  Zk (X:=List UInt8×Int) (
    bif decide (x<0)then
     ze (Z0 (45,o11.2,o11.1)) fun y12=>
     some (LX.out (y12.2,y12.1))
    else
     some (LX.out (o11.1,o11.2))) fun j13=>
  need (decide (0<=j13.2)&&decide (j13.2<=20)&&Nat.beq j13.1.length 20)<|
  need (decide (j13.2.toNat+(20 - j13.2.toNat)<=j13.1.length))<|
  some (List.take (20 - j13.2.toNat) (List.drop j13.2.toNat j13.1),0)
def kw(ZJ:zf->Option Str)(x:List zf×Str):Option Str:=
 Zj (fun(s1:Int×List Str)=>
   bif decide (s1.1<(x.1.length:Int))then
    ze (geti x.1 s1.1) fun y2=>
    ze (ZJ (⟨y2.kind,y2.name,y2.num,y2.decl,y2.list⟩:zf)) fun y3=>
    need (zW s1.2.length 1 16)<|
    some (LO.again (w64 (s1.1+1),s1.2++[y3]))
   else
    some (LO.out s1.2):Int×List Str->Option (LO (Int×List Str) (List Str) _)) (0,[]) fun o4=>
 ze (jl (o4,x.2)) fun y5=>
 some y5
def eG(ZJ:zf->Option Str)(x:zf):Option Str:=
 bif x.kind==4 then
  ze (Tt x.name) fun y1=>
  some y1.1
 else
  bif x.kind==3 then
   ze (geti x.list 0) fun y2=>
   ze (ZJ (⟨y2.kind,y2.name,y2.num,y2.decl,y2.list⟩:zf)) fun y3=>
   need (Ig ([110,111,116,32]:Str).length y3.length)<|
   some (([110,111,116,32]:Str)++y3)
  else
   bif x.kind==2 then
    ze (kw ZJ (x.list,[44,32])) fun y4=>
    some y4
   else
    bif x.kind==1 then
     ze (kw ZJ (x.list,[32,97,110,100,32])) fun y5=>
     some y5
    else
     ze (WB x.num) fun y6=>
     bif x.kind==5 then
      need (Ig ([40,109,105,110,45,119,105,100,116,104,58,32]:Str).length y6.1.length)<|
      need (Ig (([40,109,105,110,45,119,105,100,116,104,58,32]:Str)++y6.1).length ([112,120,41]:Str).length)<|
      some (([40,109,105,110,45,119,105,100,116,104,58,32]:Str)++y6.1++([112,120,41]:Str))
     else
      need (Ig ([40,109,97,120,45,119,105,100,116,104,58,32]:Str).length y6.1.length)<|
      need (Ig (([40,109,97,120,45,119,105,100,116,104,58,32]:Str)++y6.1).length ([112,120,41]:Str).length)<|
      some (([40,109,97,120,45,119,105,100,116,104,58,32]:Str)++y6.1++([112,120,41]:Str))
def ZJ:zf->Option Str:=recE (eG)
def Qu(x:(Str×Int)×List UInt8):Option (List UInt8):=
 Zj (fun(s1:Int×List UInt8)=>
   bif decide (s1.1<(x.1.1.length:Int))then
    Zk (X:=Int×List UInt8) (
      ze (geti x.1.1 s1.1) fun y2=>
      ze (Om (y2.toNat:Int)) fun y3=>
      ze (zA (!(decide (s1.1>=x.1.2))&&y3) (qz (y2.toNat:Int)) (default:Bool)) fun y4=>
      bif bif bif y3 then bif decide (s1.1>=x.1.2)then true else !y4 else false then bif x.1.2==0 then true else !(x.1.1==[45])else false then
       ze (QA (y2.toNat:Int)) fun y5=>
       need (zW s1.2.length 1 1)<|
       some (LX.out (s1.1,s1.2++[y5]))
      else
       ze (Z4 ((y2.toNat:Int),s1.2)) fun y6=>
       some (LX.out (s1.1,y6))) fun j7=>
    some (LO.again (w64 (j7.1+1),j7.2))
   else
    some (LO.out s1.2):Int×List UInt8->Option (LO (Int×List UInt8) (List UInt8) _)) (0,x.2) fun o8=>
 some o8
def OB(x:Unit):Option zaC:=
 some (⟨[32],[60,33,45,45],[45,45,62],[58],[59],[44],[91],[93],[40],[41],[123],[125]⟩:zaC)
def Hu(x:(Int×Bool)×List UInt8):Option (List UInt8):=
 Zk (X:=Int×List UInt8) (
   bif decide (x.1.1<0)then
    need (zW x.2.length 1 1)<|
    some (LX.out (w64 (0 - x.1.1),x.2++[(45:UInt8)]))
   else
    some (LX.out (x.1.1,x.2))) fun j1=>
 ze (Lt ((w64 (Int.tdiv j1.1 1000),10),j1.2)) fun y2=>
 ze (Rs (w64 (1000+Int.tmod j1.1 1000),10)) fun y3=>
 need (decide (1<=(y3.length:Int)))<|
 ze (Xp (List.drop 1 y3,[48])) fun y4=>
 Zk (X:=List UInt8) (
   bif !(y4==[])then
    need (zW y2.length 1 1)<|
    need (zW (y2++[(46:UInt8)]).length y4.length 1)<|
    some (LX.out (y2++[(46:UInt8)]++y4))
   else
    bif x.1.2 then
     need (zW y2.length ([46,48]:Str).length 1)<|
     some (LX.out (y2++([46,48]:Str)))
    else
     some (LX.out y2)) fun j5=>
 some j5
def Vx(x:zg×List UInt8):Option (List UInt8):=
 bif x.1.kind==1 then
  ze (Rl x.1.text) fun y1=>
  ze (Qu ((x.1.text,y1),x.2)) fun y2=>
  some y2
 else
  bif x.1.kind==2 then
   ze (Rl x.1.text) fun y3=>
   ze (Qu ((x.1.text,y3),x.2)) fun y4=>
   need (zW y4.length 1 1)<|
   some (y4++[(40:UInt8)])
  else
   bif x.1.kind==3 then
    need (zW x.2.length 1 1)<|
    ze (Rl x.1.text) fun y5=>
    ze (Qu ((x.1.text,y5),x.2++[(64:UInt8)])) fun y6=>
    some y6
   else
    bif x.1.kind==4 then
     Zk (X:=Int×List UInt8) (
       bif x.1.flag then
        ze (Rl x.1.text) fun y7=>
        some (LX.out (y7,x.2))
       else
        some (LX.out (0,x.2))) fun j8=>
     need (zW j8.2.length 1 1)<|
     ze (Qu ((x.1.text,j8.1),j8.2++[(35:UInt8)])) fun y9=>
     some y9
    else
     bif x.1.kind==5 then
      need (zW x.2.length 1 1)<|
      need (decide (x.1.text.length<=maxLen))<|
      Zj (fun(s10:Int×List UInt8)=>
        bif decide (s10.1<(x.1.text.length:Int))then
         Zk (X:=Int×List UInt8) (
           need (decide (0<=s10.1)&&decide (s10.1<(x.1.text.length:Int)))<|
           ze x.1.text[s10.1.toNat]? fun y11=>
           ze (strings_IndexByte ([10,12,13,34,92],(y11.toNat:Int))) fun y12=>
           bif decide (y12>=0)then
            ze (Z4 ((y11.toNat:Int),s10.2)) fun y13=>
            some (LX.out (s10.1,y13))
           else
            ze (QA (y11.toNat:Int)) fun y14=>
            need (zW s10.2.length 1 1)<|
            some (LX.out (s10.1,s10.2++[y14]))) fun j15=>
         some (LO.again (w64 (j15.1+1),j15.2))
        else
         some (LO.out s10.2):Int×List UInt8->Option (LO (Int×List UInt8) (List UInt8) _)) (0,x.2++[(34:UInt8)]) fun o16=>
      need (zW o16.length 1 1)<|
      some (o16++[(34:UInt8)])
     else
      bif x.1.kind==7 then
       need (zW x.2.length ([117,114,108,40]:Str).length 1)<|
       need (decide (x.1.text.length<=maxLen))<|
       Zj (fun(s17:Int×List UInt8)=>
         bif decide (s17.1<(x.1.text.length:Int))then
          Zk (X:=Int×List UInt8) (
            need (decide (0<=s17.1)&&decide (s17.1<(x.1.text.length:Int)))<|
            ze x.1.text[s17.1.toNat]? fun y18=>
            ze (zA (!(decide ((y18.toNat:Int)<=32))) (strings_IndexByte ([34,39,40,41,92,127],(y18.toNat:Int))) (default:Int)) fun y19=>
            bif bif decide ((y18.toNat:Int)<=32)then true else decide (y19>=0)then
             ze (Z4 ((y18.toNat:Int),s17.2)) fun y20=>
             some (LX.out (s17.1,y20))
            else
             ze (QA (y18.toNat:Int)) fun y21=>
             need (zW s17.2.length 1 1)<|
             some (LX.out (s17.1,s17.2++[y21]))) fun j22=>
          some (LO.again (w64 (j22.1+1),j22.2))
         else
          some (LO.out s17.2):Int×List UInt8->Option (LO (Int×List UInt8) (List UInt8) _)) (0,x.2++([117,114,108,40]:Str)) fun o23=>
       need (zW o23.length 1 1)<|
       some (o23++[(41:UInt8)])
      else
       bif x.1.kind==9 then
        need (zW x.2.length x.1.text.length 1)<|
        some (x.2++x.1.text)
       else
        bif x.1.kind==10 then
         ze (Hu ((x.1.num, !x.1.flag),x.2)) fun y24=>
         some y24
        else
         bif x.1.kind==11 then
          ze (Hu ((x.1.num,false),x.2)) fun y25=>
          need (zW y25.length 1 1)<|
          some (y25++[(37:UInt8)])
         else
          bif x.1.kind==12 then
           ze (Hu ((x.1.num, !x.1.flag),x.2)) fun y26=>
           ze (geti x.1.unit 0) fun y27=>
           need (decide (1<=(x.1.unit.length:Int))|| !(ibOr IntKind.u8 (y27.toNat:Int) 32==101))<|
           ze (zA (ibOr IntKind.u8 (y27.toNat:Int) 32==101) (Ju (List.drop 1 x.1.unit)) (default:Bool)) fun y28=>
           need (decide (1<=(x.1.unit.length:Int))|| !(bif ibOr IntKind.u8 (y27.toNat:Int) 32==101 then y28 else false))<|
           ze (zA (bif ibOr IntKind.u8 (y27.toNat:Int) 32==101 then y28 else false) (strings_HasPrefix (List.drop 1 x.1.unit,[45,45])) (default:Bool)) fun y29=>
           bif bif bif ibOr IntKind.u8 (y27.toNat:Int) 32==101 then y28 else false then !y29 else false then
            ze (geti x.1.unit 0) fun y30=>
            ze (Z4 ((y30.toNat:Int),y26)) fun y31=>
            need (decide (1<=(x.1.unit.length:Int)))<|
            ze (Qu ((List.drop 1 x.1.unit,0),y31)) fun y32=>
            some y32
           else
            ze (Rl x.1.unit) fun y33=>
            ze (Qu ((x.1.unit,y33),y26)) fun y34=>
            some y34
          else
           ze (OB ()) fun y35=>
           ze (geti [y35.e0,y35.e1,y35.e2,y35.e3,y35.e4,y35.e5,y35.e6,y35.e7,y35.e8,y35.e9,y35.e10,y35.e11] (wu8 (x.1.kind - 13))) fun y36=>
           need (zW x.2.length y36.length 1)<|
           some (x.2++y36)
def ZG(x:za):Option za:=
 Zj (fun(s1:za)=>
   need (decide (0<=s1.at_)&&decide (s1.at_<=(s1.s.length:Int)))<|
   ze (strings_HasPrefix (List.drop s1.at_.toNat s1.s,[47,42])) fun y2=>
   bif y2 then
    need (decide (0<=w64 (s1.at_+2))&&decide (w64 (s1.at_+2)<=(s1.s.length:Int)))<|
    ze (Bn (List.drop (w64 (s1.at_+2)).toNat s1.s,[42,47])) fun y3=>
    bif decide (y3<0)then
     some (LO.ret (⟨s1.s,(s1.s.length:Int)⟩:za))
    else
     some (LO.again (⟨s1.s,w64 (s1.at_+w64 (y3+4))⟩:za))
   else
    some (LO.out s1):za->Option (LO (za) (za) _)) x fun o4=>
 some o4
def zh(x:Int×za):Option Int:=
 bif decide (w64 (x.2.at_+x.1)<(x.2.s.length:Int))then
  ze (geti x.2.s (w64 (x.2.at_+x.1))) fun y1=>
  some (w64 (y1.toNat:Int))
 else
  some (-1)
def qZ(x:Int):Option Bool:=
 some (bif bif x==32 then true else x==9 then true else x==10)
def Zm(x:za):Option za:=
 Zj (fun(s1:za)=>
   ze (zh (0,s1)) fun y2=>
   ze (qZ y2) fun y3=>
   bif y3 then
    some (LO.again (⟨s1.s,w64 (s1.at_+1)⟩:za))
   else
    some (LO.out s1):za->Option (LO (za) (za) _)) x fun o4=>
 some o4
def qH(x:Int):Option (List UInt8):=
 bif decide (wu32 x<=2047)then
  ze (QA (ibOr IntKind.u8 192 (wu8 (Mi IntKind.i32 x 6)))) fun y1=>
  ze (QA (ibOr IntKind.u8 128 (Ij IntKind.u8 (wu8 x) 63))) fun y2=>
  need (zW 0 2 1)<|
  some [y1,y2]
 else
  Zk (X:=Bool) (
    bif decide (wu32 x<55296)then
     some (LX.out (decide (wu32 x<55296)))
    else
     some (LX.out (bif decide (57343<wu32 x)then decide (wu32 x<=65535)else false))) fun j3=>
  bif j3 then
   ze (QA (ibOr IntKind.u8 224 (wu8 (Mi IntKind.i32 x 12)))) fun y4=>
   ze (QA (ibOr IntKind.u8 128 (Ij IntKind.u8 (wu8 (Mi IntKind.i32 x 6)) 63))) fun y5=>
   ze (QA (ibOr IntKind.u8 128 (Ij IntKind.u8 (wu8 x) 63))) fun y6=>
   need (zW 0 3 1)<|
   some [y4,y5,y6]
  else
   bif bif decide (wu32 x>65535)then decide (wu32 x<=1114111)else false then
    ze (QA (ibOr IntKind.u8 240 (wu8 (Mi IntKind.i32 x 18)))) fun y7=>
    ze (QA (ibOr IntKind.u8 128 (Ij IntKind.u8 (wu8 (Mi IntKind.i32 x 12)) 63))) fun y8=>
    ze (QA (ibOr IntKind.u8 128 (Ij IntKind.u8 (wu8 (Mi IntKind.i32 x 6)) 63))) fun y9=>
    ze (QA (ibOr IntKind.u8 128 (Ij IntKind.u8 (wu8 x) 63))) fun y10=>
    need (zW 0 4 1)<|
    some [y7,y8,y9,y10]
   else
    need (zW 0 3 1)<|
    some [(239:UInt8),(191:UInt8),(189:UInt8)]
def qD(x:Int):Option (List UInt8):=
 bif decide (wu32 x<=127)then
  ze (QA (wu8 x)) fun y1=>
  need (zW 0 1 1)<|
  some [y1]
 else
  ze (qH x) fun y2=>
  some y2
def qo(x:Int×Int×Int):Option Bool:=
 some (bif decide (x.2.1<=x.1)then decide (x.1<=x.2.2)else false)
def ZU(x:Int):Option Bool:=
 ze (qo (x,48,57)) fun y1=>
 some y1
def Vq(x:Int):Option Int:=
 ze (ZU x) fun y1=>
 bif y1 then
  some (w64 (x - 48))
 else
  ze (zA (x != (-1)) (qo (ibOr IntKind.i64 x 32,97,102)) (default:Bool)) fun y2=>
  bif bif bif bif x != (-1)then y2 else false then decide (x>64)else false then decide (x<128)else false then
   some (w64 (w64 (ibOr IntKind.i64 x 32 - 97)+10))
  else
   some (-1)
def ql(x:za):Option (za×List UInt8):=
 ze (zh (0,(⟨x.s,w64 (x.at_+1)⟩:za))) fun y1=>
 bif y1==(-1)then
  ze (qD 65533) fun y2=>
  some ((⟨x.s,w64 (x.at_+1)⟩:za),y2)
 else
  ze (Vq y1) fun y3=>
  bif decide (y3<0)then
   ze (QA (wu8 y1)) fun y4=>
   need (zW 0 1 1)<|
   some ((⟨x.s,w64 (w64 (x.at_+1)+1)⟩:za),[y4])
  else
   Zj (fun(s5:(Int×Int)×za)=>
     bif decide (s5.1.2<6)then
      ze (zh (0,s5.2)) fun y6=>
      ze (Vq y6) fun y7=>
      bif decide (y7<0)then
       some (LO.out (s5.1.1,s5.2))
      else
       some (LO.again ((ibOr IntKind.i64 (yC IntKind.i64 s5.1.1 4) y7,w64 (s5.1.2+1)),(⟨s5.2.s,w64 (s5.2.at_+1)⟩:za)))
     else
      some (LO.out (s5.1.1,s5.2)):(Int×Int)×za->Option (LO ((Int×Int)×za) (Int×za) _)) ((0,0),(⟨x.s,w64 (x.at_+1)⟩:za)) fun o8=>
   Zk (X:=Int×za) (
     ze (zh (0,o8.2)) fun y9=>
     ze (qZ y9) fun y10=>
     bif y10 then
      some (LX.out (o8.1,(⟨o8.2.s,w64 (o8.2.at_+1)⟩:za)))
     else
      some (LX.out (o8.1,o8.2))) fun j11=>
   Zk (X:=Int) (
     bif j11.1==0 then
      some (LX.out 65533)
     else
      some (LX.out j11.1)) fun j12=>
   ze (qD (w32 j12)) fun y13=>
   some (j11.2,y13)
def qI(x:Int×List UInt8):Option (List UInt8):=
 bif decide (wu32 x.1<=2047)then
  ze (QA (ibOr IntKind.u8 192 (wu8 (Mi IntKind.i32 x.1 6)))) fun y1=>
  ze (QA (ibOr IntKind.u8 128 (Ij IntKind.u8 (wu8 x.1) 63))) fun y2=>
  need (zW x.2.length 2 1)<|
  some (x.2++[y1,y2])
 else
  Zk (X:=Bool×List UInt8) (
    bif decide (wu32 x.1<55296)then
     some (LX.out (decide (wu32 x.1<55296),x.2))
    else
     some (LX.out (bif decide (57343<wu32 x.1)then decide (wu32 x.1<=65535)else false,x.2))) fun j3=>
  bif j3.1 then
   ze (QA (ibOr IntKind.u8 224 (wu8 (Mi IntKind.i32 x.1 12)))) fun y4=>
   ze (QA (ibOr IntKind.u8 128 (Ij IntKind.u8 (wu8 (Mi IntKind.i32 x.1 6)) 63))) fun y5=>
   ze (QA (ibOr IntKind.u8 128 (Ij IntKind.u8 (wu8 x.1) 63))) fun y6=>
   need (zW j3.2.length 3 1)<|
   some (j3.2++[y4,y5,y6])
  else
   bif bif decide (wu32 x.1>65535)then decide (wu32 x.1<=1114111)else false then
    ze (QA (ibOr IntKind.u8 240 (wu8 (Mi IntKind.i32 x.1 18)))) fun y7=>
    ze (QA (ibOr IntKind.u8 128 (Ij IntKind.u8 (wu8 (Mi IntKind.i32 x.1 12)) 63))) fun y8=>
    ze (QA (ibOr IntKind.u8 128 (Ij IntKind.u8 (wu8 (Mi IntKind.i32 x.1 6)) 63))) fun y9=>
    ze (QA (ibOr IntKind.u8 128 (Ij IntKind.u8 (wu8 x.1) 63))) fun y10=>
    need (zW j3.2.length 4 1)<|
    some (j3.2++[y7,y8,y9,y10])
   else
    need (zW j3.2.length 3 1)<|
    some (j3.2++[(239:UInt8),(191:UInt8),(189:UInt8)])
def qE(x:Int×List UInt8):Option (List UInt8):=
 bif decide (wu32 x.1<=127)then
  ze (QA (wu8 x.1)) fun y1=>
  need (zW x.2.length 1 1)<|
  some (x.2++[y1])
 else
  ze (qI (x.1,x.2)) fun y2=>
  some y2
def Zh(x:za×List UInt8):Option (za×List UInt8):=
 ze (zh (0,(⟨x.1.s,w64 (x.1.at_+1)⟩:za))) fun y1=>
 bif y1==(-1)then
  ze (qE (65533,x.2)) fun y2=>
  some ((⟨x.1.s,w64 (x.1.at_+1)⟩:za),y2)
 else
  ze (Vq y1) fun y3=>
  bif decide (y3<0)then
   ze (QA (wu8 y1)) fun y4=>
   need (zW x.2.length 1 1)<|
   some ((⟨x.1.s,w64 (w64 (x.1.at_+1)+1)⟩:za),x.2++[y4])
  else
   Zj (fun(s5:(Int×Int)×za)=>
     bif decide (s5.1.2<6)then
      ze (zh (0,s5.2)) fun y6=>
      ze (Vq y6) fun y7=>
      bif decide (y7<0)then
       some (LO.out (s5.1.1,s5.2))
      else
       some (LO.again ((ibOr IntKind.i64 (yC IntKind.i64 s5.1.1 4) y7,w64 (s5.1.2+1)),(⟨s5.2.s,w64 (s5.2.at_+1)⟩:za)))
     else
      some (LO.out (s5.1.1,s5.2)):(Int×Int)×za->Option (LO ((Int×Int)×za) (Int×za) _)) ((0,0),(⟨x.1.s,w64 (x.1.at_+1)⟩:za)) fun o8=>
   Zk (X:=Int×za×List UInt8) (
     ze (zh (0,o8.2)) fun y9=>
     ze (qZ y9) fun y10=>
     bif y10 then
      some (LX.out (o8.1,(⟨o8.2.s,w64 (o8.2.at_+1)⟩:za),x.2))
     else
      some (LX.out (o8.1,o8.2,x.2))) fun j11=>
   Zk (X:=Int×List UInt8) (
     bif j11.1==0 then
      some (LX.out (65533,j11.2.2))
     else
      some (LX.out (j11.1,j11.2.2))) fun j12=>
   ze (qE (w32 j12.1,j12.2)) fun y13=>
   some (j11.2.1,y13)
def Qb(x:za):Option (zg×za):=
 ze (zh (0,x)) fun y1=>
 Zj (fun(s2:za×zg×List UInt8)=>
   ze (zh (0,s2.1)) fun y3=>
   bif y3==(-1)then
    some (LO.out (s2.1,s2.2.1,s2.2.2))
   else
    bif y3==y1 then
     some (LO.out ((⟨s2.1.s,w64 (s2.1.at_+1)⟩:za),s2.2.1,s2.2.2))
    else
     bif y3==10 then
      some (LO.ret ((⟨6,[],0,[],false⟩:zg),s2.1))
     else
      ze (zA (y3==92) (zh (1,s2.1)) (default:Int)) fun y4=>
      ze (zA (!(y4==(-1))&&y3==92) (zh (1,s2.1)) (default:Int)) fun y5=>
      bif bif y3==92 then bif y4==(-1)then true else y5==10 else false then
       some (LO.again ((⟨s2.1.s,if(s2.1.s.length:Int)<w64 (s2.1.at_+2)then(s2.1.s.length:Int)else w64 (s2.1.at_+2)⟩:za),s2.2.1,s2.2.2))
      else
       bif y3==92 then
        ze (Zh (s2.1,s2.2.2)) fun y6=>
        some (LO.again (y6.1,s2.2.1,y6.2))
       else
        ze (QA (wu8 y3)) fun y7=>
        need (zW s2.2.2.length 1 1)<|
        some (LO.again ((⟨s2.1.s,w64 (s2.1.at_+1)⟩:za),s2.2.1,s2.2.2++[y7])):za×zg×List UInt8->Option (LO (za×zg×List UInt8) (za×zg×List UInt8) _)) ((⟨x.s,w64 (x.at_+1)⟩:za),(⟨0,[],0,[],false⟩:zg),[]) fun o8=>
 some ((⟨5,o8.2.2,0,[],false⟩:zg),o8.1)
def Du(x:Int):Option Bool:=
 ze (qo (ibOr IntKind.i64 x 32,97,122)) fun y1=>
 some (bif bif bif bif y1 then decide (x<128)else false then decide (x>64)else false then true else x==95 then true else decide (x>=128))
def Iy(x:Int):Option Bool:=
 ze (Du x) fun y1=>
 ze (zA (!y1) (ZU x) (default:Bool)) fun y2=>
 some (bif bif y1 then true else y2 then true else x==45)
def zI(x:Int×za):Option Bool:=
 ze (zh (x.1,x.2)) fun y1=>
 ze (zA (y1==92) (zh (w64 (x.1+1),x.2)) (default:Int)) fun y2=>
 some (bif y1==92 then y2 != 10 else false)
def z8(x:Int×za):Option Bool:=
 ze (zh (x.1,x.2)) fun y1=>
 bif y1 != 45 then
  ze (zh (x.1,x.2)) fun y2=>
  ze (Du y2) fun y3=>
  ze (zA (!y3) (zI (x.1,x.2)) (default:Bool)) fun y4=>
  some (bif y3 then true else y4)
 else
  ze (zh (w64 (x.1+1),x.2)) fun y5=>
  ze (Du y5) fun y6=>
  ze (zA (!y6) (zh (w64 (x.1+1),x.2)) (default:Int)) fun y7=>
  ze (zA (!(bif y6 then true else y7==45)) (zI (w64 (x.1+1),x.2)) (default:Bool)) fun y8=>
  some (bif bif y6 then true else y7==45 then true else y8)
def Ze(x:za):Option (Str×za):=
 Zj (fun(s1:za×List UInt8)=>
   ze (zh (0,s1.1)) fun y2=>
   ze (Iy y2) fun y3=>
   bif y3 then
    ze (QA (wu8 y2)) fun y4=>
    need (zW s1.2.length 1 1)<|
    some (LO.again ((⟨s1.1.s,w64 (s1.1.at_+1)⟩:za),s1.2++[y4]))
   else
    ze (zA (y2 != (-1)) (zI (0,s1.1)) (default:Bool)) fun y5=>
    bif bif y2 != (-1)then y5 else false then
     ze (Zh (s1.1,s1.2)) fun y6=>
     some (LO.again (y6.1,y6.2))
    else
     some (LO.ret (s1.2,s1.1)):za×List UInt8->Option (LO (za×List UInt8) (Unit) _)) (x,[]) fun o7=>
 none
def ZV(x:za):Option Bool:=
 Zk (X:=Int) (
   ze (zh (0,x)) fun y1=>
   bif bif y1==43 then true else y1==45 then
    some (LX.out 1)
   else
    some (LX.out 0)) fun j2=>
 Zk (X:=Int) (
   ze (zh (j2,x)) fun y3=>
   bif y3==46 then
    some (LX.out (w64 (j2+1)))
   else
    some (LX.out j2)) fun j4=>
 ze (zh (j4,x)) fun y5=>
 ze (ZU y5) fun y6=>
 some y6
def Zi(x:za):Option za:=
 Zj (fun(s1:za)=>
   ze (zh (0,s1)) fun y2=>
   ze (ZU y2) fun y3=>
   bif y3 then
    some (LO.again (⟨s1.s,w64 (s1.at_+1)⟩:za))
   else
    some (LO.out s1):za->Option (LO (za) (za) _)) x fun o4=>
 some o4
def qM(x:za):Option (Bool×za):=
 Zk (X:=za) (
   ze (zh (0,x)) fun y1=>
   bif bif y1==43 then true else y1==45 then
    some (LX.out (⟨x.s,w64 (x.at_+1)⟩:za))
   else
    some (LX.out x)) fun j2=>
 ze (Zi j2) fun y3=>
 Zk (X:=Bool×za) (
   ze (zh (0,y3)) fun y4=>
   ze (zA (y4==46) (zh (1,y3)) (default:Int)) fun y5=>
   ze (zA (y4==46) (ZU y5) (default:Bool)) fun y6=>
   bif bif y4==46 then y6 else false then
    ze (Zi (⟨y3.s,w64 (y3.at_+1)⟩:za)) fun y7=>
    some (LX.out (false,y7))
   else
    some (LX.out (true,y3))) fun j8=>
 Zk (X:=Bool×za) (
   ze (zh (0,j8.2)) fun y9=>
   ze (zA (!(y9==101)) (zh (0,j8.2)) (default:Int)) fun y10=>
   bif bif y9==101 then true else y10==69 then
    Zk (X:=(Bool×Int)×za) (
      ze (zh (1,j8.2)) fun y11=>
      bif bif y11==43 then true else y11==45 then
       some (LX.out ((j8.1,2),j8.2))
      else
       some (LX.out ((j8.1,1),j8.2))) fun j12=>
    ze (zh (j12.1.2,j12.2)) fun y13=>
    ze (ZU y13) fun y14=>
    bif y14 then
     ze (Zi (⟨j12.2.s,w64 (j12.2.at_+j12.1.2)⟩:za)) fun y15=>
     some (LX.out (false,y15))
    else
     some (LX.out (j12.1.1,j12.2))
   else
    some (LX.out (j8.1,j8.2))) fun j16=>
 some (j16.1,j16.2)
def qC(x:Str):Option Int:=
 ze (geti x 0) fun y1=>
 ze (Gl (x,[43,45])) fun y2=>
 Zk (X:=Str×Int) (
   ze (Sl (y2,[101,69])) fun y3=>
   bif decide (y3>=0)then
    need (decide (0<=w64 (y3+1))&&decide (w64 (y3+1)<=(y2.length:Int)))<|
    ze (Gl (List.drop (w64 (y3+1)).toNat y2,[43,45])) fun y4=>
    need (decide (y4.length<=maxLen))<|
    Zj (fun(s5:Int×Int)=>
      bif decide (s5.2<(y4.length:Int))then
       need (decide (0<=s5.2)&&decide (s5.2<(y4.length:Int)))<|
       ze y4[s5.2.toNat]? fun y6=>
       some (LO.again (if 1048576<w64 (w64 (10*s5.1)+w64 (wu8 ((y6.toNat:Int) - 48)))then 1048576 else w64 (w64 (10*s5.1)+w64 (wu8 ((y6.toNat:Int) - 48))),w64 (s5.2+1)))
      else
       some (LO.out s5.1):Int×Int->Option (LO (Int×Int) (Int) _)) (0,0) fun o7=>
    Zk (X:=Str×Int×Int) (
      ze (geti y2 (w64 (y3+1))) fun y8=>
      bif (y8.toNat:Int)==45 then
       some (LX.out (y2,3,w64 (0 - o7)))
      else
       some (LX.out (y2,3,o7))) fun j9=>
    need (decide (0<=y3)&&decide (y3<=(j9.1.length:Int)))<|
    some (LX.out (List.take y3.toNat j9.1,w64 (j9.2.1+j9.2.2)))
   else
    some (LX.out (y2,3))) fun j10=>
 ze (cutF (j10.1,[46])) fun y11=>
 need (Ig y11.1.length y11.2.1.length)<|
 Zk (X:=Str×Int) (
   bif decide (w64 (j10.2 - (y11.2.1.length:Int))<0)then
    need (decide (0<=(if w64 (((y11.1++y11.2.1).length:Int)+w64 (j10.2 - (y11.2.1.length:Int)))>0 then w64 (((y11.1++y11.2.1).length:Int)+w64 (j10.2 - (y11.2.1.length:Int)))else 0))&&decide ((if w64 (((y11.1++y11.2.1).length:Int)+w64 (j10.2 - (y11.2.1.length:Int)))>0 then w64 (((y11.1++y11.2.1).length:Int)+w64 (j10.2 - (y11.2.1.length:Int)))else 0)<=((y11.1++y11.2.1).length:Int)))<|
    some (LX.out (List.take (if w64 (((y11.1++y11.2.1).length:Int)+w64 (j10.2 - (y11.2.1.length:Int)))>0 then w64 (((y11.1++y11.2.1).length:Int)+w64 (j10.2 - (y11.2.1.length:Int)))else 0).toNat (y11.1++y11.2.1),w64 (j10.2 - (y11.2.1.length:Int))))
   else
    some (LX.out (y11.1++y11.2.1,w64 (j10.2 - (y11.2.1.length:Int))))) fun j12=>
 need (decide (j12.1.length<=maxLen))<|
 Zj (fun(s13:Int×Int)=>
   bif decide (s13.2<(j12.1.length:Int))then
    need (decide (0<=s13.2)&&decide (s13.2<(j12.1.length:Int)))<|
    ze j12.1[s13.2.toNat]? fun y14=>
    some (LO.again (if 1000000000000<w64 (w64 (10*s13.1)+w64 (wu8 ((y14.toNat:Int) - 48)))then 1000000000000 else w64 (w64 (10*s13.1)+w64 (wu8 ((y14.toNat:Int) - 48))),w64 (s13.2+1)))
   else
    some (LO.out s13.1):Int×Int->Option (LO (Int×Int) (Int) _)) (0,0) fun o15=>
 Zj (fun(s16:Int×Int)=>
   bif bif bif decide (s16.1>0)then decide (s16.2>0)else false then decide (s16.2<1000000000000)else false then
    some (LO.again (w64 (s16.1 - 1),if 1000000000000<w64 (10*s16.2)then 1000000000000 else w64 (10*s16.2)))
   else
    some (LO.out s16.2):Int×Int->Option (LO (Int×Int) (Int) _)) (j12.2,o15) fun o17=>
 Zk (X:=Int) (
   bif (y1.toNat:Int)==45 then
    some (LX.out (w64 (0 - o17)))
   else
    some (LX.out o17)) fun j18=>
 some j18
def qf(x:za):Option (zg×za):=
 ze (qM x) fun y1=>
 need (decide (0<=x.at_)&&(decide (x.at_<=y1.2.at_)&&decide (y1.2.at_<=(y1.2.s.length:Int))))<|
 ze (qC (List.drop x.at_.toNat (List.take y1.2.at_.toNat y1.2.s))) fun y2=>
 Zk (X:=za×zg×zg) (
   ze (z8 (0,y1.2)) fun y3=>
   bif y3 then
    ze (Ze y1.2) fun y4=>
    some (LX.out (y4.2,(⟨0,[],0,[],false⟩:zg),(⟨12,[],y2,y4.1,y1.1⟩:zg)))
   else
    ze (zh (0,y1.2)) fun y5=>
    bif y5==37 then
     some (LX.out ((⟨y1.2.s,w64 (y1.2.at_+1)⟩:za),(⟨0,[],0,[],false⟩:zg),(⟨11,[],y2,[],false⟩:zg)))
    else
     some (LX.out (y1.2,(⟨0,[],0,[],false⟩:zg),(⟨10,[],y2,[],y1.1⟩:zg)))) fun j6=>
 some (j6.2.2,j6.1)
def qB(x:za):Option (zg×za):=
 Zj (fun(s1:za×zg)=>
   ze (zh (0,s1.1)) fun y2=>
   bif y2==(-1)then
    some (LO.ret ((⟨8,[],0,[],false⟩:zg),s1.1))
   else
    ze (zI (0,s1.1)) fun y3=>
    bif y3 then
     ze (ql s1.1) fun y4=>
     some (LO.again (y4.1,s1.2))
    else
     ze (geti s1.1.s (w64 (w64 (s1.1.at_+1) - 1))) fun y5=>
     bif (y5.toNat:Int)==41 then
      some (LO.ret ((⟨8,[],0,[],false⟩:zg),(⟨s1.1.s,w64 (s1.1.at_+1)⟩:za)))
     else
      some (LO.again ((⟨s1.1.s,w64 (s1.1.at_+1)⟩:za),s1.2)):za×zg->Option (LO (za×zg) (Unit) _)) (x,(⟨0,[],0,[],false⟩:zg)) fun o6=>
 none
def OC(x:za):Option (zg×za):=
 ze (Zm x) fun y1=>
 Zj (fun(s2:za×zg×List UInt8)=>
   ze (zh (0,s2.1)) fun y3=>
   Zk (X:=Int×za×zg×List UInt8) (
     ze (qZ y3) fun y4=>
     bif y4 then
      ze (Zm s2.1) fun y5=>
      ze (zh (0,y5)) fun y6=>
      bif bif y6 != 41 then y6 != (-1)else false then
       ze (qB y5) fun y7=>
       some (LX.ret (LO.ret (y7.1,y7.2)))
      else
       some (LX.out (y6,y5,s2.2.1,s2.2.2))
     else
      some (LX.out (y3,s2.1,s2.2.1,s2.2.2))) fun j8=>
   bif j8.1==(-1)then
    some (LO.ret ((⟨7,j8.2.2.2,0,[],false⟩:zg),j8.2.1))
   else
    bif j8.1==41 then
     some (LO.ret ((⟨7,j8.2.2.2,0,[],false⟩:zg),(⟨j8.2.1.s,w64 (j8.2.1.at_+1)⟩:za)))
    else
     ze (zA (!(bif bif bif bif j8.1==34 then true else j8.1==39 then true else j8.1==40 then true else decide (j8.1<=8)then true else j8.1==11)) (qo (j8.1,14,31)) (default:Bool)) fun y9=>
     bif bif bif bif bif bif bif j8.1==34 then true else j8.1==39 then true else j8.1==40 then true else decide (j8.1<=8)then true else j8.1==11 then true else y9 then true else j8.1==127 then
      ze (qB j8.2.1) fun y10=>
      some (LO.ret (y10.1,y10.2))
     else
      bif j8.1 != 92 then
       ze (QA (wu8 j8.1)) fun y11=>
       need (zW j8.2.2.2.length 1 1)<|
       some (LO.again ((⟨j8.2.1.s,w64 (j8.2.1.at_+1)⟩:za),j8.2.2.1,j8.2.2.2++[y11]))
      else
       ze (zI (0,j8.2.1)) fun y12=>
       bif y12 then
        ze (Zh (j8.2.1,j8.2.2.2)) fun y13=>
        some (LO.again (y13.1,j8.2.2.1,y13.2))
       else
        ze (qB j8.2.1) fun y14=>
        some (LO.ret (y14.1,y14.2)):za×zg×List UInt8->Option (LO (za×zg×List UInt8) (Unit) _)) (y1,(⟨0,[],0,[],false⟩:zg),[]) fun o15=>
 none
def Z8(x:za):Option (zg×za):=
 ze (Ze x) fun y1=>
 ze (zh (0,y1.2)) fun y2=>
 bif y2 != 40 then
  some ((⟨1,y1.1,0,[],false⟩:zg),y1.2)
 else
  Zk (X:=za×zg) (
    ze (Zt (y1.1,[117,114,108])) fun y3=>
    bif y3 then
     ze (Zm (⟨y1.2.s,w64 (y1.2.at_+1)⟩:za)) fun y4=>
     ze (zh (0,y4)) fun y5=>
     bif bif y5 != 34 then y5 != 39 else false then
      ze (OC (⟨y1.2.s,w64 (y1.2.at_+1)⟩:za)) fun y6=>
      some (LX.ret (y6.1,y6.2))
     else
      some (LX.out ((⟨y1.2.s,w64 (y1.2.at_+1)⟩:za),(⟨0,[],0,[],false⟩:zg)))
    else
     some (LX.out ((⟨y1.2.s,w64 (y1.2.at_+1)⟩:za),(⟨0,[],0,[],false⟩:zg)))) fun j7=>
  some ((⟨2,y1.1,0,[],false⟩:zg),j7.1)
def qW(x:za):Option (zg×za):=
 ze (zh (0,x)) fun y1=>
 need (decide (0<=x.at_)&&decide (x.at_<=(x.s.length:Int)))<|
 ze (qZ y1) fun y2=>
 bif y2 then
  ze (Zm x) fun y3=>
  some ((⟨13,[],0,[],false⟩:zg),y3)
 else
  bif bif y1==34 then true else y1==39 then
   ze (Qb x) fun y4=>
   some (y4.1,y4.2)
  else
   ze (zA (y1==35) (zh (1,x)) (default:Int)) fun y5=>
   ze (zA (y1==35) (Iy y5) (default:Bool)) fun y6=>
   ze (zA (!y6&&y1==35) (zI (1,x)) (default:Bool)) fun y7=>
   bif bif y1==35 then bif y6 then true else y7 else false then
    ze (z8 (1,x)) fun y8=>
    ze (Ze (⟨x.s,w64 (x.at_+1)⟩:za)) fun y9=>
    some ((⟨4,y9.1,0,[],y8⟩:zg),y9.2)
   else
    ze (ZV x) fun y10=>
    bif y10 then
     ze (qf x) fun y11=>
     some (y11.1,y11.2)
    else
     ze (strings_HasPrefix (List.drop x.at_.toNat x.s,[45,45,62])) fun y12=>
     bif y12 then
      some ((⟨15,[],0,[],false⟩:zg),(⟨x.s,w64 (x.at_+3)⟩:za))
     else
      ze (strings_HasPrefix (List.drop x.at_.toNat x.s,[60,33,45,45])) fun y13=>
      bif y13 then
       some ((⟨14,[],0,[],false⟩:zg),(⟨x.s,w64 (x.at_+4)⟩:za))
      else
       ze (zA (y1==64) (z8 (1,x)) (default:Bool)) fun y14=>
       bif bif y1==64 then y14 else false then
        ze (Ze (⟨x.s,w64 (x.at_+1)⟩:za)) fun y15=>
        some ((⟨3,y15.1,0,[],false⟩:zg),y15.2)
       else
        ze (z8 (0,x)) fun y16=>
        bif y16 then
         ze (Z8 x) fun y17=>
         some (y17.1,y17.2)
        else
         ze (strings_IndexByte ([58,59,44,91,93,40,41,123,125],wu8 y1)) fun y18=>
         bif decide (y18>=0)then
          some ((⟨wu8 (16+wu8 y18),[],0,[],false⟩:zg),(⟨x.s,w64 (x.at_+1)⟩:za))
         else
          need (decide (1<=((List.drop x.at_.toNat x.s).length:Int)))<|
          some ((⟨9,List.take 1 (List.drop x.at_.toNat x.s),0,[],false⟩:zg),(⟨x.s,w64 (x.at_+1)⟩:za))
def SC(x:(zg×Int×Int)×List zg):Option (List zg):=
 need (zW x.2.length 1 56)<|
 some (x.2++[x.1.1])
def aB(x:Str):Option (Int×List zg):=
 ze (wm x) fun y1=>
 bif y1.2 != 0 then
  some (y1.2,[])
 else
  ze (ZG (⟨y1.1,0⟩:za)) fun y2=>
  Zj (fun(s3:Int×List zg×za)=>
    bif decide (s3.2.2.at_<(y1.1.length:Int))then
     bif decide (w64 (s3.1+1)>1500)then
      some (LO.ret (4,s3.2.1))
     else
      ze (qW s3.2.2) fun y4=>
      ze (SC ((y4.1,s3.2.2.at_,y4.2.at_),s3.2.1)) fun y5=>
      ze (ZG y4.2) fun y6=>
      some (LO.again (w64 (s3.1+1),y5,y6))
    else
     some (LO.out (s3.2.1,s3.2.2)):Int×List zg×za->Option (LO (Int×List zg×za) (List zg×za) _)) (0,[],y2) fun o7=>
  some (0,o7.1)
def QT(x:Str):Option (List zg×Int):=
 ze (aB x) fun y1=>
 bif y1.1 != 0 then
  some ([],y1.1)
 else
  some (y1.2,0)
def qU(x:List zg×List zg):Option Bool:=
 bif (x.1.length:Int) != (x.2.length:Int)then
  some false
 else
  Zj (fun(s1:Int)=>
    bif decide (s1<(x.1.length:Int))then
     ze (geti x.1 s1) fun y2=>
     ze (geti x.2 s1) fun y3=>
     bif !(y2.kind==y3.kind&&(y2.text==y3.text&&(y2.num==y3.num&&(y2.unit==y3.unit&&(y2.flag==y3.flag&&true)))))then
      some (LO.ret false)
     else
      some (LO.again (w64 (s1+1)))
    else
     some (LO.out ()):Int->Option (LO (Int) (Unit) _)) 0 fun o4=>
  some true
def BB(x:List zg):Option (Str×Int):=
 ze (QE x) fun y1=>
 bif y1 != 0 then
  some ([],y1)
 else
  Zj (fun(s2:Int×List UInt8×List zU)=>
    bif decide (s2.1<(x.length:Int))then
     need (decide (0<=s2.1)&&decide (s2.1<=(x.length:Int)))<|
     ze (QF (List.drop s2.1.toNat x)) fun y3=>
     need (decide (0<=s2.1)&&(decide (s2.1<=w64 (s2.1+y3))&&decide (w64 (s2.1+y3)<=(x.length:Int))))<|
     Zj (fun(s4:Int×List UInt8)=>
       bif decide (s4.1<((List.drop s2.1.toNat (List.take (w64 (s2.1+y3)).toNat x)).length:Int))then
        ze (geti (List.drop s2.1.toNat (List.take (w64 (s2.1+y3)).toNat x)) s4.1) fun y5=>
        ze (Vx (y5,s4.2)) fun y6=>
        some (LO.again (w64 (s4.1+1),y6))
       else
        some (LO.out s4.2):Int×List UInt8->Option (LO (Int×List UInt8) (List UInt8) _)) (0,[]) fun o7=>
     Zk (X:=Int×List UInt8×List zU×List UInt8) (
       ze (geti x s2.1) fun y8=>
       bif bif y8.kind==9 then y3==2 else false then
        some (LX.out (s2.1,s2.2.1,s2.2.2,[(92:UInt8),(10:UInt8)]))
       else
        some (LX.out (s2.1,s2.2.1,s2.2.2,o7))) fun j9=>
     Zk (X:=Int×List UInt8×List zU×zU) (
       bif decide (w64 ((j9.2.2.1.length:Int) - 4)>=0)then
        need (decide (0<=w64 ((j9.2.2.1.length:Int) - 4))&&decide (w64 ((j9.2.2.1.length:Int) - 4)<(j9.2.2.1.length:Int)))<|
        ze (j9.2.2.1[(w64 ((j9.2.2.1.length:Int) - 4)).toNat]?) fun y10=>
        some (LX.out (j9.1,j9.2.1,j9.2.2.1,y10))
       else
        some (LX.out (j9.1,j9.2.1,j9.2.2.1,(⟨0,0⟩:zU)))) fun j11=>
     need (decide (0<=j11.2.2.2.at_)&&decide (j11.2.2.2.at_<=(j11.2.1.length:Int)))<|
     need (decide (j11.2.2.2.at_.toNat+(j11.2.1.length - j11.2.2.2.at_.toNat)<=j11.2.1.length))<|
     need (Ig (List.take (j11.2.1.length - j11.2.2.2.at_.toNat) (List.drop j11.2.2.2.at_.toNat j11.2.1)).length j9.2.2.2.length)<|
     ze (QT (List.take (j11.2.1.length - j11.2.2.2.at_.toNat) (List.drop j11.2.2.2.at_.toNat j11.2.1)++j9.2.2.2)) fun y12=>
     Zk (X:=Int×List zU×List UInt8) (
       need (decide (0<=j11.2.2.2.token)&&(decide (j11.2.2.2.token<=w64 (j11.1+y3))&&decide (w64 (j11.1+y3)<=(x.length:Int)))|| !(!(y12.2 != 0)))<|
       ze (zA (!(y12.2 != 0)) (qU (y12.1,List.drop j11.2.2.2.token.toNat (List.take (w64 (j11.1+y3)).toNat x))) (default:Bool)) fun y13=>
       bif bif y12.2 != 0 then true else !y13 then
        need (zW j11.2.1.length ([47,42,42,47]:Str).length 1)<|
        some (LX.out (j11.1,j11.2.2.1,j11.2.1++([47,42,42,47]:Str)))
       else
        some (LX.out (j11.1,j11.2.2.1,j11.2.1))) fun j14=>
     need (zW j14.2.1.length 1 16)<|
     need (zW j14.2.2.length j9.2.2.2.length 1)<|
     bif decide (((j14.2.2++j9.2.2.2).length:Int)>4000)then
      some (LO.ret ([],28))
     else
      some (LO.again (w64 (j14.1+y3),j14.2.2++j9.2.2.2,j14.2.1++[(⟨j14.1,(j14.2.2.length:Int)⟩:zU)]))
    else
     some (LO.out s2.2.1):Int×List UInt8×List zU->Option (LO (Int×List UInt8×List zU) (List UInt8) _)) (0,[],[]) fun o15=>
  some (o15,0)
def SA(x:List zb):Option (Str×Int):=
 ze (qb x) fun y1=>
 bif y1 != 0 then
  some ([],y1)
 else
  ze (pq x) fun y2=>
  ze (BB y2) fun y3=>
  some (y3.1,y3.2)
def xA(x:zD):Option (Str×Int):=
 ze (Pm x) fun y1=>
 bif y1 != 0 then
  some ([],y1)
 else
  ze (Tt x.name) fun y2=>
  bif y2.2 != 0 then
   some ([],y2.2)
  else
   ze (SA x.value) fun y3=>
   bif y3.2 != 0 then
    some ([],y3.2)
   else
    need (Ig y2.1.length ([58,32]:Str).length)<|
    need (Ig (y2.1++([58,32]:Str)).length y3.1.length)<|
    Zk (X:=Str) (
      bif x.important then
       need (Ig (y2.1++([58,32]:Str)++y3.1).length ([32,33,105,109,112,111,114,116,97,110,116]:Str).length)<|
       some (LX.out (y2.1++([58,32]:Str)++y3.1++([32,33,105,109,112,111,114,116,97,110,116]:Str)))
      else
       some (LX.out (y2.1++([58,32]:Str)++y3.1))) fun j4=>
    bif decide ((j4.length:Int)>4000)then
     some ([],28)
    else
     some (j4,0)
def Qr(zM:zf×Bool->Option (Str×Bool))(x:zf×Bool):Option (Str×Bool):=
 ze (zM ((⟨x.1.kind,x.1.name,x.1.num,x.1.decl,x.1.list⟩:zf),x.2)) fun y1=>
 ze (Wt (⟨x.1.kind,x.1.name,x.1.num,x.1.decl,x.1.list⟩:zf)) fun y2=>
 bif y2 then
  some (y1.1,y1.2)
 else
  need (Ig ([40]:Str).length y1.1.length)<|
  need (Ig (([40]:Str)++y1.1).length ([41]:Str).length)<|
  some (([40]:Str)++y1.1++([41]:Str),y1.2)
def Yx(zM:zf×Bool->Option (Str×Bool))(x:(List zf×Str)×Bool):Option (Str×Bool):=
 Zj (fun(s1:Int×Bool×List Str)=>
   bif decide (s1.1<(x.1.1.length:Int))then
    ze (geti x.1.1 s1.1) fun y2=>
    ze (Qr zM ((⟨y2.kind,y2.name,y2.num,y2.decl,y2.list⟩:zf),s1.2.1)) fun y3=>
    need (zW s1.2.2.length 1 16)<|
    some (LO.again (w64 (s1.1+1),y3.2,s1.2.2++[y3.1]))
   else
    some (LO.out (s1.2.1,s1.2.2)):Int×Bool×List Str->Option (LO (Int×Bool×List Str) (Bool×List Str) _)) (0,x.2,[]) fun o4=>
 ze (jl (o4.2,x.1.2)) fun y5=>
 some (y5,o4.1)
def uG(zM:zf×Bool->Option (Str×Bool))(x:zf×Bool):Option (Str×Bool):=
 bif x.1.kind==7 then
  ze (xA x.1.decl) fun y1=>
  need (Ig ([40]:Str).length y1.1.length)<|
  need (Ig (([40]:Str)++y1.1).length ([41]:Str).length)<|
  some (([40]:Str)++y1.1++([41]:Str),bif x.2 then true else y1.2 != 0)
 else
  bif x.1.kind==8 then
   some ([40,117,110,107,110,111,119,110,41],x.2)
  else
   bif x.1.kind==3 then
    ze (geti x.1.list 0) fun y2=>
    ze (Qr zM ((⟨y2.kind,y2.name,y2.num,y2.decl,y2.list⟩:zf),x.2)) fun y3=>
    need (Ig ([110,111,116,32]:Str).length y3.1.length)<|
    some (([110,111,116,32]:Str)++y3.1,y3.2)
   else
    bif x.1.kind==2 then
     ze (Yx zM ((x.1.list,[32,111,114,32]),x.2)) fun y4=>
     some (y4.1,y4.2)
    else
     ze (Yx zM ((x.1.list,[32,97,110,100,32]),x.2)) fun y5=>
     some (y5.1,y5.2)
def zM:zf×Bool->Option (Str×Bool):=recE (uG)
def Jm(x:zf):Option (Str×Int):=
 ze (Oo (⟨x.kind,x.name,x.num,x.decl,x.list⟩:zf)) fun y1=>
 bif y1 != 0 then
  some ([],y1)
 else
  Zk (X:=Str×Bool) (
    ze (Qq (⟨x.kind,x.name,x.num,x.decl,x.list⟩:zf)) fun y2=>
    bif y2==0 then
     ze (ZJ (⟨x.kind,x.name,x.num,x.decl,x.list⟩:zf)) fun y3=>
     some (LX.out (y3,false))
    else
     ze (zM ((⟨x.kind,x.name,x.num,x.decl,x.list⟩:zf),false)) fun y4=>
     some (LX.out (y4.1,y4.2))) fun j5=>
  bif bif j5.2 then true else decide ((j5.1.length:Int)>4000)then
   some ([],28)
  else
   some (j5.1,0)
def qY(x:zf):Option Int:=
 ze (bB (⟨x.kind,x.name,x.num,x.decl,x.list⟩:zf)) fun y1=>
 bif !y1 then
  some 8
 else
  some 0
def Cu(QG:List zb×List zb->Option Bool)(x:List zb×List zb):Option Bool:=
 bif (x.1.length:Int) != (x.2.length:Int)then
  some false
 else
  Zj (fun(s1:Int)=>
    bif decide (s1<(x.1.length:Int))then
     ze (geti x.1 s1) fun y2=>
     ze (geti x.2 s1) fun y3=>
     ze (zA (!(!(y2.token.kind==y3.token.kind&&(y2.token.text==y3.token.text&&(y2.token.num==y3.token.num&&(y2.token.unit==y3.token.unit&&(y2.token.flag==y3.token.flag&&true))))))) (geti x.1 s1) (default:zb)) fun y4=>
     ze (zA (!(!(y2.token.kind==y3.token.kind&&(y2.token.text==y3.token.text&&(y2.token.num==y3.token.num&&(y2.token.unit==y3.token.unit&&(y2.token.flag==y3.token.flag&&true))))))) (geti x.2 s1) (default:zb)) fun y5=>
     ze (zA (!(!(y2.token.kind==y3.token.kind&&(y2.token.text==y3.token.text&&(y2.token.num==y3.token.num&&(y2.token.unit==y3.token.unit&&(y2.token.flag==y3.token.flag&&true))))))) (QG (y4.list,y5.list)) (default:Bool)) fun y6=>
     bif bif !(y2.token.kind==y3.token.kind&&(y2.token.text==y3.token.text&&(y2.token.num==y3.token.num&&(y2.token.unit==y3.token.unit&&(y2.token.flag==y3.token.flag&&true)))))then true else !y6 then
      some (LO.ret false)
     else
      some (LO.again (w64 (s1+1)))
    else
     some (LO.out ()):Int->Option (LO (Int) (Unit) _)) 0 fun o7=>
  some true
def QG:List zb×List zb->Option Bool:=recE (Cu)
def Eu(x:zD×zD):Option Bool:=
 ze (zA (bif x.1.name==x.2.name then x.1.important==x.2.important else false) (QG (x.1.value,x.2.value)) (default:Bool)) fun y1=>
 some (bif bif x.1.name==x.2.name then x.1.important==x.2.important else false then y1 else false)
def Nu(x:Str):Option (List zb):=
 ze (QT x) fun y1=>
 ze (parseF y1.1) fun y2=>
 bif bif y1.2 != 0 then true else y2.2 != 0 then
  some []
 else
  some y2.1
def LB(x:List zb×Int):Option (List (List zb)×Int):=
 ze (qb x.1) fun y1=>
 bif y1 != 0 then
  some ([],y1)
 else
  bif bif decide (x.2<1)then true else decide (x.2>24)then
   some ([],2)
  else
   Zj (fun(s2:(Int×Int)×List (List zb))=>
     bif decide (s2.1.2<(x.1.length:Int))then
      Zk (X:=(Int×Int)×List (List zb)) (
        ze (geti x.1 s2.1.2) fun y3=>
        bif y3.token.kind==x.2 then
         need (decide (0<=s2.1.1)&&(decide (s2.1.1<=s2.1.2)&&(decide (s2.1.2<=s2.1.2)&&decide (s2.1.2<=(x.1.length:Int))))&&decide (s2.1.2=s2.1.2))<|
         ze (uj (List.drop s2.1.1.toNat (List.take s2.1.2.toNat x.1))) fun y4=>
         need (zW s2.2.length 1 24)<|
         some (LX.out ((w64 (s2.1.2+1),s2.1.2),s2.2++[y4]))
        else
         some (LX.out ((s2.1.1,s2.1.2),s2.2))) fun j5=>
      some (LO.again ((j5.1.1,w64 (j5.1.2+1)),j5.2))
     else
      some (LO.out (s2.1.1,s2.2)):(Int×Int)×List (List zb)->Option (LO ((Int×Int)×List (List zb)) (Int×List (List zb)) _)) ((0,0),[]) fun o6=>
   need (decide (0<=o6.1)&&decide (o6.1<=(x.1.length:Int)))<|
   ze (uj (List.drop o6.1.toNat x.1)) fun y7=>
   need (zW o6.2.length 1 24)<|
   some (o6.2++[y7],0)
def zQ(x:zk):Option Int:=
 bif (x.v.length:Int)==0 then
  some 0
 else
  ze (geti x.v 0) fun y1=>
  some y1.token.kind
def zT(x:zk):Option (zb×zk):=
 ze (geti x.v 0) fun y1=>
 need (decide (1<=(x.v.length:Int)))<|
 some ((⟨y1.token,y1.list⟩:zb),(⟨List.drop 1 x.v⟩:zk))
def zw(x:zk):Option (Bool×zk):=
 Zj (fun(s1:zk)=>
   ze (zQ s1) fun y2=>
   bif y2==13 then
    ze (zT s1) fun y3=>
    some (LO.again y3.2)
   else
    some (LO.out s1):zk->Option (LO (zk) (zk) _)) x fun o4=>
 some (decide ((o4.v.length:Int)<(x.v.length:Int)),o4)
def Zv(x:List Str×zk):Option (Str×zk):=
 Zj (fun(s1:Int×zk)=>
   bif decide (s1.1<(x.1.length:Int))then
    ze (geti x.1 s1.1) fun y2=>
    ze (zQ s1.2) fun y3=>
    ze (zA (y3==1) (geti s1.2.v 0) (default:zb)) fun y4=>
    ze (zA (y3==1) (Zt (y4.token.text,y2)) (default:Bool)) fun y5=>
    bif bif y3==1 then y5 else false then
     ze (zT s1.2) fun y6=>
     some (LO.ret (y2,y6.2))
    else
     some (LO.again (w64 (s1.1+1),s1.2))
   else
    some (LO.out s1.2):Int×zk->Option (LO (Int×zk) (zk) _)) (0,x.2) fun o7=>
 some ([],o7)
def Z7(x:zk):Option ((zf×Bool)×zk):=
 ze (zQ x) fun y1=>
 bif y1 != 21 then
  some (((⟨0,[],0,(⟨[],[],false⟩:zD),[]⟩:zf),false),x)
 else
  ze (zT x) fun y2=>
  ze (zw (⟨y2.1.list⟩:zk)) fun y3=>
  Zk (X:=(Int×Str×Int×Str×Bool)×zk×(Int×Str×Int×Str×Bool)) (
    ze (Zv ([[109,105,110,45,119,105,100,116,104],[109,97,120,45,119,105,100,116,104]],y3.2)) fun y4=>
    bif y4.1==[]then
     some (LX.ret (((⟨5,[],0,(⟨[],[],false⟩:zD),[]⟩:zf),false),y2.2))
    else
     bif y4.1==[109,97,120,45,119,105,100,116,104]then
      some (LX.out ((0,[],0,[],false),y4.2,(6,[],0,[],false)))
     else
      some (LX.out ((0,[],0,[],false),y4.2,(5,[],0,[],false)))) fun j5=>
  ze (zw j5.2.1) fun y6=>
  ze (zQ y6.2) fun y7=>
  bif y7 != 16 then
   some (((⟨j5.2.2.1,j5.2.2.2.1,j5.2.2.2.2.1,(⟨j5.2.2.2.2.2.1,[],j5.2.2.2.2.2.2⟩:zD),[]⟩:zf),false),y2.2)
  else
   ze (zT y6.2) fun y8=>
   ze (zw y8.2) fun y9=>
   ze (zQ y9.2) fun y10=>
   ze (zA (y10 != 12) (zQ y9.2) (default:Int)) fun y11=>
   bif bif y10 != 12 then y11 != 10 else false then
    some (((⟨j5.2.2.1,j5.2.2.2.1,j5.2.2.2.2.1,(⟨j5.2.2.2.2.2.1,[],j5.2.2.2.2.2.2⟩:zD),[]⟩:zf),false),y2.2)
   else
    ze (zT y9.2) fun y12=>
    ze (zw y12.2) fun y13=>
    ze (zA (y12.1.token.kind==12) (Zt (y12.1.token.unit,[112,120])) (default:Bool)) fun y14=>
    ze (zA (bif bif bif y12.1.token.kind==12 then y14 else false then true else bif y12.1.token.kind==10 then y12.1.token.num==0 else false then decide (y12.1.token.num>=0)else false) (Qt y12.1.token.num) (default:Int)) fun y15=>
    some (((⟨j5.2.2.1,j5.2.2.2.1,y12.1.token.num,(⟨j5.2.2.2.2.2.1,[],j5.2.2.2.2.2.2⟩:zD),[]⟩:zf),bif bif bif bif bif y12.1.token.kind==12 then y14 else false then true else bif y12.1.token.kind==10 then y12.1.token.num==0 else false then decide (y12.1.token.num>=0)else false then y15==0 else false then(y13.2.v.length:Int)==0 else false),y2.2)
def Qj(x:zk):Option ((zf×Bool)×zk):=
 ze (zw x) fun y1=>
 ze (Zv ([[110,111,116],[111,110,108,121]],y1.2)) fun y2=>
 ze (zw y2.2) fun y3=>
 Zk (X:=zk×(Int×Str×Int×Str×Bool)×(Int×Str×Int×Str×Bool)×List zf) (
   ze (zQ y3.2) fun y4=>
   bif y4==1 then
    ze (zT y3.2) fun y5=>
    ze (ZL y5.1.token.text) fun y6=>
    ze (oq y6) fun y7=>
    bif !y7 then
     some (LX.ret (((⟨1,[],0,(⟨[],[],false⟩:zD),[]⟩:zf),false),y5.2))
    else
     need (zW 0 1 104)<|
     some (LX.out (y5.2,(0,[],0,[],false),(1,[],0,[],false),[(⟨4,y6,0,(⟨[],[],false⟩:zD),[]⟩:zf)]))
   else
    ze (Z7 y3.2) fun y8=>
    bif bif !y8.1.2 then true else !(y2.1==[])then
     some (LX.ret (((⟨1,[],0,(⟨[],[],false⟩:zD),[]⟩:zf),false),y8.2))
    else
     need (zW 0 1 104)<|
     some (LX.out (y8.2,(0,[],0,[],false),(1,[],0,[],false),[(⟨y8.1.1.kind,y8.1.1.name,y8.1.1.num,y8.1.1.decl,y8.1.1.list⟩:zf)]))) fun j9=>
 ze (zw j9.1) fun y10=>
 Zj (fun(s11:zk×(Int×Str×Int×Str×Bool)×(Int×Str×Int×Str×Bool)×List zf)=>
   bif decide ((s11.1.v.length:Int)>0)then
    ze (Zv ([[97,110,100]],s11.1)) fun y12=>
    bif y12.1==[]then
     some (LO.ret (((⟨s11.2.2.1.1,s11.2.2.1.2.1,s11.2.2.1.2.2.1,(⟨s11.2.2.1.2.2.2.1,[],s11.2.2.1.2.2.2.2⟩:zD),s11.2.2.2⟩:zf),false),y12.2))
    else
     ze (zw y12.2) fun y13=>
     ze (Z7 y13.2) fun y14=>
     bif !y14.1.2 then
      some (LO.ret (((⟨s11.2.2.1.1,s11.2.2.1.2.1,s11.2.2.1.2.2.1,(⟨s11.2.2.1.2.2.2.1,[],s11.2.2.1.2.2.2.2⟩:zD),s11.2.2.2⟩:zf),false),y14.2))
     else
      need (zW s11.2.2.2.length 1 104)<|
      ze (zw y14.2) fun y15=>
      some (LO.again (y15.2,(s11.2.1.1,s11.2.1.2.1,s11.2.1.2.2.1,s11.2.1.2.2.2.1,s11.2.1.2.2.2.2),(s11.2.2.1.1,s11.2.2.1.2.1,s11.2.2.1.2.2.1,s11.2.2.1.2.2.2.1,s11.2.2.1.2.2.2.2),s11.2.2.2++[(⟨y14.1.1.kind,y14.1.1.name,y14.1.1.num,y14.1.1.decl,y14.1.1.list⟩:zf)]))
   else
    some (LO.out (s11.1,(s11.2.1.1,s11.2.1.2.1,s11.2.1.2.2.1,s11.2.1.2.2.2.1,s11.2.1.2.2.2.2),(s11.2.2.1.1,s11.2.2.1.2.1,s11.2.2.1.2.2.1,s11.2.2.1.2.2.2.1,s11.2.2.1.2.2.2.2),s11.2.2.2)):zk×(Int×Str×Int×Str×Bool)×(Int×Str×Int×Str×Bool)×List zf->Option (LO (zk×(Int×Str×Int×Str×Bool)×(Int×Str×Int×Str×Bool)×List zf) (zk×(Int×Str×Int×Str×Bool)×(Int×Str×Int×Str×Bool)×List zf) _)) (y10.2,(j9.2.1.1,j9.2.1.2.1,j9.2.1.2.2.1,j9.2.1.2.2.2.1,j9.2.1.2.2.2.2),(j9.2.2.1.1,j9.2.2.1.2.1,j9.2.2.1.2.2.1,j9.2.2.1.2.2.2.1,j9.2.2.1.2.2.2.2),j9.2.2.2) fun o16=>
 Zk (X:=(Int×Str×Int×Str×Bool)×(Int×Str×Int×Str×Bool×List zf)) (
   bif y2.1==[110,111,116]then
    some (LX.out ((o16.2.1.1,o16.2.1.2.1,o16.2.1.2.2.1,o16.2.1.2.2.2.1,o16.2.1.2.2.2.2),(3,[],0,[],false,[(⟨o16.2.2.1.1,o16.2.2.1.2.1,o16.2.2.1.2.2.1,(⟨o16.2.2.1.2.2.2.1,[],o16.2.2.1.2.2.2.2⟩:zD),o16.2.2.2⟩:zf)])))
   else
    some (LX.out ((o16.2.1.1,o16.2.1.2.1,o16.2.1.2.2.1,o16.2.1.2.2.2.1,o16.2.1.2.2.2.2),(o16.2.2.1.1,o16.2.2.1.2.1,o16.2.2.1.2.2.1,o16.2.2.1.2.2.2.1,o16.2.2.1.2.2.2.2,o16.2.2.2)))) fun j17=>
 some (((⟨j17.2.1,j17.2.2.1,j17.2.2.2.1,(⟨j17.2.2.2.2.1,[],j17.2.2.2.2.2.1⟩:zD),j17.2.2.2.2.2.2⟩:zf),true),o16.1)
def yt(x:List zb):Option (zf×Int):=
 ze (LB (x,18)) fun y1=>
 bif y1.2 != 0 then
  some ((⟨0,[],0,(⟨[],[],false⟩:zD),[]⟩:zf),y1.2)
 else
  Zk (X:=Int×Str×Int×Str×Bool) (
    bif (y1.1.length:Int)==1 then
     ze (zw (⟨x⟩:zk)) fun y2=>
     bif (y2.2.v.length:Int)==0 then
      some (LX.ret ((⟨1,[],0,(⟨[],[],false⟩:zD),[]⟩:zf),0))
     else
      some (LX.out (0,[],0,[],false))
    else
     some (LX.out (0,[],0,[],false))) fun j3=>
  bif decide ((y1.1.length:Int)>64)then
   some ((⟨0,[],0,(⟨[],[],false⟩:zD),[]⟩:zf),4)
  else
   Zj (fun(s4:Int×(Int×Str×Int×Str×Bool)×List zf)=>
     bif decide (s4.1<(y1.1.length:Int))then
      ze (geti y1.1 s4.1) fun y5=>
      ze (Qj (⟨y5⟩:zk)) fun y6=>
      Zk (X:=(Int×Str×Int×Str×Bool)×List zf×zf) (
        bif !y6.1.2 then
         some (LX.out ((s4.2.1.1,s4.2.1.2.1,s4.2.1.2.2.1,s4.2.1.2.2.2.1,s4.2.1.2.2.2.2),s4.2.2,(⟨3,[],0,(⟨[],[],false⟩:zD),[(⟨1,[],0,(⟨[],[],false⟩:zD),[(⟨4,[97,108,108],0,(⟨[],[],false⟩:zD),[]⟩:zf)]⟩:zf)]⟩:zf)))
        else
         some (LX.out ((s4.2.1.1,s4.2.1.2.1,s4.2.1.2.2.1,s4.2.1.2.2.2.1,s4.2.1.2.2.2.2),s4.2.2,(⟨y6.1.1.kind,y6.1.1.name,y6.1.1.num,y6.1.1.decl,y6.1.1.list⟩:zf)))) fun j7=>
      need (zW j7.2.1.length 1 104)<|
      some (LO.again (w64 (s4.1+1),(j7.1.1,j7.1.2.1,j7.1.2.2.1,j7.1.2.2.2.1,j7.1.2.2.2.2),j7.2.1++[(⟨j7.2.2.kind,j7.2.2.name,j7.2.2.num,j7.2.2.decl,j7.2.2.list⟩:zf)]))
     else
      some (LO.out ((s4.2.1.1,s4.2.1.2.1,s4.2.1.2.2.1,s4.2.1.2.2.2.1,s4.2.1.2.2.2.2),s4.2.2)):Int×(Int×Str×Int×Str×Bool)×List zf->Option (LO (Int×(Int×Str×Int×Str×Bool)×List zf) ((Int×Str×Int×Str×Bool)×List zf) _)) (0,(2,[],0,[],false),[]) fun o8=>
   some ((⟨o8.1.1,o8.1.2.1,o8.1.2.2.1,(⟨o8.1.2.2.2.1,[],o8.1.2.2.2.2⟩:zD),o8.2⟩:zf),0)
def UB(x:Str×Str×Int×Int):Option Bool:=
 ze (Nu x.1) fun y1=>
 ze (yt y1) fun y2=>
 ze (Jm (⟨y2.1.kind,y2.1.name,y2.1.num,y2.1.decl,y2.1.list⟩:zf)) fun y3=>
 bif bif bif y2.2 != 0 then true else y3.2 != 0 then true else !(y3.1==x.2.1)then
  some false
 else
  Zj (fun(s4:Int)=>
    bif decide (s4<30)then
     ze (Au ((⟨y2.1.kind,y2.1.name,y2.1.num,y2.1.decl,y2.1.list⟩:zf),(⟨s4⟩:VEnv),[])) fun y5=>
     bif bif y5.2 != 0 then true else !(y5.1==(bif decide (s4>=x.2.2.1)then decide (s4<=x.2.2.2)else false))then
      some (LO.ret false)
     else
      some (LO.again (w64 (s4+1)))
    else
     some (LO.out ()):Int->Option (LO (Int) (Unit) _)) 0 fun o6=>
  some true
def Vt(x:List zb):Option (List zb):=
 Zj (fun(s1:List zb)=>
   ze (zA (decide ((s1.length:Int)>0)) (geti s1 0) (default:zb)) fun y2=>
   ze (zA (decide ((s1.length:Int)>0)) (ZZ ((⟨y2.token,y2.list⟩:zb),13)) (default:Bool)) fun y3=>
   bif bif decide ((s1.length:Int)>0)then y3 else false then
    need (decide (1<=(s1.length:Int)))<|
    some (LO.again (List.drop 1 s1))
   else
    some (LO.out s1):List zb->Option (LO (List zb) (List zb) _)) x fun o4=>
 some o4
def Mo(x:List zb):Option (List zb):=
 Zj (fun(s1:List zb)=>
   ze (zA (decide ((s1.length:Int)>0)) (geti s1 (w64 ((s1.length:Int) - 1))) (default:zb)) fun y2=>
   ze (zA (decide ((s1.length:Int)>0)) (ZZ ((⟨y2.token,y2.list⟩:zb),13)) (default:Bool)) fun y3=>
   bif bif decide ((s1.length:Int)>0)then y3 else false then
    need (decide (0<=w64 ((s1.length:Int) - 1))&&decide (w64 ((s1.length:Int) - 1)<=(s1.length:Int)))<|
    some (LO.again (List.take (w64 ((s1.length:Int) - 1)).toNat s1))
   else
    some (LO.out s1):List zb->Option (LO (List zb) (List zb) _)) x fun o4=>
 some o4
def KA(x:List zb):Option (zD×Bool):=
 ze (Vt x) fun y1=>
 ze (Mo y1) fun y2=>
 ze (zA (!((y2.length:Int)==0)) (geti y2 0) (default:zb)) fun y3=>
 ze (zA (!((y2.length:Int)==0)) (ZZ ((⟨y3.token,y3.list⟩:zb),1)) (default:Bool)) fun y4=>
 bif bif (y2.length:Int)==0 then true else !y4 then
  some ((⟨[],[],false⟩:zD),false)
 else
  ze (geti y2 0) fun y5=>
  Zk (X:=List zb×(Str×Bool)×(Str×Bool)) (
    ze (strings_HasPrefix (y5.token.text,[45,45])) fun y6=>
    bif !y6 then
     ze (ZL y5.token.text) fun y7=>
     some (LX.out (y2,([],false),(y7,false)))
    else
     some (LX.out (y2,([],false),(y5.token.text,false)))) fun j8=>
  need (decide (1<=(j8.1.length:Int)))<|
  ze (Vt (List.drop 1 j8.1)) fun y9=>
  ze (zA (!((y9.length:Int)==0)) (geti y9 0) (default:zb)) fun y10=>
  ze (zA (!((y9.length:Int)==0)) (ZZ ((⟨y10.token,y10.list⟩:zb),16)) (default:Bool)) fun y11=>
  bif bif (y9.length:Int)==0 then true else !y11 then
   some ((⟨[],[],false⟩:zD),false)
  else
   need (decide (1<=(y9.length:Int)))<|
   ze (Vt (List.drop 1 y9)) fun y12=>
   Zk (X:=List zb×(Str×Bool)×(Str×Bool)) (
     ze (zA (decide (w64 ((y12.length:Int) - 1)>0)) (geti y12 (w64 ((y12.length:Int) - 1))) (default:zb)) fun y13=>
     ze (zA (decide (w64 ((y12.length:Int) - 1)>0)) (ZZ ((⟨y13.token,y13.list⟩:zb),1)) (default:Bool)) fun y14=>
     ze (zA (bif decide (w64 ((y12.length:Int) - 1)>0)then y14 else false) (geti y12 (w64 ((y12.length:Int) - 1))) (default:zb)) fun y15=>
     ze (zA (bif decide (w64 ((y12.length:Int) - 1)>0)then y14 else false) (Zt (y15.token.text,[105,109,112,111,114,116,97,110,116])) (default:Bool)) fun y16=>
     bif bif bif decide (w64 ((y12.length:Int) - 1)>0)then y14 else false then y16 else false then
      need (decide (0<=w64 ((y12.length:Int) - 1))&&decide (w64 ((y12.length:Int) - 1)<=(y12.length:Int)))<|
      ze (Mo (List.take (w64 ((y12.length:Int) - 1)).toNat y12)) fun y17=>
      ze (zA (decide ((y17.length:Int)>0)) (geti y17 (w64 ((y17.length:Int) - 1))) (default:zb)) fun y18=>
      ze (zA (decide ((y17.length:Int)>0)) (Ho (⟨y18.token,y18.list⟩:zb)) (default:Bool)) fun y19=>
      bif bif decide ((y17.length:Int)>0)then y19 else false then
       need (decide (0<=w64 ((y17.length:Int) - 1))&&decide (w64 ((y17.length:Int) - 1)<=(y17.length:Int)))<|
       ze (Mo (List.take (w64 ((y17.length:Int) - 1)).toNat y17)) fun y20=>
       some (LX.out (y20,(j8.2.1.1,j8.2.1.2),(j8.2.2.1,true)))
      else
       some (LX.out (y12,(j8.2.1.1,j8.2.1.2),(j8.2.2.1,j8.2.2.2)))
     else
      some (LX.out (y12,(j8.2.1.1,j8.2.1.2),(j8.2.2.1,j8.2.2.2)))) fun j21=>
   ze (Vl j21.1) fun y22=>
   ze (zA (!(y22.2 != 0)) (Pm (⟨j21.2.2.1,y22.1,j21.2.2.2⟩:zD)) (default:Int)) fun y23=>
   bif bif y22.2 != 0 then true else y23 != 0 then
    some ((⟨[],[],false⟩:zD),false)
   else
    some ((⟨j21.2.2.1,y22.1,j21.2.2.2⟩:zD),true)
def LA(x:List zb):Option (zD×Bool×Int):=
 ze (qb x) fun y1=>
 bif y1 != 0 then
  some ((⟨[],[],false⟩:zD),false,y1)
 else
  ze (KA x) fun y2=>
  some (y2.1,y2.2,0)
def ZO(zH:zk->Option ((zf×Bool)×zk))(x:zk):Option ((zf×Bool)×zk):=
 ze (zQ x) fun y1=>
 bif y1==2 then
  ze (zT x) fun y2=>
  some (((⟨8,[],0,(⟨[],[],false⟩:zD),[]⟩:zf),true),y2.2)
 else
  bif y1==21 then
   ze (zT x) fun y3=>
   ze (LA y3.1.list) fun y4=>
   bif bif y4.2.2==0 then y4.2.1 else false then
    some (((⟨7,[],0,y4.1,[]⟩:zf),true),y3.2)
   else
    ze (zH (⟨y3.1.list⟩:zk)) fun y5=>
    bif y5.1.2 then
     some (((⟨y5.1.1.kind,y5.1.1.name,y5.1.1.num,y5.1.1.decl,y5.1.1.list⟩:zf),true),y3.2)
    else
     some (((⟨8,[],0,(⟨[],[],false⟩:zD),[]⟩:zf),true),y3.2)
  else
   some (((⟨8,[],0,(⟨[],[],false⟩:zD),[]⟩:zf),false),x)
def qi(zH:zk->Option ((zf×Bool)×zk))(x:zk):Option ((zf×Bool)×zk):=
 ze (zw x) fun y1=>
 ze (Zv ([[110,111,116]],y1.2)) fun y2=>
 bif !(y2.1==[])then
  ze (zw y2.2) fun y3=>
  ze (ZO zH y3.2) fun y4=>
  ze (zw y4.2) fun y5=>
  some (((⟨3,[],0,(⟨[],[],false⟩:zD),[(⟨y4.1.1.kind,y4.1.1.name,y4.1.1.num,y4.1.1.decl,y4.1.1.list⟩:zf)]⟩:zf),bif bif y4.1.2 then y3.1 else false then(y5.2.v.length:Int)==0 else false),y5.2)
 else
  ze (ZO zH y2.2) fun y6=>
  bif !y6.1.2 then
   some (((⟨y6.1.1.kind,y6.1.1.name,y6.1.1.num,y6.1.1.decl,y6.1.1.list⟩:zf),false),y6.2)
  else
   ze (zw y6.2) fun y7=>
   bif (y7.2.v.length:Int)==0 then
    some (((⟨y6.1.1.kind,y6.1.1.name,y6.1.1.num,y6.1.1.decl,y6.1.1.list⟩:zf),true),y7.2)
   else
    Zj (fun(s8:Bool×zk×(Int×Str×Int×Str×Bool)×(Int×Str×Int×Str×Bool)×List zf)=>
      bif decide ((s8.2.1.v.length:Int)>0)then
       ze (Zv ([[97,110,100],[111,114]],s8.2.1)) fun y9=>
       bif bif bif (bif y9.1==[97,110,100]then 1 else bif y9.1==[111,114]then 2 else(0:Int))==0 then true else !s8.1 then true else bif s8.2.2.2.1.1 != 0 then s8.2.2.2.1.1 != (bif y9.1==[97,110,100]then 1 else bif y9.1==[111,114]then 2 else(0:Int))else false then
        some (LO.ret (((⟨s8.2.2.2.1.1,s8.2.2.2.1.2.1,s8.2.2.2.1.2.2.1,(⟨s8.2.2.2.1.2.2.2.1,[],s8.2.2.2.1.2.2.2.2⟩:zD),s8.2.2.2.2⟩:zf),false),y9.2))
       else
        ze (zw y9.2) fun y10=>
        ze (ZO zH y10.2) fun y11=>
        bif bif !y10.1 then true else !y11.1.2 then
         some (LO.ret (((⟨bif y9.1==[97,110,100]then 1 else bif y9.1==[111,114]then 2 else(0:Int),s8.2.2.2.1.2.1,s8.2.2.2.1.2.2.1,(⟨s8.2.2.2.1.2.2.2.1,[],s8.2.2.2.1.2.2.2.2⟩:zD),s8.2.2.2.2⟩:zf),false),y11.2))
        else
         need (zW s8.2.2.2.2.length 1 104)<|
         ze (zw y11.2) fun y12=>
         some (LO.again (y12.1,y12.2,(s8.2.2.1.1,s8.2.2.1.2.1,s8.2.2.1.2.2.1,s8.2.2.1.2.2.2.1,s8.2.2.1.2.2.2.2),(bif y9.1==[97,110,100]then 1 else bif y9.1==[111,114]then 2 else(0:Int),s8.2.2.2.1.2.1,s8.2.2.2.1.2.2.1,s8.2.2.2.1.2.2.2.1,s8.2.2.2.1.2.2.2.2),s8.2.2.2.2++[(⟨y11.1.1.kind,y11.1.1.name,y11.1.1.num,y11.1.1.decl,y11.1.1.list⟩:zf)]))
      else
       some (LO.out (s8.2.1,(s8.2.2.1.1,s8.2.2.1.2.1,s8.2.2.1.2.2.1,s8.2.2.1.2.2.2.1,s8.2.2.1.2.2.2.2),(s8.2.2.2.1.1,s8.2.2.2.1.2.1,s8.2.2.2.1.2.2.1,s8.2.2.2.1.2.2.2.1,s8.2.2.2.1.2.2.2.2),s8.2.2.2.2)):Bool×zk×(Int×Str×Int×Str×Bool)×(Int×Str×Int×Str×Bool)×List zf->Option (LO (Bool×zk×(Int×Str×Int×Str×Bool)×(Int×Str×Int×Str×Bool)×List zf) (zk×(Int×Str×Int×Str×Bool)×(Int×Str×Int×Str×Bool)×List zf) _)) (y7.1,y7.2,(0,[],0,[],false),(0,[],0,[],false),[(⟨y6.1.1.kind,y6.1.1.name,y6.1.1.num,y6.1.1.decl,y6.1.1.list⟩:zf)]) fun o13=>
    some (((⟨o13.2.2.1.1,o13.2.2.1.2.1,o13.2.2.1.2.2.1,(⟨o13.2.2.1.2.2.2.1,[],o13.2.2.1.2.2.2.2⟩:zD),o13.2.2.2⟩:zf),true),o13.1)
def zH:zk->Option ((zf×Bool)×zk):=recE (qi)
def Iu(x:List zb):Option (zf×Int):=
 ze (qb x) fun y1=>
 bif y1 != 0 then
  some ((⟨0,[],0,(⟨[],[],false⟩:zD),[]⟩:zf),y1)
 else
  ze (zH (⟨x⟩:zk)) fun y2=>
  ze (zA (!(!y2.1.2)) (ZI (⟨y2.1.1.kind,y2.1.1.name,y2.1.1.num,y2.1.1.decl,y2.1.1.list⟩:zf)) (default:Int)) fun y3=>
  bif bif !y2.1.2 then true else y3 != 0 then
   some ((⟨0,[],0,(⟨[],[],false⟩:zD),[]⟩:zf),12)
  else
   some ((⟨y2.1.1.kind,y2.1.1.name,y2.1.1.num,y2.1.1.decl,y2.1.1.list⟩:zf),0)
def MC(x:Int×List Bool):Option (Bool×Int):=
 need (decide (0<=w64 (w64 (x.1+1) - 1))&&decide (w64 (w64 (x.1+1) - 1)<(x.2.length:Int)))<|
 ze (x.2[(w64 (w64 (x.1+1) - 1)).toNat]?) fun y1=>
 some (y1,w64 (x.1+1))
def LC(Qh:(zf×Int)×Int×List Bool->Option (Bool×Int))(x:(zf×Int)×Int×List Bool):Option (Bool×Int):=
 bif x.1.1.kind==4 then
  some (bif x.1.1.name==[97,108,108]then true else x.1.1.name==[115,99,114,101,101,110],x.2.1)
 else
  bif x.1.1.kind==5 then
   some (decide (x.1.2>=x.1.1.num),x.2.1)
  else
   bif x.1.1.kind==6 then
    some (decide (x.1.2<=x.1.1.num),x.2.1)
   else
    bif x.1.1.kind==7 then
     ze (MC (x.2.1,x.2.2)) fun y1=>
     some (y1.1,y1.2)
    else
     bif x.1.1.kind==8 then
      some (false,x.2.1)
     else
      Zj (fun(s2:(Bool×Bool×Int)×Int)=>
        bif decide (s2.1.2.2<(x.1.1.list.length:Int))then
         ze (geti x.1.1.list s2.1.2.2) fun y3=>
         ze (Qh (((⟨y3.kind,y3.name,y3.num,y3.decl,y3.list⟩:zf),x.1.2),s2.2,x.2.2)) fun y4=>
         some (LO.again ((bif s2.1.1 then y4.1 else false,bif s2.1.2.1 then true else y4.1,w64 (s2.1.2.2+1)),y4.2))
        else
         some (LO.out ((s2.1.1,s2.1.2.1),s2.2)):(Bool×Bool×Int)×Int->Option (LO ((Bool×Bool×Int)×Int) ((Bool×Bool)×Int) _)) ((true,false,0),x.2.1) fun o5=>
      bif x.1.1.kind==1 then
       some (o5.1.1,o5.2)
      else
       bif x.1.1.kind==2 then
        some (o5.1.2,o5.2)
       else
        some (!o5.1.2,o5.2)
def Qh:(zf×Int)×Int×List Bool->Option (Bool×Int):=recE (LC)
def Fy(x:(zf×VEnv)×List Bool):Option (Bool×Int):=
 ze (Oo (⟨x.1.1.kind,x.1.1.name,x.1.1.num,x.1.1.decl,x.1.1.list⟩:zf)) fun y1=>
 bif y1 != 0 then
  some (false,y1)
 else
  ze (zA (!(bif decide (x.1.2.width<0)then true else decide (x.1.2.width>1000000000))) (qR (⟨x.1.1.kind,x.1.1.name,x.1.1.num,x.1.1.decl,x.1.1.list⟩:zf)) (default:List zD)) fun y2=>
  bif bif bif decide (x.1.2.width<0)then true else decide (x.1.2.width>1000000000)then true else(x.2.length:Int) != (y2.length:Int)then
   some (false,2)
  else
   ze (Qh (((⟨x.1.1.kind,x.1.1.name,x.1.1.num,x.1.1.decl,x.1.1.list⟩:zf),w64 (1000*x.1.2.width)),0,x.2)) fun y3=>
   some (y3.1,0)
def KC(x:Str×Str×Bool×Bool):Option Bool:=
 ze (Nu x.1) fun y1=>
 ze (Iu y1) fun y2=>
 ze (Jm (⟨y2.1.kind,y2.1.name,y2.1.num,y2.1.decl,y2.1.list⟩:zf)) fun y3=>
 ze (Ex (⟨y2.1.kind,y2.1.name,y2.1.num,y2.1.decl,y2.1.list⟩:zf)) fun y4=>
 bif bif bif bif y2.2 != 0 then true else y3.2 != 0 then true else y4.2 != 0 then true else !(y3.1==x.2.1)then
  some false
 else
  need (decide (0<=(y4.1.length:Int))&&decide ((y4.1.length:Int)<=(y4.1.length:Int))&&decide ((y4.1.length:Int)*1<=140737488355328)&&decide ((y4.1.length:Int)<=9223372036854775807))<|
  ze (Fy (((⟨y2.1.kind,y2.1.name,y2.1.num,y2.1.decl,y2.1.list⟩:zf),(⟨0⟩:VEnv)),List.replicate (Int.toNat (y4.1.length:Int)) false)) fun y5=>
  Zj (fun(s6:Int×List Bool)=>
    bif decide (s6.1<(s6.2.length:Int))then
     need (decide (0<=s6.1)&&decide (s6.1<(s6.2.length:Int)))<|
     ze s6.2[s6.1.toNat]? fun y7=>
     some (LO.again (w64 (s6.1+1),List.set s6.2 s6.1.toNat true))
    else
     some (LO.out s6.2):Int×List Bool->Option (LO (Int×List Bool) (List Bool) _)) (0,List.replicate (Int.toNat (y4.1.length:Int)) false) fun o8=>
  ze (Fy (((⟨y2.1.kind,y2.1.name,y2.1.num,y2.1.decl,y2.1.list⟩:zf),(⟨0⟩:VEnv)),o8)) fun y9=>
  some (bif bif bif y5.2==0 then y9.2==0 else false then y5.1==x.2.2.2 else false then y9.1==x.2.2.1 else false)
def rq(x:Unit):Option Bool:=
 ze (UB ([83,99,114,101,101,110,32,65,78,68,32,40,109,105,110,45,119,105,100,116,104,58,49,48,46,53,112,120,41,44,32,40,102,111,111,41],[115,99,114,101,101,110,32,97,110,100,32,40,109,105,110,45,119,105,100,116,104,58,32,49,48,46,53,112,120,41,44,32,110,111,116,32,97,108,108],11,99)) fun y1=>
 ze (zA y1 (KC ([110,111,116,32,40,40,97,58,98,41,32,111,114,32,40,99,41,41],[110,111,116,32,40,40,97,58,32,98,41,32,111,114,32,40,117,110,107,110,111,119,110,41,41],false,true)) (default:Bool)) fun y2=>
 some (bif y1 then y2 else false)
def Bu(Qn:zf×zf->Option Bool)(x:zf×zf):Option Bool:=
 ze (zA (!(bif bif x.1.kind != x.2.kind then true else !(x.1.name==x.2.name)then true else x.1.num != x.2.num)) (Eu (x.1.decl,x.2.decl)) (default:Bool)) fun y1=>
 bif bif bif bif bif x.1.kind != x.2.kind then true else !(x.1.name==x.2.name)then true else x.1.num != x.2.num then true else !y1 then true else(x.1.list.length:Int) != (x.2.list.length:Int)then
  some false
 else
  Zj (fun(s2:Int)=>
    bif decide (s2<(x.1.list.length:Int))then
     ze (geti x.1.list s2) fun y3=>
     ze (geti x.2.list s2) fun y4=>
     ze (Qn ((⟨y3.kind,y3.name,y3.num,y3.decl,y3.list⟩:zf),(⟨y4.kind,y4.name,y4.num,y4.decl,y4.list⟩:zf))) fun y5=>
     bif !y5 then
      some (LO.ret false)
     else
      some (LO.again (w64 (s2+1)))
    else
     some (LO.out ()):Int->Option (LO (Int) (Unit) _)) 0 fun o6=>
  some true
def Qn:zf×zf->Option Bool:=recE (Bu)
def xG(x:zf×zf):Option Bool:=
 ze (Tx (⟨x.1.kind,x.1.name,x.1.num,x.1.decl,x.1.list⟩:zf)) fun y1=>
 ze (zA (!y1) (Tx (⟨x.2.kind,x.2.name,x.2.num,x.2.decl,x.2.list⟩:zf)) (default:Bool)) fun y2=>
 bif bif y1 then true else y2 then
  ze (rq ()) fun y3=>
  some y3
 else
  ze (Jm (⟨x.1.kind,x.1.name,x.1.num,x.1.decl,x.1.list⟩:zf)) fun y4=>
  ze (Jm (⟨x.2.kind,x.2.name,x.2.num,x.2.decl,x.2.list⟩:zf)) fun y5=>
  bif bif y4.2 != 0 then true else y5.2 != 0 then
   ze (zA (bif bif bif y4.2==0 then true else y4.2==8 then true else y4.2==28 then bif bif y5.2==0 then true else y5.2==8 then true else y5.2==28 else false) (rq ()) (default:Bool)) fun y6=>
   some (bif bif bif bif y4.2==0 then true else y4.2==8 then true else y4.2==28 then bif bif y5.2==0 then true else y5.2==8 then true else y5.2==28 else false then y6 else false)
  else
   ze (QT y4.1) fun y7=>
   ze (parseF y7.1) fun y8=>
   bif bif y7.2 != 0 then true else y8.2 != 0 then
    ze (zA (bif y7.2==4 then true else y8.2==4) (rq ()) (default:Bool)) fun y9=>
    some (bif bif y7.2==4 then true else y8.2==4 then y9 else false)
   else
    ze (Iu y8.1) fun y10=>
    Zk (X:=Int×zf) (
      ze (qY (⟨x.1.kind,x.1.name,x.1.num,x.1.decl,x.1.list⟩:zf)) fun y11=>
      bif y11==0 then
       ze (yt y8.1) fun y12=>
       some (LX.out (y12.2,(⟨y12.1.kind,y12.1.name,y12.1.num,y12.1.decl,y12.1.list⟩:zf)))
      else
       some (LX.out (y10.2,(⟨y10.1.kind,y10.1.name,y10.1.num,y10.1.decl,y10.1.list⟩:zf)))) fun j13=>
    ze (qY (⟨x.1.kind,x.1.name,x.1.num,x.1.decl,x.1.list⟩:zf)) fun y14=>
    ze (qY (⟨x.2.kind,x.2.name,x.2.num,x.2.decl,x.2.list⟩:zf)) fun y15=>
    ze (zA (j13.1==0) (Qn ((⟨j13.2.kind,j13.2.name,j13.2.num,j13.2.decl,j13.2.list⟩:zf),(⟨x.1.kind,x.1.name,x.1.num,x.1.decl,x.1.list⟩:zf))) (default:Bool)) fun y16=>
    ze (zA (!(!((y14==0)==(y15==0)))&&(bif j13.1==0 then y16 else false)) (Qn ((⟨x.1.kind,x.1.name,x.1.num,x.1.decl,x.1.list⟩:zf),(⟨x.2.kind,x.2.name,x.2.num,x.2.decl,x.2.list⟩:zf))) (default:Bool)) fun y17=>
    ze (zA (bif bif j13.1==0 then y16 else false then bif !((y14==0)==(y15==0))then true else(y4.1==y5.1)==y17 else false) (rq ()) (default:Bool)) fun y18=>
    some (bif bif bif j13.1==0 then y16 else false then bif !((y14==0)==(y15==0))then true else(y4.1==y5.1)==y17 else false then y18 else false)
end Go.Lv.VT
end
