/- Texts. -/
import Derived.Test.YtkecjfeffabgiaaGreatDoorTy
import Derived.Test.YtkecjfeffabgiaaGreatDoorLf
noncomputable section
set_option linter.unusedSimpArgs false
set_option linter.unusedVariables false
namespace Go.Lv.VT
set_option maxRecDepth 100000
def Qo(x:Int):Option Int:=
 bif x==2 then
  some 22
 else
  zR (X:=Bool) (
    bif x==19 then
     some (LX.out (x==19))
    else
     bif x==21 then
      some (LX.out (x==21))
     else
      some (LX.out (x==23))) fun j1=>
  bif j1 then
   some (wu8 (x+1))
  else
   some 0
def jk(Z6:List zg×Int->Option zD)(x:List zg×Int):Option zD:=
 Zt (fun(s1:Int×zD)=>
   bif decide (s1.1<(x.1.length:Int))then
    zR (X:=Int×zD) (
      zb (geti x.1 s1.1) fun y2=>
      zb (Qo y2.token.kind) fun y3=>
      zR (X:=zD) (
        bif bif bif x.2 != 0 then y2.token.kind==x.2 else false then true else bif y3==0 then decide ((y2.list.length:Int)>0)else false then
         some (LX.out (⟨s1.2.depth,w64 (s1.2.tokens+1),true⟩:zD))
        else
         some (LX.out (⟨s1.2.depth,w64 (s1.2.tokens+1),s1.2.bad⟩:zD))) fun j4=>
      bif y3==0 then
       some (LX.out (s1.1,j4))
      else
       zb (Z6 (y2.list,y3)) fun y5=>
       some (LX.out (s1.1,(⟨if w64 (y5.depth+1)>j4.depth then w64 (y5.depth+1)else j4.depth,w64 (w64 (j4.tokens+y5.tokens)+1),bif j4.bad then true else y5.bad⟩:zD)))) fun j6=>
    some (LO.again (w64 (j6.1+1),j6.2))
   else
    some (LO.out s1.2):Int×zD->Option (LO (Int×zD) (zD) _)) (0,(⟨0,0,false⟩:zD)) fun o7=>
 some o7
def Z6:List zg×Int->Option zD:=recE (jk)
def ZA(x:List zg):Option Int:=
 zb (Z6 (x,0)) fun y1=>
 bif decide (y1.depth>16)then
  some 20
 else
  bif decide (y1.tokens>1500)then
   some 4
  else
   bif y1.bad then
    some 8
   else
    some 0
def Mk(x:List zg):Option (Int×Int):=
 zb (ZA x) fun y1=>
 bif y1 != 0 then
  some (0,y1)
 else
  zb (Z6 (x,0)) fun y2=>
  some (y2.depth,0)
def uk(Zw:List zg×List zk->Option (List zk))(x:List zg×List zk):Option (List zk):=
 Zt (fun(s1:Int×List zk)=>
   bif decide (s1.1<(x.1.length:Int))then
    zR (X:=Int×List zk) (
      zb (geti x.1 s1.1) fun y2=>
      need (zO s1.2.length 1 56)<|
      zb (Qo y2.token.kind) fun y3=>
      bif y3 != 0 then
       zb (Zw (y2.list,s1.2++[y2.token])) fun y4=>
       need (zO y4.length 1 56)<|
       some (LX.out (s1.1,y4++[(⟨y3,[],0,[],false⟩:zk)]))
      else
       some (LX.out (s1.1,s1.2++[y2.token]))) fun j5=>
    some (LO.again (w64 (j5.1+1),j5.2))
   else
    some (LO.out s1.2):Int×List zk->Option (LO (Int×List zk) (List zk) _)) (0,x.2) fun o6=>
 some o6
def Zw:List zg×List zk->Option (List zk):=recE (uk)
def Q9(x:List zg):Option (List zk):=
 Zt (fun(s1:Int×List zk)=>
   bif decide (s1.1<(x.length:Int))then
    zR (X:=Int×List zk) (
      zb (geti x s1.1) fun y2=>
      need (zO s1.2.length 1 56)<|
      zb (Qo y2.token.kind) fun y3=>
      bif y3 != 0 then
       zb (Zw (y2.list,s1.2++[y2.token])) fun y4=>
       need (zO y4.length 1 56)<|
       some (LX.out (s1.1,y4++[(⟨y3,[],0,[],false⟩:zk)]))
      else
       some (LX.out (s1.1,s1.2++[y2.token]))) fun j5=>
    some (LO.again (w64 (j5.1+1),j5.2))
   else
    some (LO.out s1.2):Int×List zk->Option (LO (Int×List zk) (List zk) _)) (0,[]) fun o6=>
 some o6
def Tj(x:List zg):Option (List zk×Int):=
 zb (ZA x) fun y1=>
 bif y1 != 0 then
  some ([],y1)
 else
  zb (Q9 x) fun y2=>
  some (y2,0)
def strings_IndexByte(x:Str×Int):Option Int:=
 zb (Jj (x.1,x.2)) fun y1=>
 some y1
def stringslite_HasPrefix(x:Str×Str):Option Bool:=
 need (decide (0<=(x.2.length:Int))&&decide ((x.2.length:Int)<=(x.1.length:Int))|| !(decide ((x.1.length:Int)>=(x.2.length:Int))))<|
 some (bif decide ((x.1.length:Int)>=(x.2.length:Int))then List.take x.2.length x.1==x.2 else false)
def strings_HasPrefix(x:Str×Str):Option Bool:=
 zb (stringslite_HasPrefix (x.1,x.2)) fun y1=>
 some y1
def ZJ(x:Str):Option Str:=
 need (decide (x.length<=maxLen))<|
 Zt (fun(s1:Int×List UInt8)=>
   bif decide (s1.1<(x.length:Int))then
    zR (X:=Int×List UInt8) (
      need (decide (0<=s1.1)&&decide (s1.1<(s1.2.length:Int)))<|
      zb s1.2[s1.1.toNat]? fun y2=>
      bif bif decide (65<=(y2.toNat:Int))then decide ((y2.toNat:Int)<=90)else false then
       need (decide (0<=s1.1)&&decide (s1.1<(s1.2.length:Int)))<|
       zb s1.2[s1.1.toNat]? fun y3=>
       need (decide (0<=s1.1)&&decide (s1.1<(s1.2.length:Int)))<|
       zb s1.2[s1.1.toNat]? fun y4=>
       zb (qA (ibOr IntKind.u8 (y3.toNat:Int) 32)) fun y5=>
       some (LX.out (s1.1,List.set s1.2 s1.1.toNat y5))
      else
       some (LX.out (s1.1,s1.2))) fun j6=>
    some (LO.again (w64 (j6.1+1),j6.2))
   else
    some (LO.out s1.2):Int×List UInt8->Option (LO (Int×List UInt8) (List UInt8) _)) (0,x) fun o7=>
 some o7
def Ik(x:Str):Option Bool:=
 zb (zt (!(bif x==[]then true else decide ((x.length:Int)>64))) (strings_IndexByte (x,0)) (default:Int)) fun y1=>
 bif bif bif x==[]then true else decide ((x.length:Int)>64)then true else decide (y1>=0)then
  some false
 else
  zb (strings_HasPrefix (x,[45,45])) fun y2=>
  bif y2 then
   some (!(x==[45,45]))
  else
   zb (ZJ x) fun y3=>
   some (x==y3)
def stringslite_TrimPrefix(x:Str×Str):Option Str:=
 zb (stringslite_HasPrefix (x.1,x.2)) fun y1=>
 bif y1 then
  need (decide (0<=(x.2.length:Int))&&decide ((x.2.length:Int)<=(x.1.length:Int)))<|
  some (List.drop x.2.length x.1)
 else
  some x.1
def strings_TrimPrefix(x:Str×Str):Option Str:=
 zb (stringslite_TrimPrefix (x.1,x.2)) fun y1=>
 some y1
def qx(x:Int):Option Bool:=
 some (bif decide (48<=x)then decide (x<=57)else false)
def Ui(x:Str):Option Bool:=
 zb (strings_TrimPrefix (x,[45])) fun y1=>
 zb (zt (!(y1==[])) (geti y1 0) 0) fun y2=>
 zb (zt (!(y1==[])) (qx (y2.toNat:Int)) (default:Bool)) fun y3=>
 some (bif !(y1==[])then y3 else false)
def Sk(x:Int):Option Bool:=
 some (bif bif decide (97<=ibOr IntKind.u8 x 32)then decide (ibOr IntKind.u8 x 32<=122)else false then decide (x<128)else false)
def Uf(x:Int):Option Bool:=
 zb (Sk x) fun y1=>
 zb (zt (!y1) (qx x) (default:Bool)) fun y2=>
 some (bif bif bif bif y1 then true else y2 then true else x==95 then true else x==45 then true else decide (x>=128))
def strings_Contains(x:Str×Str):Option Bool:=
 zb (Og (x.1,x.2)) fun y1=>
 some (decide (y1>=0))
def bn(x:zk):Option Bool:=
 need (QZ x.text.length x.unit.length)<|
 zb (strings_IndexByte (x.text++x.unit,0)) fun y1=>
 zR (X:=Bool×Bool×Bool×Bool×Bool) (
   zR (X:=Bool×Bool×Bool×Bool×Bool×Bool) (
     bif x.kind==1 then
      some (LX.out (false,false,false,false,decide (y1<0),x.kind==1))
     else
      bif x.kind==2 then
       some (LX.out (false,false,false,false,decide (y1<0),x.kind==2))
      else
       some (LX.out (false,false,false,false,decide (y1<0),x.kind==3))) fun j2=>
   bif j2.2.2.2.2.2 then
    some (LX.out (true,j2.2.1,j2.2.2.1,j2.2.2.2.1,bif j2.2.2.2.2.1 then !(x.text==[])else false))
   else
    bif x.kind==4 then
     zb (zt (!x.flag&&(bif j2.2.2.2.2.1 then !(x.text==[])else false)) (Ui x.text) (default:Bool)) fun y3=>
     zb (zt (y3&&(!x.flag&&(bif j2.2.2.2.2.1 then !(x.text==[])else false))) (strings_HasPrefix (x.text,[45,45])) (default:Bool)) fun y4=>
     some (LX.out (true,j2.2.1,j2.2.2.1,true,bif bif j2.2.2.2.2.1 then !(x.text==[])else false then bif bif x.flag then true else bif y3 then !y4 else false then true else x.text==[45]else false))
    else
     zR (X:=Bool×Bool×Bool×Bool×Bool×Bool) (
       bif x.kind==5 then
        some (LX.out (j2.1,j2.2.1,j2.2.2.1,j2.2.2.2.1,j2.2.2.2.2.1,x.kind==5))
       else
        some (LX.out (j2.1,j2.2.1,j2.2.2.1,j2.2.2.2.1,j2.2.2.2.2.1,x.kind==7))) fun j5=>
     bif j5.2.2.2.2.2 then
      some (LX.out (true,j5.2.1,j5.2.2.1,j5.2.2.2.1,j5.2.2.2.2.1))
     else
      bif x.kind==9 then
       zb (zt (bif j5.2.2.2.2.1 then(x.text.length:Int)==1 else false) (geti x.text 0) 0) fun y6=>
       zb (zt (bif j5.2.2.2.2.1 then(x.text.length:Int)==1 else false) (Uf (y6.toNat:Int)) (default:Bool)) fun y7=>
       zb (zt (bif bif bif j5.2.2.2.2.1 then(x.text.length:Int)==1 else false then !y7 else false then true else x.text==[45]) (strings_Contains ([32,9,10,12,13,34,39,58,59,44,91,93,40,41,123,125],x.text)) (default:Bool)) fun y8=>
       some (LX.out (true,j5.2.1,j5.2.2.1,j5.2.2.2.1,bif bif bif bif j5.2.2.2.2.1 then(x.text.length:Int)==1 else false then !y7 else false then true else x.text==[45]then !y8 else false))
      else
       zR (X:=Bool×Bool×Bool×Bool×Bool) (
         bif x.kind==10 then
          some (LX.out (j5.2.1,j5.2.2.1,j5.2.2.2.1,j5.2.2.2.2.1,x.kind==10))
         else
          bif x.kind==11 then
           some (LX.out (j5.2.1,j5.2.2.1,j5.2.2.2.1,j5.2.2.2.2.1,x.kind==11))
          else
           some (LX.out (j5.2.1,j5.2.2.1,j5.2.2.2.1,j5.2.2.2.2.1,x.kind==12))) fun j9=>
       bif j9.2.2.2.2 then
        some (LX.out (j5.1,x.kind==12,true,x.kind != 11,bif bif bif bif j9.2.2.2.1 then decide (x.num>=(-1000000000000))else false then decide (x.num<=1000000000000)else false then bif !x.flag then true else Int.tmod x.num 1000==0 else false then bif !(x.kind==12)then true else !(x.unit==[])else false))
       else
        some (LX.out (j5.1,j9.1,j9.2.1,j9.2.2.1,bif decide (x.kind>=13)then decide (x.kind<=24)else false))) fun j10=>
 some (bif bif bif bif j10.2.2.2.2 then bif j10.1 then true else x.text==[]else false then bif j10.2.1 then true else x.unit==[]else false then bif j10.2.2.1 then true else x.num==0 else false then bif j10.2.2.2.1 then true else !x.flag else false)
def QF(x:(Int×Int)×List zk):Option Bool:=
 zb (zt (decide (x.1.1<(x.2.length:Int))) (geti x.2 x.1.1) (default:zk)) fun y1=>
 some (bif decide (x.1.1<(x.2.length:Int))then y1.kind==x.1.2 else false)
def ZW(x:Str×Str):Option Bool:=
 zb (ZJ x.1) fun y1=>
 zb (ZJ x.2) fun y2=>
 some (y1==y2)
def og(x:List zk):Option Int:=
 zb (geti x 0) fun y1=>
 bif bif y1.kind==9 then y1.text==[92]else false then
  zb (QF ((1,13),x)) fun y2=>
  bif !y2 then
   some 0
  else
   some 2
 else
  zb (zt (y1.kind==2) (ZW (y1.text,[117,114,108])) (default:Bool)) fun y3=>
  bif bif y1.kind==2 then y3 else false then
   zR (X:=Int) (
     zb (QF ((1,13),x)) fun y4=>
     bif y4 then
      some (LX.out 2)
     else
      some (LX.out 1)) fun j5=>
   zb (QF ((j5,5),x)) fun y6=>
   bif !y6 then
    some 0
   else
    some (w64 (j5+1))
  else
   some 1
def pg(x:List zk):Option Int:=
 bif decide ((x.length:Int)>1500)then
  some 4
 else
  Zt (fun(s1:Int)=>
    bif decide (s1<(x.length:Int))then
     zb (geti x s1) fun y2=>
     zb (bn y2) fun y3=>
     need (decide (0<=s1)&&decide (s1<=(x.length:Int))|| !(!(!y3)))<|
     zb (zt (!(!y3)) (og (List.drop s1.toNat x)) (default:Int)) fun y4=>
     bif bif !y3 then true else y4==0 then
      some (LO.ret 8)
     else
      some (LO.again (w64 (s1+1)))
    else
     some (LO.out ()):Int->Option (LO (Int) (Unit) _)) 0 fun o5=>
  some 0
def ZG(x:zg×Int):Option Bool:=
 some (x.1.token.kind==x.2)
def Ul(zo:List zg->Option Bool)(x:zg):Option Bool:=
 zb (ZG ((⟨x.token,x.list⟩:zg),20)) fun y1=>
 zb (zt (!y1) (ZG ((⟨x.token,x.list⟩:zg),22)) (default:Bool)) fun y2=>
 zb (zt (!(bif y1 then true else y2)) (ZG ((⟨x.token,x.list⟩:zg),24)) (default:Bool)) fun y3=>
 zb (zt (!(bif bif y1 then true else y2 then true else y3)) (zo x.list) (default:Bool)) fun y4=>
 some (bif bif bif y1 then true else y2 then true else y3 then true else y4)
def ZR(zo:List zg->Option Bool)(x:List zg):Option Int:=
 Zt (fun(s1:Int)=>
   bif decide (s1<(x.length:Int))then
    zb (geti x s1) fun y2=>
    zb (Ul zo (⟨y2.token,y2.list⟩:zg)) fun y3=>
    bif y3 then
     some (LO.ret s1)
    else
     some (LO.again (w64 (s1+1)))
   else
    some (LO.out ()):Int->Option (LO (Int) (Unit) _)) 0 fun o4=>
 some (-1)
def Zq(zo:List zg->Option Bool)(x:List zg):Option Bool:=
 zb (ZR zo x) fun y1=>
 some (decide (y1>=0))
def Sl(zo:List zg->Option Bool)(x:List zg):Option Bool:=
 zb (Zq zo x) fun y1=>
 some y1
def zo:List zg->Option Bool:=recE (Sl)
def Ai(x:zg):Option Bool:=
 zb (ZG ((⟨x.token,x.list⟩:zg),9)) fun y1=>
 some (bif y1 then x.token.text==[33]else false)
def Po(x:zg):Option Bool:=
 zb (ZG ((⟨x.token,x.list⟩:zg),17)) fun y1=>
 zb (zt (!y1) (Ai (⟨x.token,x.list⟩:zg)) (default:Bool)) fun y2=>
 some (bif y1 then true else y2)
def ZC(x:List zg):Option Int:=
 Zt (fun(s1:Int)=>
   bif decide (s1<(x.length:Int))then
    zb (geti x s1) fun y2=>
    zb (Po (⟨y2.token,y2.list⟩:zg)) fun y3=>
    bif y3 then
     some (LO.ret s1)
    else
     some (LO.again (w64 (s1+1)))
   else
    some (LO.out ()):Int->Option (LO (Int) (Unit) _)) 0 fun o4=>
 some (-1)
def Zi(x:List zg):Option Bool:=
 zb (ZC x) fun y1=>
 some (decide (y1>=0))
def Vf(x:zF):Option Int:=
 zb (Tj x.value) fun y1=>
 zb (Ik x.name) fun y2=>
 zb (zt (!(bif !y2 then true else y1.2 != 0)) (pg y1.1) (default:Int)) fun y3=>
 zb (zt (!(bif bif !y2 then true else y1.2 != 0 then true else y3 != 0)) (zo x.value) (default:Bool)) fun y4=>
 bif bif bif bif !y2 then true else y1.2 != 0 then true else y3 != 0 then true else y4 then
  some 8
 else
  zb (Zi x.value) fun y5=>
  bif y5 then
   some 8
  else
   zb (zt ((x.value.length:Int)==0) (strings_HasPrefix (x.name,[45,45])) (default:Bool)) fun y6=>
   zb (zt (decide ((x.value.length:Int)>0)&& !(bif (x.value.length:Int)==0 then !y6 else false)) (geti x.value 0) (default:zg)) fun y7=>
   zb (zt (decide ((x.value.length:Int)>0)&& !(bif (x.value.length:Int)==0 then !y6 else false)) (ZG ((⟨y7.token,y7.list⟩:zg),13)) (default:Bool)) fun y8=>
   zb (zt (!y8&&(decide ((x.value.length:Int)>0)&& !(bif (x.value.length:Int)==0 then !y6 else false))) (geti x.value (w64 ((x.value.length:Int) - 1))) (default:zg)) fun y9=>
   zb (zt (!y8&&(decide ((x.value.length:Int)>0)&& !(bif (x.value.length:Int)==0 then !y6 else false))) (ZG ((⟨y9.token,y9.list⟩:zg),13)) (default:Bool)) fun y10=>
   bif bif bif (x.value.length:Int)==0 then !y6 else false then true else bif decide ((x.value.length:Int)>0)then bif y8 then true else y10 else false then
    some 8
   else
    some 0
def Z4(x:zh):Option Bool:=
 some (bif bif bif bif x.name==[]then x.num==0 else false then x.decl.name==[]else false then(x.decl.value.length:Int)==0 else false then !x.decl.important else false)
def kg(x:zh):Option Bool:=
 some (bif x.kind==7 then true else x.kind==8)
def Xk(qD:zh×Int->Option ((Int×Bool)×Int))(x:zh×Int):Option ((Int×Bool)×Int):=
 bif decide (w64 (x.2+1)>1500)then
  some ((0,false),w64 (x.2+1))
 else
  bif x.1.kind==7 then
   zb (Mk x.1.decl.value) fun y1=>
   zb (zt (bif bif bif (x.1.list.length:Int)==0 then x.1.name==[]else false then x.1.num==0 else false then y1.2==0 else false) (Vf x.1.decl) (default:Int)) fun y2=>
   some ((w64 (y1.1+1),bif bif bif bif (x.1.list.length:Int)==0 then x.1.name==[]else false then x.1.num==0 else false then y1.2==0 else false then y2==0 else false),w64 (x.2+1))
  else
   bif x.1.kind==8 then
    zb (zt ((x.1.list.length:Int)==0) (Z4 (⟨x.1.kind,x.1.name,x.1.num,x.1.decl,x.1.list⟩:zh)) (default:Bool)) fun y3=>
    some ((1,bif (x.1.list.length:Int)==0 then y3 else false),w64 (x.2+1))
   else
    zR (X:=Bool) (
      bif x.1.kind==3 then
       some (LX.out (x.1.kind==3))
      else
       bif x.1.kind==1 then
        some (LX.out (x.1.kind==1))
       else
        some (LX.out (x.1.kind==2))) fun j4=>
    bif j4 then
     zb (Z4 (⟨x.1.kind,x.1.name,x.1.num,x.1.decl,x.1.list⟩:zh)) fun y5=>
     bif bif bif !y5 then true else bif x.1.kind==3 then(x.1.list.length:Int) != 1 else false then true else bif x.1.kind != 3 then decide ((x.1.list.length:Int)<2)else false then
      some ((0,false),w64 (x.2+1))
     else
      Zt (fun(s6:(Int×Int)×Int)=>
        bif decide (s6.1.2<(x.1.list.length:Int))then
         zb (geti x.1.list s6.1.2) fun y7=>
         zb (qD ((⟨y7.kind,y7.name,y7.num,y7.decl,y7.list⟩:zh),s6.2)) fun y8=>
         bif !y8.1.2 then
          some (LO.ret ((0,false),y8.2))
         else
          zR (X:=Int×Int) (
            zb (kg (⟨y7.kind,y7.name,y7.num,y7.decl,y7.list⟩:zh)) fun y9=>
            bif !y9 then
             some (LX.out (s6.1.1,w64 (y8.1.1+1)))
            else
             some (LX.out (s6.1.1,y8.1.1))) fun j10=>
          some (LO.again ((if j10.2>j10.1 then j10.2 else j10.1,w64 (s6.1.2+1)),y8.2))
        else
         some (LO.out (s6.1.1,s6.2)):(Int×Int)×Int->Option (LO ((Int×Int)×Int) (Int×Int) _)) ((0,0),w64 (x.2+1)) fun o11=>
      some ((o11.1,true),o11.2)
    else
     some ((0,false),w64 (x.2+1))
def qD:zh×Int->Option ((Int×Bool)×Int):=recE (Xk)
def zW(x:zh):Option Int:=
 zb (qD ((⟨x.kind,x.name,x.num,x.decl,x.list⟩:zh),0)) fun y1=>
 bif bif !y1.1.2 then true else decide (y1.1.1>16)then
  some 8
 else
  some 0
def Oi(x:Int×List zg):Option Bool:=
 zb (geti x.2 x.1) fun y1=>
 some (y1.token.kind==13)
def QY(x:List zg):Option (List zg):=
 bif x.isEmpty then
  both (
    some []) (
    need (zO 0 x.length 80)<|
    some x)
 else
  need (zO 0 x.length 80)<|
  some x
def ik(ZQ:List zg->Option (List zg))(x:List zg):Option (List zg):=
 zb (QY x) fun y1=>
 Zt (fun(s2:Int×List zg)=>
   bif decide (s2.1<(y1.length:Int))then
    need (decide (0<=s2.1)&&decide (s2.1<(s2.2.length:Int)))<|
    zb s2.2[s2.1.toNat]? fun y3=>
    zb (ZQ y3.list) fun y4=>
    need (decide (0<=s2.1)&&decide (s2.1<(s2.2.length:Int)))<|
    zb s2.2[s2.1.toNat]? fun y5=>
    some (LO.again (w64 (s2.1+1),List.set s2.2 s2.1.toNat (⟨y5.token,y4⟩:zg)))
   else
    some (LO.out s2.2):Int×List zg->Option (LO (Int×List zg) (List zg) _)) (0,y1) fun o6=>
 some o6
def ZQ:List zg->Option (List zg):=recE (ik)
def ag(x:List zg):Option (List zg×Int):=
 zb (ZA x) fun y1=>
 bif y1 != 0 then
  some ([],y1)
 else
  Zt (fun(s2:Int)=>
    zb (zt (decide (s2<(x.length:Int))) (Oi (s2,x)) (default:Bool)) fun y3=>
    bif bif decide (s2<(x.length:Int))then y3 else false then
     some (LO.again (w64 (s2+1)))
    else
     some (LO.out s2):Int->Option (LO (Int) (Int) _)) 0 fun o4=>
  Zt (fun(s5:Int)=>
    zb (zt (decide (o4<s5)) (Oi (w64 (s5 - 1),x)) (default:Bool)) fun y6=>
    bif bif decide (o4<s5)then y6 else false then
     some (LO.again (w64 (s5 - 1)))
    else
     some (LO.out s5):Int->Option (LO (Int) (Int) _)) (x.length:Int) fun o7=>
  need (decide (0<=o4)&&(decide (o4<=o7)&&(decide (o7<=o7)&&decide (o7<=(x.length:Int))))&&decide (o7=o7))<|
  zb (ZQ (List.drop o4.toNat (List.take o7.toNat x))) fun y8=>
  some (y8,0)
def Hl(Zk:zh->Option (List zF))(x:zh):Option (List zF):=
 bif x.kind==7 then
  zb (ag x.decl.value) fun y1=>
  some [(⟨x.decl.name,y1.1,x.decl.important⟩:zF)]
 else
  Zt (fun(s2:Int×List zF)=>
    bif decide (s2.1<(x.list.length:Int))then
     zb (geti x.list s2.1) fun y3=>
     zb (Zk (⟨y3.kind,y3.name,y3.num,y3.decl,y3.list⟩:zh)) fun y4=>
     need (zO s2.2.length y4.length 48)<|
     some (LO.again (w64 (s2.1+1),s2.2++y4))
    else
     some (LO.out s2.2):Int×List zF->Option (LO (Int×List zF) (List zF) _)) (0,[]) fun o5=>
  some o5
def Zk:zh->Option (List zF):=recE (Hl)
def mg(x:zh):Option (List zF×Int):=
 zb (zW (⟨x.kind,x.name,x.num,x.decl,x.list⟩:zh)) fun y1=>
 bif y1 != 0 then
  some ([],y1)
 else
  zb (Zk (⟨x.kind,x.name,x.num,x.decl,x.list⟩:zh)) fun y2=>
  some (y2,0)
def slices_Index_string(x:List Str×Str):Option Int:=
 Zt (fun(s1:Int)=>
   bif decide (s1<(x.1.length:Int))then
    zb (geti x.1 s1) fun y2=>
    bif x.2==y2 then
     some (LO.ret s1)
    else
     some (LO.again (w64 (s1+1)))
   else
    some (LO.out ()):Int->Option (LO (Int) (Unit) _)) 0 fun o3=>
 some (-1)
def slices_Contains_string(x:List Str×Str):Option Bool:=
 zb (slices_Index_string (x.1,x.2)) fun y1=>
 some (decide (y1>=0))
def Bh(x:Str):Option Bool:=
 zb (slices_Contains_string ([[],[97,110,100],[111,114],[110,111,116],[111,110,108,121]],x)) fun y1=>
 zb (zt (bif !y1 then decide ((x.length:Int)<=64)else false) (ZJ x) (default:Str)) fun y2=>
 zb (zt (bif bif !y1 then decide ((x.length:Int)<=64)else false then y2==x else false) (strings_IndexByte (x,0)) (default:Int)) fun y3=>
 some (bif bif bif !y1 then decide ((x.length:Int)<=64)else false then y2==x else false then decide (y3<0)else false)
def yg(x:List Int):Option Int:=
 Zt (fun(s1:Int)=>
   bif decide (s1<(x.length:Int))then
    zb (geti x s1) fun y2=>
    bif bif decide (y2<(-1000000000000))then true else decide (y2>1000000000000)then
     some (LO.ret 8)
    else
     some (LO.again (w64 (s1+1)))
   else
    some (LO.out ()):Int->Option (LO (Int) (Unit) _)) 0 fun o3=>
 some 0
def Ah(x:Int):Option Int:=
 zb (yg [x]) fun y1=>
 some y1
def Ii(x:zh):Option Bool:=
 zb (zt (!(x.kind != 1)) (Z4 (⟨x.kind,x.name,x.num,x.decl,x.list⟩:zh)) (default:Bool)) fun y1=>
 bif bif bif x.kind != 1 then true else !y1 then true else(x.list.length:Int)==0 then
  some false
 else
  Zt (fun(s2:Int)=>
    bif decide (s2<(x.list.length:Int))then
     zR (X:=Int) (
       zb (geti x.list s2) fun y3=>
       zb (zt (!(decide ((y3.list.length:Int)>0))) (Z4 (⟨y3.kind,[],0,y3.decl,y3.list⟩:zh)) (default:Bool)) fun y4=>
       bif bif decide ((y3.list.length:Int)>0)then true else !y4 then
        some (LX.ret (LO.ret false))
       else
        bif y3.kind==4 then
         zb (zt (!(bif decide (s2>0)then true else y3.num != 0)) (Bh y3.name) (default:Bool)) fun y5=>
         bif bif bif decide (s2>0)then true else y3.num != 0 then true else !y5 then
          some (LX.ret (LO.ret false))
         else
          some (LX.out s2)
        else
         zR (X:=Bool) (
           bif y3.kind==5 then
            some (LX.out (y3.kind==5))
           else
            some (LX.out (y3.kind==6))) fun j6=>
         bif j6 then
          zb (zt (!(bif !(y3.name==[])then true else decide (y3.num<0))) (Ah y3.num) (default:Int)) fun y7=>
          bif bif bif !(y3.name==[])then true else decide (y3.num<0)then true else y7 != 0 then
           some (LX.ret (LO.ret false))
          else
           some (LX.out s2)
         else
          some (LX.ret (LO.ret false))) fun j8=>
     some (LO.again (w64 (j8+1)))
    else
     some (LO.out ()):Int->Option (LO (Int) (Unit) _)) 0 fun o9=>
  some true
def Ao(x:zh):Option Bool:=
 zb (zt (decide ((x.list.length:Int)>0)) (geti x.list 0) (default:zh)) fun y1=>
 some (bif decide ((x.list.length:Int)>0)then y1.kind==4 else false)
def yj(x:zh):Option Bool:=
 bif x.kind==3 then
  zb (Z4 (⟨x.kind,x.name,x.num,x.decl,x.list⟩:zh)) fun y1=>
  zb (zt (bif y1 then(x.list.length:Int)==1 else false) (geti x.list 0) (default:zh)) fun y2=>
  zb (zt (bif y1 then(x.list.length:Int)==1 else false) (Ii (⟨y2.kind,y2.name,y2.num,y2.decl,y2.list⟩:zh)) (default:Bool)) fun y3=>
  zb (zt (bif bif y1 then(x.list.length:Int)==1 else false then y3 else false) (geti x.list 0) (default:zh)) fun y4=>
  zb (zt (bif bif y1 then(x.list.length:Int)==1 else false then y3 else false) (Ao (⟨y4.kind,y4.name,y4.num,y4.decl,y4.list⟩:zh)) (default:Bool)) fun y5=>
  some (bif bif bif y1 then(x.list.length:Int)==1 else false then y3 else false then y5 else false)
 else
  zb (Ii (⟨x.kind,x.name,x.num,x.decl,x.list⟩:zh)) fun y6=>
  some y6
def Qw(x:zh):Option Bool:=
 zb (yj (⟨x.kind,x.name,x.num,x.decl,x.list⟩:zh)) fun y1=>
 some (!y1)
def Z7(x:List zh):Option Int:=
 Zt (fun(s1:Int)=>
   bif decide (s1<(x.length:Int))then
    zb (geti x s1) fun y2=>
    zb (Qw (⟨y2.kind,y2.name,y2.num,y2.decl,y2.list⟩:zh)) fun y3=>
    bif y3 then
     some (LO.ret s1)
    else
     some (LO.again (w64 (s1+1)))
   else
    some (LO.out ()):Int->Option (LO (Int) (Unit) _)) 0 fun o4=>
 some (-1)
def ZB(x:List zh):Option Bool:=
 zb (Z7 x) fun y1=>
 some (decide (y1>=0))
def qC(x:zh):Option Int:=
 zb (zt (bif bif x.kind==2 then decide ((x.list.length:Int)>0)else false then decide ((x.list.length:Int)<=64)else false) (ZB x.list) (default:Bool)) fun y1=>
 zb (Z4 (⟨x.kind,x.name,x.num,x.decl,x.list⟩:zh)) fun y2=>
 bif bif !y2 then true else bif !(bif x.kind==1 then(x.list.length:Int)==0 else false)then !(bif bif bif x.kind==2 then decide ((x.list.length:Int)>0)else false then decide ((x.list.length:Int)<=64)else false then !y1 else false)else false then
  some 8
 else
  some 0
def Xf(x:zh):Option Int:=
 zb (qC (⟨x.kind,x.name,x.num,x.decl,x.list⟩:zh)) fun y1=>
 bif y1 != 0 then
  zb (zW (⟨x.kind,x.name,x.num,x.decl,x.list⟩:zh)) fun y2=>
  some y2
 else
  some 0
def Vo(x:Int×List Bool):Option (Bool×Int):=
 zb (geti x.2 (w64 (w64 (x.1+1) - 1))) fun y1=>
 some (y1,w64 (x.1+1))
def Gl(ZT:(zh×Int)×Int×List Bool->Option (Bool×Int))(x:(zh×Int)×Int×List Bool):Option (Bool×Int):=
 bif x.1.1.kind==4 then
  some (bif x.1.1.name==[97,108,108]then true else x.1.1.name==[115,99,114,101,101,110],x.2.1)
 else
  bif x.1.1.kind==5 then
   some (decide (x.1.2>=x.1.1.num),x.2.1)
  else
   bif x.1.1.kind==6 then
    some (decide (x.1.2<=x.1.1.num),x.2.1)
   else
    bif x.1.1.kind==7 then
     zb (Vo (x.2.1,x.2.2)) fun y1=>
     some (y1.1,y1.2)
    else
     bif x.1.1.kind==8 then
      some (false,x.2.1)
     else
      Zt (fun(s2:(Bool×Bool×Int)×Int)=>
        bif decide (s2.1.2.2<(x.1.1.list.length:Int))then
         zb (geti x.1.1.list s2.1.2.2) fun y3=>
         zb (ZT (((⟨y3.kind,y3.name,y3.num,y3.decl,y3.list⟩:zh),x.1.2),s2.2,x.2.2)) fun y4=>
         some (LO.again ((bif s2.1.1 then y4.1 else false,bif s2.1.2.1 then true else y4.1,w64 (s2.1.2.2+1)),y4.2))
        else
         some (LO.out ((s2.1.1,s2.1.2.1),s2.2)):(Bool×Bool×Int)×Int->Option (LO ((Bool×Bool×Int)×Int) ((Bool×Bool)×Int) _)) ((true,false,0),x.2.1) fun o5=>
      bif x.1.1.kind==1 then
       some (o5.1.1,o5.2)
      else
       bif x.1.1.kind==2 then
        some (o5.1.2,o5.2)
       else
        some (!o5.1.2,o5.2)
def ZT:(zh×Int)×Int×List Bool->Option (Bool×Int):=recE (Gl)
def qU(x:zh×VEnv×List Bool):Option (Bool×Int):=
 zb (Xf (⟨x.1.kind,x.1.name,x.1.num,x.1.decl,x.1.list⟩:zh)) fun y1=>
 bif y1 != 0 then
  some (false,y1)
 else
  zb (zt (!(bif decide (x.2.1.width<0)then true else decide (x.2.1.width>1000000000))) (Zk (⟨x.1.kind,x.1.name,x.1.num,x.1.decl,x.1.list⟩:zh)) (default:List zF)) fun y2=>
  bif bif bif decide (x.2.1.width<0)then true else decide (x.2.1.width>1000000000)then true else(x.2.2.length:Int) != (y2.length:Int)then
   some (false,2)
  else
   zb (ZT (((⟨x.1.kind,x.1.name,x.1.num,x.1.decl,x.1.list⟩:zh),w64 (1000*x.2.1.width)),0,x.2.2)) fun y3=>
   some (y3.1,0)
def ZV(x:Str):Option Int:=
 zb (strings_HasPrefix (x,[45])) fun y1=>
 bif y1 then
  some 2
 else
  some 1
def Zf(x:Int×List UInt8):Option (List UInt8):=
 zb (zt (bif decide (x.1>32)then decide (x.1<127)else false) (qx x.1) (default:Bool)) fun y1=>
 zb (zt (bif bif decide (x.1>32)then decide (x.1<127)else false then !y1 else false) (Sk x.1) (default:Bool)) fun y2=>
 bif bif bif bif decide (x.1>32)then decide (x.1<127)else false then !y1 else false then !y2 else false then
  zb (qA x.1) fun y3=>
  need (zO x.2.length 2 1)<|
  some (x.2++[(92:UInt8),y3])
 else
  need (zO x.2.length 1 1)<|
  zb (Kn ((wu64 x.1,16),x.2++[(92:UInt8)])) fun y4=>
  need (zO y4.length 1 1)<|
  some (y4++[(32:UInt8)])
def Rk(x:Str×Int):Option (List UInt8):=
 Zt (fun(s1:Int×List UInt8)=>
   bif decide (s1.1<(x.1.length:Int))then
    zR (X:=Int×List UInt8) (
      zb (geti x.1 s1.1) fun y2=>
      zb (Uf (y2.toNat:Int)) fun y3=>
      zb (zt (!(decide (s1.1>=x.2))&&y3) (qx (y2.toNat:Int)) (default:Bool)) fun y4=>
      bif bif bif y3 then bif decide (s1.1>=x.2)then true else !y4 else false then bif x.2==0 then true else !(x.1==[45])else false then
       zb (qA (y2.toNat:Int)) fun y5=>
       need (zO s1.2.length 1 1)<|
       some (LX.out (s1.1,s1.2++[y5]))
      else
       zb (Zf ((y2.toNat:Int),s1.2)) fun y6=>
       some (LX.out (s1.1,y6))) fun j7=>
    some (LO.again (w64 (j7.1+1),j7.2))
   else
    some (LO.out s1.2):Int×List UInt8->Option (LO (Int×List UInt8) (List UInt8) _)) (0,[]) fun o8=>
 some o8
def ig(x:Str):Option (Str×Int):=
 zb (zt (!(x==[])) (strings_IndexByte (x,0)) (default:Int)) fun y1=>
 bif bif x==[]then true else decide (y1>=0)then
  some ([],8)
 else
  zb (ZV x) fun y2=>
  zb (Rk (x,y2)) fun y3=>
  bif bif decide ((x.length:Int)>4000)then true else decide ((y3.length:Int)>4000)then
   some ([],28)
  else
   some (y3,0)
def ZZ(x:Int×Int×List UInt8):Option (Int×List UInt8):=
 need (decide (0<=w64 (x.2.1 - 1))&&(decide (w64 (x.2.1 - 1)<20)&&decide (w64 (x.2.1 - 1)<(x.2.2.length:Int))))<|
 zb (x.2.2[(w64 (x.2.1 - 1)).toNat]?) fun y1=>
 zb (qA x.1) fun y2=>
 some (w64 (x.2.1 - 1),List.set x.2.2 (w64 (x.2.1 - 1)).toNat y2)
def Tk(x:Int):Option (Str×Int):=
 zb (yg [x]) fun y1=>
 bif y1 != 0 then
  some ([],y1)
 else
  zR (X:=Int) (
    bif decide (x<0)then
     some (LX.out (w64 (0 - x)))
    else
     some (LX.out x)) fun j2=>
  Zt (fun(s3:(Int×Int)×List UInt8×Int)=>
    bif decide (s3.1.2<3)then
     zR (X:=(Int×Int)×List UInt8×Int) (
       zR (X:=Int×List UInt8×Int) (
         bif bif Int.tmod s3.1.1 10 != 0 then true else decide (s3.2.2<20)then
          zb (ZZ (wu8 (w64 (48+Int.tmod s3.1.1 10)),s3.2.2,s3.2.1)) fun y4=>
          some (LX.out (s3.1.1,y4.2,y4.1))
         else
          some (LX.out (s3.1.1,s3.2.1,s3.2.2))) fun j5=>
       bif bif s3.1.2==2 then decide (j5.2.2<20)else false then
        zb (ZZ (46,j5.2.2,j5.2.1)) fun y6=>
        some (LX.out ((w64 (Int.tdiv j5.1 10),s3.1.2),y6.2,y6.1))
       else
        some (LX.out ((w64 (Int.tdiv j5.1 10),s3.1.2),j5.2.1,j5.2.2))) fun j7=>
     some (LO.again ((j7.1.1,w64 (j7.1.2+1)),j7.2.1,j7.2.2))
    else
     some (LO.out (s3.2.1,s3.2.2)):(Int×Int)×List UInt8×Int->Option (LO ((Int×Int)×List UInt8×Int) (List UInt8×Int) _)) ((Int.tmod j2 1000,0),List.replicate 20 (0:UInt8),20) fun o8=>
  Zt (fun(s9:Int×List UInt8×Int)=>
    zb (ZZ (wu8 (w64 (48+Int.tmod s9.1 10)),s9.2.2,s9.2.1)) fun y10=>
    bif decide (s9.1<10)then
     some (LO.out (y10.2,y10.1))
    else
     some (LO.again (w64 (Int.tdiv s9.1 10),y10.2,y10.1)):Int×List UInt8×Int->Option (LO (Int×List UInt8×Int) (List UInt8×Int) _)) (w64 (Int.tdiv j2 1000),o8.1,o8.2) fun o11=>
  zR (X:=List UInt8×Int) (
    bif decide (x<0)then
     zb (ZZ (45,o11.2,o11.1)) fun y12=>
     some (LX.out (y12.2,y12.1))
    else
     some (LX.out (o11.1,o11.2))) fun j13=>
  need (decide (0<=j13.2)&&decide (j13.2<=20)&&Nat.beq j13.1.length 20)<|
  need (decide (j13.2.toNat+(20 - j13.2.toNat)<=j13.1.length))<|
  some (List.take (20 - j13.2.toNat) (List.drop j13.2.toNat j13.1),0)
def Bi(zQ:zh->Option Str)(x:List zh×Str):Option Str:=
 Zt (fun(s1:Int×List Str)=>
   bif decide (s1.1<(x.1.length:Int))then
    zb (geti x.1 s1.1) fun y2=>
    zb (zQ (⟨y2.kind,y2.name,y2.num,y2.decl,y2.list⟩:zh)) fun y3=>
    need (zO s1.2.length 1 16)<|
    some (LO.again (w64 (s1.1+1),s1.2++[y3]))
   else
    some (LO.out s1.2):Int×List Str->Option (LO (Int×List Str) (List Str) _)) (0,[]) fun o4=>
 zb (ve (o4,x.2)) fun y5=>
 some y5
def El(zQ:zh->Option Str)(x:zh):Option Str:=
 bif x.kind==4 then
  zb (ig x.name) fun y1=>
  some y1.1
 else
  bif x.kind==3 then
   zb (geti x.list 0) fun y2=>
   zb (zQ (⟨y2.kind,y2.name,y2.num,y2.decl,y2.list⟩:zh)) fun y3=>
   need (QZ ([110,111,116,32]:Str).length y3.length)<|
   some (([110,111,116,32]:Str)++y3)
  else
   bif x.kind==2 then
    zb (Bi zQ (x.list,[44,32])) fun y4=>
    some y4
   else
    bif x.kind==1 then
     zb (Bi zQ (x.list,[32,97,110,100,32])) fun y5=>
     some y5
    else
     zb (Tk x.num) fun y6=>
     bif x.kind==5 then
      need (QZ ([40,109,105,110,45,119,105,100,116,104,58,32]:Str).length y6.1.length)<|
      need (QZ (([40,109,105,110,45,119,105,100,116,104,58,32]:Str)++y6.1).length ([112,120,41]:Str).length)<|
      some (([40,109,105,110,45,119,105,100,116,104,58,32]:Str)++y6.1++([112,120,41]:Str))
     else
      need (QZ ([40,109,97,120,45,119,105,100,116,104,58,32]:Str).length y6.1.length)<|
      need (QZ (([40,109,97,120,45,119,105,100,116,104,58,32]:Str)++y6.1).length ([112,120,41]:Str).length)<|
      some (([40,109,97,120,45,119,105,100,116,104,58,32]:Str)++y6.1++([112,120,41]:Str))
def zQ:zh->Option Str:=recE (El)
def Qn(x:(Str×Int)×List UInt8):Option (List UInt8):=
 Zt (fun(s1:Int×List UInt8)=>
   bif decide (s1.1<(x.1.1.length:Int))then
    zR (X:=Int×List UInt8) (
      zb (geti x.1.1 s1.1) fun y2=>
      zb (Uf (y2.toNat:Int)) fun y3=>
      zb (zt (!(decide (s1.1>=x.1.2))&&y3) (qx (y2.toNat:Int)) (default:Bool)) fun y4=>
      bif bif bif y3 then bif decide (s1.1>=x.1.2)then true else !y4 else false then bif x.1.2==0 then true else !(x.1.1==[45])else false then
       zb (qA (y2.toNat:Int)) fun y5=>
       need (zO s1.2.length 1 1)<|
       some (LX.out (s1.1,s1.2++[y5]))
      else
       zb (Zf ((y2.toNat:Int),s1.2)) fun y6=>
       some (LX.out (s1.1,y6))) fun j7=>
    some (LO.again (w64 (j7.1+1),j7.2))
   else
    some (LO.out s1.2):Int×List UInt8->Option (LO (Int×List UInt8) (List UInt8) _)) (0,x.2) fun o8=>
 some o8
def dn(x:Unit):Option QQ:=
 some (⟨[32],[60,33,45,45],[45,45,62],[58],[59],[44],[91],[93],[40],[41],[123],[125]⟩:QQ)
def Qd(x:(Int×Bool)×List UInt8):Option (List UInt8):=
 zR (X:=Int×List UInt8) (
   bif decide (x.1.1<0)then
    need (zO x.2.length 1 1)<|
    some (LX.out (w64 (0 - x.1.1),x.2++[(45:UInt8)]))
   else
    some (LX.out (x.1.1,x.2))) fun j1=>
 zb (Nn ((w64 (Int.tdiv j1.1 1000),10),j1.2)) fun y2=>
 zb (gm (w64 (1000+Int.tmod j1.1 1000),10)) fun y3=>
 need (decide (1<=(y3.length:Int)))<|
 zb (Mh (List.drop 1 y3,[48])) fun y4=>
 zR (X:=List UInt8) (
   bif !(y4==[])then
    need (zO y2.length 1 1)<|
    need (zO (y2++[(46:UInt8)]).length y4.length 1)<|
    some (LX.out (y2++[(46:UInt8)]++y4))
   else
    bif x.1.2 then
     need (zO y2.length ([46,48]:Str).length 1)<|
     some (LX.out (y2++([46,48]:Str)))
    else
     some (LX.out y2)) fun j5=>
 some j5
def Pk(x:zk×List UInt8):Option (List UInt8):=
 bif x.1.kind==1 then
  zb (ZV x.1.text) fun y1=>
  zb (Qn ((x.1.text,y1),x.2)) fun y2=>
  some y2
 else
  bif x.1.kind==2 then
   zb (ZV x.1.text) fun y3=>
   zb (Qn ((x.1.text,y3),x.2)) fun y4=>
   need (zO y4.length 1 1)<|
   some (y4++[(40:UInt8)])
  else
   bif x.1.kind==3 then
    need (zO x.2.length 1 1)<|
    zb (ZV x.1.text) fun y5=>
    zb (Qn ((x.1.text,y5),x.2++[(64:UInt8)])) fun y6=>
    some y6
   else
    bif x.1.kind==4 then
     zR (X:=Int×List UInt8) (
       bif x.1.flag then
        zb (ZV x.1.text) fun y7=>
        some (LX.out (y7,x.2))
       else
        some (LX.out (0,x.2))) fun j8=>
     need (zO j8.2.length 1 1)<|
     zb (Qn ((x.1.text,j8.1),j8.2++[(35:UInt8)])) fun y9=>
     some y9
    else
     bif x.1.kind==5 then
      need (zO x.2.length 1 1)<|
      need (decide (x.1.text.length<=maxLen))<|
      Zt (fun(s10:Int×List UInt8)=>
        bif decide (s10.1<(x.1.text.length:Int))then
         zR (X:=Int×List UInt8) (
           need (decide (0<=s10.1)&&decide (s10.1<(x.1.text.length:Int)))<|
           zb x.1.text[s10.1.toNat]? fun y11=>
           zb (strings_IndexByte ([10,12,13,34,92],(y11.toNat:Int))) fun y12=>
           bif decide (y12>=0)then
            zb (Zf ((y11.toNat:Int),s10.2)) fun y13=>
            some (LX.out (s10.1,y13))
           else
            zb (qA (y11.toNat:Int)) fun y14=>
            need (zO s10.2.length 1 1)<|
            some (LX.out (s10.1,s10.2++[y14]))) fun j15=>
         some (LO.again (w64 (j15.1+1),j15.2))
        else
         some (LO.out s10.2):Int×List UInt8->Option (LO (Int×List UInt8) (List UInt8) _)) (0,x.2++[(34:UInt8)]) fun o16=>
      need (zO o16.length 1 1)<|
      some (o16++[(34:UInt8)])
     else
      bif x.1.kind==7 then
       need (zO x.2.length ([117,114,108,40]:Str).length 1)<|
       need (decide (x.1.text.length<=maxLen))<|
       Zt (fun(s17:Int×List UInt8)=>
         bif decide (s17.1<(x.1.text.length:Int))then
          zR (X:=Int×List UInt8) (
            need (decide (0<=s17.1)&&decide (s17.1<(x.1.text.length:Int)))<|
            zb x.1.text[s17.1.toNat]? fun y18=>
            zb (zt (!(decide ((y18.toNat:Int)<=32))) (strings_IndexByte ([34,39,40,41,92,127],(y18.toNat:Int))) (default:Int)) fun y19=>
            bif bif decide ((y18.toNat:Int)<=32)then true else decide (y19>=0)then
             zb (Zf ((y18.toNat:Int),s17.2)) fun y20=>
             some (LX.out (s17.1,y20))
            else
             zb (qA (y18.toNat:Int)) fun y21=>
             need (zO s17.2.length 1 1)<|
             some (LX.out (s17.1,s17.2++[y21]))) fun j22=>
          some (LO.again (w64 (j22.1+1),j22.2))
         else
          some (LO.out s17.2):Int×List UInt8->Option (LO (Int×List UInt8) (List UInt8) _)) (0,x.2++([117,114,108,40]:Str)) fun o23=>
       need (zO o23.length 1 1)<|
       some (o23++[(41:UInt8)])
      else
       bif x.1.kind==9 then
        need (zO x.2.length x.1.text.length 1)<|
        some (x.2++x.1.text)
       else
        bif x.1.kind==10 then
         zb (Qd ((x.1.num, !x.1.flag),x.2)) fun y24=>
         some y24
        else
         bif x.1.kind==11 then
          zb (Qd ((x.1.num,false),x.2)) fun y25=>
          need (zO y25.length 1 1)<|
          some (y25++[(37:UInt8)])
         else
          bif x.1.kind==12 then
           zb (Qd ((x.1.num, !x.1.flag),x.2)) fun y26=>
           zb (geti x.1.unit 0) fun y27=>
           need (decide (1<=(x.1.unit.length:Int))|| !(ibOr IntKind.u8 (y27.toNat:Int) 32==101))<|
           zb (zt (ibOr IntKind.u8 (y27.toNat:Int) 32==101) (Ui (List.drop 1 x.1.unit)) (default:Bool)) fun y28=>
           need (decide (1<=(x.1.unit.length:Int))|| !(bif ibOr IntKind.u8 (y27.toNat:Int) 32==101 then y28 else false))<|
           zb (zt (bif ibOr IntKind.u8 (y27.toNat:Int) 32==101 then y28 else false) (strings_HasPrefix (List.drop 1 x.1.unit,[45,45])) (default:Bool)) fun y29=>
           bif bif bif ibOr IntKind.u8 (y27.toNat:Int) 32==101 then y28 else false then !y29 else false then
            zb (geti x.1.unit 0) fun y30=>
            zb (Zf ((y30.toNat:Int),y26)) fun y31=>
            need (decide (1<=(x.1.unit.length:Int)))<|
            zb (Qn ((List.drop 1 x.1.unit,0),y31)) fun y32=>
            some y32
           else
            zb (ZV x.1.unit) fun y33=>
            zb (Qn ((x.1.unit,y33),y26)) fun y34=>
            some y34
          else
           zb (dn ()) fun y35=>
           zb (geti [y35.e0,y35.e1,y35.e2,y35.e3,y35.e4,y35.e5,y35.e6,y35.e7,y35.e8,y35.e9,y35.e10,y35.e11] (wu8 (x.1.kind - 13))) fun y36=>
           need (zO x.2.length y36.length 1)<|
           some (x.2++y36)
def Zp(x:za):Option za:=
 Zt (fun(s1:za)=>
   need (decide (0<=s1.at_)&&decide (s1.at_<=(s1.s.length:Int)))<|
   zb (strings_HasPrefix (List.drop s1.at_.toNat s1.s,[47,42])) fun y2=>
   bif y2 then
    need (decide (0<=w64 (s1.at_+2))&&decide (w64 (s1.at_+2)<=(s1.s.length:Int)))<|
    zb (Og (List.drop (w64 (s1.at_+2)).toNat s1.s,[42,47])) fun y3=>
    bif decide (y3<0)then
     some (LO.ret (⟨s1.s,(s1.s.length:Int)⟩:za))
    else
     some (LO.again (⟨s1.s,w64 (s1.at_+w64 (y3+4))⟩:za))
   else
    some (LO.out s1):za->Option (LO (za) (za) _)) x fun o4=>
 some o4
def ze(x:Int×za):Option Int:=
 bif decide (w64 (x.2.at_+x.1)<(x.2.s.length:Int))then
  zb (geti x.2.s (w64 (x.2.at_+x.1))) fun y1=>
  some (w64 (y1.toNat:Int))
 else
  some (-1)
def Zn(x:Int):Option Bool:=
 some (bif bif x==32 then true else x==9 then true else x==10)
def zZ(x:za):Option za:=
 Zt (fun(s1:za)=>
   zb (ze (0,s1)) fun y2=>
   zb (Zn y2) fun y3=>
   bif y3 then
    some (LO.again (⟨s1.s,w64 (s1.at_+1)⟩:za))
   else
    some (LO.out s1):za->Option (LO (za) (za) _)) x fun o4=>
 some o4
def Qr(x:Int):Option (List UInt8):=
 bif decide (wu32 x<=2047)then
  zb (qA (ibOr IntKind.u8 192 (wu8 (Je IntKind.i32 x 6)))) fun y1=>
  zb (qA (ibOr IntKind.u8 128 (Ke IntKind.u8 (wu8 x) 63))) fun y2=>
  need (zO 0 2 1)<|
  some [y1,y2]
 else
  zR (X:=Bool) (
    bif decide (wu32 x<55296)then
     some (LX.out (decide (wu32 x<55296)))
    else
     some (LX.out (bif decide (57343<wu32 x)then decide (wu32 x<=65535)else false))) fun j3=>
  bif j3 then
   zb (qA (ibOr IntKind.u8 224 (wu8 (Je IntKind.i32 x 12)))) fun y4=>
   zb (qA (ibOr IntKind.u8 128 (Ke IntKind.u8 (wu8 (Je IntKind.i32 x 6)) 63))) fun y5=>
   zb (qA (ibOr IntKind.u8 128 (Ke IntKind.u8 (wu8 x) 63))) fun y6=>
   need (zO 0 3 1)<|
   some [y4,y5,y6]
  else
   bif bif decide (wu32 x>65535)then decide (wu32 x<=1114111)else false then
    zb (qA (ibOr IntKind.u8 240 (wu8 (Je IntKind.i32 x 18)))) fun y7=>
    zb (qA (ibOr IntKind.u8 128 (Ke IntKind.u8 (wu8 (Je IntKind.i32 x 12)) 63))) fun y8=>
    zb (qA (ibOr IntKind.u8 128 (Ke IntKind.u8 (wu8 (Je IntKind.i32 x 6)) 63))) fun y9=>
    zb (qA (ibOr IntKind.u8 128 (Ke IntKind.u8 (wu8 x) 63))) fun y10=>
    need (zO 0 4 1)<|
    some [y7,y8,y9,y10]
   else
    need (zO 0 3 1)<|
    some [(239:UInt8),(191:UInt8),(189:UInt8)]
def qy(x:Int):Option (List UInt8):=
 bif decide (wu32 x<=127)then
  zb (qA (wu8 x)) fun y1=>
  need (zO 0 1 1)<|
  some [y1]
 else
  zb (Qr x) fun y2=>
  some y2
def qw(x:Int×Int×Int):Option Bool:=
 some (bif decide (x.2.1<=x.1)then decide (x.1<=x.2.2)else false)
def Zx(x:Int):Option Bool:=
 zb (qw (x,48,57)) fun y1=>
 some y1
def Ye(x:Int):Option Int:=
 zb (Zx x) fun y1=>
 bif y1 then
  some (w64 (x - 48))
 else
  zb (zt (x != (-1)) (qw (ibOr IntKind.i64 x 32,97,102)) (default:Bool)) fun y2=>
  bif bif bif bif x != (-1)then y2 else false then decide (x>64)else false then decide (x<128)else false then
   some (w64 (w64 (ibOr IntKind.i64 x 32 - 97)+10))
  else
   some (-1)
def ZL(x:za):Option (za×List UInt8):=
 zb (ze (0,(⟨x.s,w64 (x.at_+1)⟩:za))) fun y1=>
 bif y1==(-1)then
  zb (qy 65533) fun y2=>
  some ((⟨x.s,w64 (x.at_+1)⟩:za),y2)
 else
  zb (Ye y1) fun y3=>
  bif decide (y3<0)then
   zb (qA (wu8 y1)) fun y4=>
   need (zO 0 1 1)<|
   some ((⟨x.s,w64 (w64 (x.at_+1)+1)⟩:za),[y4])
  else
   Zt (fun(s5:(Int×Int)×za)=>
     bif decide (s5.1.2<6)then
      zb (ze (0,s5.2)) fun y6=>
      zb (Ye y6) fun y7=>
      bif decide (y7<0)then
       some (LO.out (s5.1.1,s5.2))
      else
       some (LO.again ((ibOr IntKind.i64 (ll IntKind.i64 s5.1.1 4) y7,w64 (s5.1.2+1)),(⟨s5.2.s,w64 (s5.2.at_+1)⟩:za)))
     else
      some (LO.out (s5.1.1,s5.2)):(Int×Int)×za->Option (LO ((Int×Int)×za) (Int×za) _)) ((0,0),(⟨x.s,w64 (x.at_+1)⟩:za)) fun o8=>
   zR (X:=Int×za) (
     zb (ze (0,o8.2)) fun y9=>
     zb (Zn y9) fun y10=>
     bif y10 then
      some (LX.out (o8.1,(⟨o8.2.s,w64 (o8.2.at_+1)⟩:za)))
     else
      some (LX.out (o8.1,o8.2))) fun j11=>
   zR (X:=Int) (
     bif j11.1==0 then
      some (LX.out 65533)
     else
      some (LX.out j11.1)) fun j12=>
   zb (qy (w32 j12)) fun y13=>
   some (j11.2,y13)
def Qs(x:Int×List UInt8):Option (List UInt8):=
 bif decide (wu32 x.1<=2047)then
  zb (qA (ibOr IntKind.u8 192 (wu8 (Je IntKind.i32 x.1 6)))) fun y1=>
  zb (qA (ibOr IntKind.u8 128 (Ke IntKind.u8 (wu8 x.1) 63))) fun y2=>
  need (zO x.2.length 2 1)<|
  some (x.2++[y1,y2])
 else
  zR (X:=Bool×List UInt8) (
    bif decide (wu32 x.1<55296)then
     some (LX.out (decide (wu32 x.1<55296),x.2))
    else
     some (LX.out (bif decide (57343<wu32 x.1)then decide (wu32 x.1<=65535)else false,x.2))) fun j3=>
  bif j3.1 then
   zb (qA (ibOr IntKind.u8 224 (wu8 (Je IntKind.i32 x.1 12)))) fun y4=>
   zb (qA (ibOr IntKind.u8 128 (Ke IntKind.u8 (wu8 (Je IntKind.i32 x.1 6)) 63))) fun y5=>
   zb (qA (ibOr IntKind.u8 128 (Ke IntKind.u8 (wu8 x.1) 63))) fun y6=>
   need (zO j3.2.length 3 1)<|
   some (j3.2++[y4,y5,y6])
  else
   bif bif decide (wu32 x.1>65535)then decide (wu32 x.1<=1114111)else false then
    zb (qA (ibOr IntKind.u8 240 (wu8 (Je IntKind.i32 x.1 18)))) fun y7=>
    zb (qA (ibOr IntKind.u8 128 (Ke IntKind.u8 (wu8 (Je IntKind.i32 x.1 12)) 63))) fun y8=>
    zb (qA (ibOr IntKind.u8 128 (Ke IntKind.u8 (wu8 (Je IntKind.i32 x.1 6)) 63))) fun y9=>
    zb (qA (ibOr IntKind.u8 128 (Ke IntKind.u8 (wu8 x.1) 63))) fun y10=>
    need (zO j3.2.length 4 1)<|
    some (j3.2++[y7,y8,y9,y10])
   else
    need (zO j3.2.length 3 1)<|
    some (j3.2++[(239:UInt8),(191:UInt8),(189:UInt8)])
def qz(x:Int×List UInt8):Option (List UInt8):=
 bif decide (wu32 x.1<=127)then
  zb (qA (wu8 x.1)) fun y1=>
  need (zO x.2.length 1 1)<|
  some (x.2++[y1])
 else
  zb (Qs (x.1,x.2)) fun y2=>
  some y2
def zV(x:za×List UInt8):Option (za×List UInt8):=
 zb (ze (0,(⟨x.1.s,w64 (x.1.at_+1)⟩:za))) fun y1=>
 bif y1==(-1)then
  zb (qz (65533,x.2)) fun y2=>
  some ((⟨x.1.s,w64 (x.1.at_+1)⟩:za),y2)
 else
  zb (Ye y1) fun y3=>
  bif decide (y3<0)then
   zb (qA (wu8 y1)) fun y4=>
   need (zO x.2.length 1 1)<|
   some ((⟨x.1.s,w64 (w64 (x.1.at_+1)+1)⟩:za),x.2++[y4])
  else
   Zt (fun(s5:(Int×Int)×za)=>
     bif decide (s5.1.2<6)then
      zb (ze (0,s5.2)) fun y6=>
      zb (Ye y6) fun y7=>
      bif decide (y7<0)then
       some (LO.out (s5.1.1,s5.2))
      else
       some (LO.again ((ibOr IntKind.i64 (ll IntKind.i64 s5.1.1 4) y7,w64 (s5.1.2+1)),(⟨s5.2.s,w64 (s5.2.at_+1)⟩:za)))
     else
      some (LO.out (s5.1.1,s5.2)):(Int×Int)×za->Option (LO ((Int×Int)×za) (Int×za) _)) ((0,0),(⟨x.1.s,w64 (x.1.at_+1)⟩:za)) fun o8=>
   zR (X:=Int×za×List UInt8) (
     zb (ze (0,o8.2)) fun y9=>
     zb (Zn y9) fun y10=>
     bif y10 then
      some (LX.out (o8.1,(⟨o8.2.s,w64 (o8.2.at_+1)⟩:za),x.2))
     else
      some (LX.out (o8.1,o8.2,x.2))) fun j11=>
   zR (X:=Int×List UInt8) (
     bif j11.1==0 then
      some (LX.out (65533,j11.2.2))
     else
      some (LX.out (j11.1,j11.2.2))) fun j12=>
   zb (qz (w32 j12.1,j12.2)) fun y13=>
   some (j11.2.1,y13)
def qm(x:za):Option (zk×za):=
 zb (ze (0,x)) fun y1=>
 Zt (fun(s2:za×zk×List UInt8)=>
   zb (ze (0,s2.1)) fun y3=>
   bif y3==(-1)then
    some (LO.out (s2.1,s2.2.1,s2.2.2))
   else
    bif y3==y1 then
     some (LO.out ((⟨s2.1.s,w64 (s2.1.at_+1)⟩:za),s2.2.1,s2.2.2))
    else
     bif y3==10 then
      some (LO.ret ((⟨6,[],0,[],false⟩:zk),s2.1))
     else
      zb (zt (y3==92) (ze (1,s2.1)) (default:Int)) fun y4=>
      zb (zt (!(y4==(-1))&&y3==92) (ze (1,s2.1)) (default:Int)) fun y5=>
      bif bif y3==92 then bif y4==(-1)then true else y5==10 else false then
       some (LO.again ((⟨s2.1.s,if(s2.1.s.length:Int)<w64 (s2.1.at_+2)then(s2.1.s.length:Int)else w64 (s2.1.at_+2)⟩:za),s2.2.1,s2.2.2))
      else
       bif y3==92 then
        zb (zV (s2.1,s2.2.2)) fun y6=>
        some (LO.again (y6.1,s2.2.1,y6.2))
       else
        zb (qA (wu8 y3)) fun y7=>
        need (zO s2.2.2.length 1 1)<|
        some (LO.again ((⟨s2.1.s,w64 (s2.1.at_+1)⟩:za),s2.2.1,s2.2.2++[y7])):za×zk×List UInt8->Option (LO (za×zk×List UInt8) (za×zk×List UInt8) _)) ((⟨x.s,w64 (x.at_+1)⟩:za),(⟨0,[],0,[],false⟩:zk),[]) fun o8=>
 some ((⟨5,o8.2.2,0,[],false⟩:zk),o8.1)
def Mi(x:Int):Option Bool:=
 zb (qw (ibOr IntKind.i64 x 32,97,122)) fun y1=>
 some (bif bif bif bif y1 then decide (x<128)else false then decide (x>64)else false then true else x==95 then true else decide (x>=128))
def vg(x:Int):Option Bool:=
 zb (Mi x) fun y1=>
 zb (zt (!y1) (Zx x) (default:Bool)) fun y2=>
 some (bif bif y1 then true else y2 then true else x==45)
def zH(x:Int×za):Option Bool:=
 zb (ze (x.1,x.2)) fun y1=>
 zb (zt (y1==92) (ze (w64 (x.1+1),x.2)) (default:Int)) fun y2=>
 some (bif y1==92 then y2 != 10 else false)
def zX(x:Int×za):Option Bool:=
 zb (ze (x.1,x.2)) fun y1=>
 bif y1 != 45 then
  zb (ze (x.1,x.2)) fun y2=>
  zb (Mi y2) fun y3=>
  zb (zt (!y3) (zH (x.1,x.2)) (default:Bool)) fun y4=>
  some (bif y3 then true else y4)
 else
  zb (ze (w64 (x.1+1),x.2)) fun y5=>
  zb (Mi y5) fun y6=>
  zb (zt (!y6) (ze (w64 (x.1+1),x.2)) (default:Int)) fun y7=>
  zb (zt (!(bif y6 then true else y7==45)) (zH (w64 (x.1+1),x.2)) (default:Bool)) fun y8=>
  some (bif bif y6 then true else y7==45 then true else y8)
def Za(x:za):Option (Str×za):=
 Zt (fun(s1:za×List UInt8)=>
   zb (ze (0,s1.1)) fun y2=>
   zb (vg y2) fun y3=>
   bif y3 then
    zb (qA (wu8 y2)) fun y4=>
    need (zO s1.2.length 1 1)<|
    some (LO.again ((⟨s1.1.s,w64 (s1.1.at_+1)⟩:za),s1.2++[y4]))
   else
    zb (zt (y2 != (-1)) (zH (0,s1.1)) (default:Bool)) fun y5=>
    bif bif y2 != (-1)then y5 else false then
     zb (zV (s1.1,s1.2)) fun y6=>
     some (LO.again (y6.1,y6.2))
    else
     some (LO.ret (s1.2,s1.1)):za×List UInt8->Option (LO (za×List UInt8) (Unit) _)) (x,[]) fun o7=>
 none
def Qu(x:za):Option Bool:=
 zR (X:=Int) (
   zb (ze (0,x)) fun y1=>
   bif bif y1==43 then true else y1==45 then
    some (LX.out 1)
   else
    some (LX.out 0)) fun j2=>
 zR (X:=Int) (
   zb (ze (j2,x)) fun y3=>
   bif y3==46 then
    some (LX.out (w64 (j2+1)))
   else
    some (LX.out j2)) fun j4=>
 zb (ze (j4,x)) fun y5=>
 zb (Zx y5) fun y6=>
 some y6
def Zj(x:za):Option za:=
 Zt (fun(s1:za)=>
   zb (ze (0,s1)) fun y2=>
   zb (Zx y2) fun y3=>
   bif y3 then
    some (LO.again (⟨s1.s,w64 (s1.at_+1)⟩:za))
   else
    some (LO.out s1):za->Option (LO (za) (za) _)) x fun o4=>
 some o4
def Z8(x:za):Option (Bool×za):=
 zR (X:=za) (
   zb (ze (0,x)) fun y1=>
   bif bif y1==43 then true else y1==45 then
    some (LX.out (⟨x.s,w64 (x.at_+1)⟩:za))
   else
    some (LX.out x)) fun j2=>
 zb (Zj j2) fun y3=>
 zR (X:=Bool×za) (
   zb (ze (0,y3)) fun y4=>
   zb (zt (y4==46) (ze (1,y3)) (default:Int)) fun y5=>
   zb (zt (y4==46) (Zx y5) (default:Bool)) fun y6=>
   bif bif y4==46 then y6 else false then
    zb (Zj (⟨y3.s,w64 (y3.at_+1)⟩:za)) fun y7=>
    some (LX.out (false,y7))
   else
    some (LX.out (true,y3))) fun j8=>
 zR (X:=Bool×za) (
   zb (ze (0,j8.2)) fun y9=>
   zb (zt (!(y9==101)) (ze (0,j8.2)) (default:Int)) fun y10=>
   bif bif y9==101 then true else y10==69 then
    zR (X:=(Bool×Int)×za) (
      zb (ze (1,j8.2)) fun y11=>
      bif bif y11==43 then true else y11==45 then
       some (LX.out ((j8.1,2),j8.2))
      else
       some (LX.out ((j8.1,1),j8.2))) fun j12=>
    zb (ze (j12.1.2,j12.2)) fun y13=>
    zb (Zx y13) fun y14=>
    bif y14 then
     zb (Zj (⟨j12.2.s,w64 (j12.2.at_+j12.1.2)⟩:za)) fun y15=>
     some (LX.out (false,y15))
    else
     some (LX.out (j12.1.1,j12.2))
   else
    some (LX.out (j8.1,j8.2))) fun j16=>
 some (j16.1,j16.2)
def QD(x:Str):Option Int:=
 zb (geti x 0) fun y1=>
 zb (Kg (x,[43,45])) fun y2=>
 zR (X:=Str×Int) (
   zb (Vj (y2,[101,69])) fun y3=>
   bif decide (y3>=0)then
    need (decide (0<=w64 (y3+1))&&decide (w64 (y3+1)<=(y2.length:Int)))<|
    zb (Kg (List.drop (w64 (y3+1)).toNat y2,[43,45])) fun y4=>
    need (decide (y4.length<=maxLen))<|
    Zt (fun(s5:Int×Int)=>
      bif decide (s5.2<(y4.length:Int))then
       need (decide (0<=s5.2)&&decide (s5.2<(y4.length:Int)))<|
       zb y4[s5.2.toNat]? fun y6=>
       some (LO.again (if 1048576<w64 (w64 (10*s5.1)+w64 (wu8 ((y6.toNat:Int) - 48)))then 1048576 else w64 (w64 (10*s5.1)+w64 (wu8 ((y6.toNat:Int) - 48))),w64 (s5.2+1)))
      else
       some (LO.out s5.1):Int×Int->Option (LO (Int×Int) (Int) _)) (0,0) fun o7=>
    zR (X:=Str×Int×Int) (
      zb (geti y2 (w64 (y3+1))) fun y8=>
      bif (y8.toNat:Int)==45 then
       some (LX.out (y2,3,w64 (0 - o7)))
      else
       some (LX.out (y2,3,o7))) fun j9=>
    need (decide (0<=y3)&&decide (y3<=(j9.1.length:Int)))<|
    some (LX.out (List.take y3.toNat j9.1,w64 (j9.2.1+j9.2.2)))
   else
    some (LX.out (y2,3))) fun j10=>
 zb (cutF (j10.1,[46])) fun y11=>
 need (QZ y11.1.length y11.2.1.length)<|
 zR (X:=Str×Int) (
   bif decide (w64 (j10.2 - (y11.2.1.length:Int))<0)then
    need (decide (0<=(if w64 (((y11.1++y11.2.1).length:Int)+w64 (j10.2 - (y11.2.1.length:Int)))>0 then w64 (((y11.1++y11.2.1).length:Int)+w64 (j10.2 - (y11.2.1.length:Int)))else 0))&&decide ((if w64 (((y11.1++y11.2.1).length:Int)+w64 (j10.2 - (y11.2.1.length:Int)))>0 then w64 (((y11.1++y11.2.1).length:Int)+w64 (j10.2 - (y11.2.1.length:Int)))else 0)<=((y11.1++y11.2.1).length:Int)))<|
    some (LX.out (List.take (if w64 (((y11.1++y11.2.1).length:Int)+w64 (j10.2 - (y11.2.1.length:Int)))>0 then w64 (((y11.1++y11.2.1).length:Int)+w64 (j10.2 - (y11.2.1.length:Int)))else 0).toNat (y11.1++y11.2.1),w64 (j10.2 - (y11.2.1.length:Int))))
   else
    some (LX.out (y11.1++y11.2.1,w64 (j10.2 - (y11.2.1.length:Int))))) fun j12=>
 need (decide (j12.1.length<=maxLen))<|
 Zt (fun(s13:Int×Int)=>
   bif decide (s13.2<(j12.1.length:Int))then
    need (decide (0<=s13.2)&&decide (s13.2<(j12.1.length:Int)))<|
    zb j12.1[s13.2.toNat]? fun y14=>
    some (LO.again (if 1000000000000<w64 (w64 (10*s13.1)+w64 (wu8 ((y14.toNat:Int) - 48)))then 1000000000000 else w64 (w64 (10*s13.1)+w64 (wu8 ((y14.toNat:Int) - 48))),w64 (s13.2+1)))
   else
    some (LO.out s13.1):Int×Int->Option (LO (Int×Int) (Int) _)) (0,0) fun o15=>
 Zt (fun(s16:Int×Int)=>
   bif bif bif decide (s16.1>0)then decide (s16.2>0)else false then decide (s16.2<1000000000000)else false then
    some (LO.again (w64 (s16.1 - 1),if 1000000000000<w64 (10*s16.2)then 1000000000000 else w64 (10*s16.2)))
   else
    some (LO.out s16.2):Int×Int->Option (LO (Int×Int) (Int) _)) (j12.2,o15) fun o17=>
 zR (X:=Int) (
   bif (y1.toNat:Int)==45 then
    some (LX.out (w64 (0 - o17)))
   else
    some (LX.out o17)) fun j18=>
 some j18
def Z9(x:za):Option (zk×za):=
 zb (Z8 x) fun y1=>
 need (decide (0<=x.at_)&&(decide (x.at_<=y1.2.at_)&&decide (y1.2.at_<=(y1.2.s.length:Int))))<|
 zb (QD (List.drop x.at_.toNat (List.take y1.2.at_.toNat y1.2.s))) fun y2=>
 zR (X:=za×zk×zk) (
   zb (zX (0,y1.2)) fun y3=>
   bif y3 then
    zb (Za y1.2) fun y4=>
    some (LX.out (y4.2,(⟨0,[],0,[],false⟩:zk),(⟨12,[],y2,y4.1,y1.1⟩:zk)))
   else
    zb (ze (0,y1.2)) fun y5=>
    bif y5==37 then
     some (LX.out ((⟨y1.2.s,w64 (y1.2.at_+1)⟩:za),(⟨0,[],0,[],false⟩:zk),(⟨11,[],y2,[],false⟩:zk)))
    else
     some (LX.out (y1.2,(⟨0,[],0,[],false⟩:zk),(⟨10,[],y2,[],y1.1⟩:zk)))) fun j6=>
 some (j6.2.2,j6.1)
def ZX(x:za):Option (zk×za):=
 Zt (fun(s1:za×zk)=>
   zb (ze (0,s1.1)) fun y2=>
   bif y2==(-1)then
    some (LO.ret ((⟨8,[],0,[],false⟩:zk),s1.1))
   else
    zb (zH (0,s1.1)) fun y3=>
    bif y3 then
     zb (ZL s1.1) fun y4=>
     some (LO.again (y4.1,s1.2))
    else
     zb (geti s1.1.s (w64 (w64 (s1.1.at_+1) - 1))) fun y5=>
     bif (y5.toNat:Int)==41 then
      some (LO.ret ((⟨8,[],0,[],false⟩:zk),(⟨s1.1.s,w64 (s1.1.at_+1)⟩:za)))
     else
      some (LO.again ((⟨s1.1.s,w64 (s1.1.at_+1)⟩:za),s1.2)):za×zk->Option (LO (za×zk) (Unit) _)) (x,(⟨0,[],0,[],false⟩:zk)) fun o6=>
 none
def QC(x:za):Option (zk×za):=
 zb (zZ x) fun y1=>
 Zt (fun(s2:za×zk×List UInt8)=>
   zb (ze (0,s2.1)) fun y3=>
   zR (X:=Int×za×zk×List UInt8) (
     zb (Zn y3) fun y4=>
     bif y4 then
      zb (zZ s2.1) fun y5=>
      zb (ze (0,y5)) fun y6=>
      bif bif y6 != 41 then y6 != (-1)else false then
       zb (ZX y5) fun y7=>
       some (LX.ret (LO.ret (y7.1,y7.2)))
      else
       some (LX.out (y6,y5,s2.2.1,s2.2.2))
     else
      some (LX.out (y3,s2.1,s2.2.1,s2.2.2))) fun j8=>
   bif j8.1==(-1)then
    some (LO.ret ((⟨7,j8.2.2.2,0,[],false⟩:zk),j8.2.1))
   else
    bif j8.1==41 then
     some (LO.ret ((⟨7,j8.2.2.2,0,[],false⟩:zk),(⟨j8.2.1.s,w64 (j8.2.1.at_+1)⟩:za)))
    else
     zb (zt (!(bif bif bif bif j8.1==34 then true else j8.1==39 then true else j8.1==40 then true else decide (j8.1<=8)then true else j8.1==11)) (qw (j8.1,14,31)) (default:Bool)) fun y9=>
     bif bif bif bif bif bif bif j8.1==34 then true else j8.1==39 then true else j8.1==40 then true else decide (j8.1<=8)then true else j8.1==11 then true else y9 then true else j8.1==127 then
      zb (ZX j8.2.1) fun y10=>
      some (LO.ret (y10.1,y10.2))
     else
      bif j8.1 != 92 then
       zb (qA (wu8 j8.1)) fun y11=>
       need (zO j8.2.2.2.length 1 1)<|
       some (LO.again ((⟨j8.2.1.s,w64 (j8.2.1.at_+1)⟩:za),j8.2.2.1,j8.2.2.2++[y11]))
      else
       zb (zH (0,j8.2.1)) fun y12=>
       bif y12 then
        zb (zV (j8.2.1,j8.2.2.2)) fun y13=>
        some (LO.again (y13.1,j8.2.2.1,y13.2))
       else
        zb (ZX j8.2.1) fun y14=>
        some (LO.ret (y14.1,y14.2)):za×zk×List UInt8->Option (LO (za×zk×List UInt8) (Unit) _)) (y1,(⟨0,[],0,[],false⟩:zk),[]) fun o15=>
 none
def qL(x:za):Option (zk×za):=
 zb (Za x) fun y1=>
 zb (ze (0,y1.2)) fun y2=>
 bif y2 != 40 then
  some ((⟨1,y1.1,0,[],false⟩:zk),y1.2)
 else
  zR (X:=za×zk) (
    zb (ZW (y1.1,[117,114,108])) fun y3=>
    bif y3 then
     zb (zZ (⟨y1.2.s,w64 (y1.2.at_+1)⟩:za)) fun y4=>
     zb (ze (0,y4)) fun y5=>
     bif bif y5 != 34 then y5 != 39 else false then
      zb (QC (⟨y1.2.s,w64 (y1.2.at_+1)⟩:za)) fun y6=>
      some (LX.ret (y6.1,y6.2))
     else
      some (LX.out ((⟨y1.2.s,w64 (y1.2.at_+1)⟩:za),(⟨0,[],0,[],false⟩:zk)))
    else
     some (LX.out ((⟨y1.2.s,w64 (y1.2.at_+1)⟩:za),(⟨0,[],0,[],false⟩:zk)))) fun j7=>
  some ((⟨2,y1.1,0,[],false⟩:zk),j7.1)
def Ql(x:za):Option (zk×za):=
 zb (ze (0,x)) fun y1=>
 need (decide (0<=x.at_)&&decide (x.at_<=(x.s.length:Int)))<|
 zb (Zn y1) fun y2=>
 bif y2 then
  zb (zZ x) fun y3=>
  some ((⟨13,[],0,[],false⟩:zk),y3)
 else
  bif bif y1==34 then true else y1==39 then
   zb (qm x) fun y4=>
   some (y4.1,y4.2)
  else
   zb (zt (y1==35) (ze (1,x)) (default:Int)) fun y5=>
   zb (zt (y1==35) (vg y5) (default:Bool)) fun y6=>
   zb (zt (!y6&&y1==35) (zH (1,x)) (default:Bool)) fun y7=>
   bif bif y1==35 then bif y6 then true else y7 else false then
    zb (zX (1,x)) fun y8=>
    zb (Za (⟨x.s,w64 (x.at_+1)⟩:za)) fun y9=>
    some ((⟨4,y9.1,0,[],y8⟩:zk),y9.2)
   else
    zb (Qu x) fun y10=>
    bif y10 then
     zb (Z9 x) fun y11=>
     some (y11.1,y11.2)
    else
     zb (strings_HasPrefix (List.drop x.at_.toNat x.s,[45,45,62])) fun y12=>
     bif y12 then
      some ((⟨15,[],0,[],false⟩:zk),(⟨x.s,w64 (x.at_+3)⟩:za))
     else
      zb (strings_HasPrefix (List.drop x.at_.toNat x.s,[60,33,45,45])) fun y13=>
      bif y13 then
       some ((⟨14,[],0,[],false⟩:zk),(⟨x.s,w64 (x.at_+4)⟩:za))
      else
       zb (zt (y1==64) (zX (1,x)) (default:Bool)) fun y14=>
       bif bif y1==64 then y14 else false then
        zb (Za (⟨x.s,w64 (x.at_+1)⟩:za)) fun y15=>
        some ((⟨3,y15.1,0,[],false⟩:zk),y15.2)
       else
        zb (zX (0,x)) fun y16=>
        bif y16 then
         zb (qL x) fun y17=>
         some (y17.1,y17.2)
        else
         zb (strings_IndexByte ([58,59,44,91,93,40,41,123,125],wu8 y1)) fun y18=>
         bif decide (y18>=0)then
          some ((⟨wu8 (16+wu8 y18),[],0,[],false⟩:zk),(⟨x.s,w64 (x.at_+1)⟩:za))
         else
          need (decide (1<=((List.drop x.at_.toNat x.s).length:Int)))<|
          some ((⟨9,List.take 1 (List.drop x.at_.toNat x.s),0,[],false⟩:zk),(⟨x.s,w64 (x.at_+1)⟩:za))
def Wp(x:(zk×Int×Int)×List zk):Option (List zk):=
 need (zO x.2.length 1 56)<|
 some (x.2++[x.1.1])
def Kl(x:Str):Option (Int×List zk):=
 zb (Xh x) fun y1=>
 bif y1.2 != 0 then
  some (y1.2,[])
 else
  zb (Zp (⟨y1.1,0⟩:za)) fun y2=>
  Zt (fun(s3:Int×List zk×za)=>
    bif decide (s3.2.2.at_<(y1.1.length:Int))then
     bif decide (w64 (s3.1+1)>1500)then
      some (LO.ret (4,s3.2.1))
     else
      zb (Ql s3.2.2) fun y4=>
      zb (Wp ((y4.1,s3.2.2.at_,y4.2.at_),s3.2.1)) fun y5=>
      zb (Zp y4.2) fun y6=>
      some (LO.again (w64 (s3.1+1),y5,y6))
    else
     some (LO.out (s3.2.1,s3.2.2)):Int×List zk×za->Option (LO (Int×List zk×za) (List zk×za) _)) (0,[],y2) fun o7=>
  some (0,o7.1)
def xg(x:Str):Option (List zk×Int):=
 zb (Kl x) fun y1=>
 bif y1.1 != 0 then
  some ([],y1.1)
 else
  some (y1.2,0)
def Qk(x:List zk×List zk):Option Bool:=
 bif (x.1.length:Int) != (x.2.length:Int)then
  some false
 else
  Zt (fun(s1:Int)=>
    bif decide (s1<(x.1.length:Int))then
     zb (geti x.1 s1) fun y2=>
     zb (geti x.2 s1) fun y3=>
     bif !(y2.kind==y3.kind&&(y2.text==y3.text&&(y2.num==y3.num&&(y2.unit==y3.unit&&(y2.flag==y3.flag&&true)))))then
      some (LO.ret false)
     else
      some (LO.again (w64 (s1+1)))
    else
     some (LO.out ()):Int->Option (LO (Int) (Unit) _)) 0 fun o4=>
  some true
def Ck(x:List zk):Option (Str×Int):=
 zb (pg x) fun y1=>
 bif y1 != 0 then
  some ([],y1)
 else
  Zt (fun(s2:Int×List UInt8×List zM)=>
    bif decide (s2.1<(x.length:Int))then
     need (decide (0<=s2.1)&&decide (s2.1<=(x.length:Int)))<|
     zb (og (List.drop s2.1.toNat x)) fun y3=>
     need (decide (0<=s2.1)&&(decide (s2.1<=w64 (s2.1+y3))&&decide (w64 (s2.1+y3)<=(x.length:Int))))<|
     Zt (fun(s4:Int×List UInt8)=>
       bif decide (s4.1<((List.drop s2.1.toNat (List.take (w64 (s2.1+y3)).toNat x)).length:Int))then
        zb (geti (List.drop s2.1.toNat (List.take (w64 (s2.1+y3)).toNat x)) s4.1) fun y5=>
        zb (Pk (y5,s4.2)) fun y6=>
        some (LO.again (w64 (s4.1+1),y6))
       else
        some (LO.out s4.2):Int×List UInt8->Option (LO (Int×List UInt8) (List UInt8) _)) (0,[]) fun o7=>
     zR (X:=Int×List UInt8×List zM×List UInt8) (
       zb (geti x s2.1) fun y8=>
       bif bif y8.kind==9 then y3==2 else false then
        some (LX.out (s2.1,s2.2.1,s2.2.2,[(92:UInt8),(10:UInt8)]))
       else
        some (LX.out (s2.1,s2.2.1,s2.2.2,o7))) fun j9=>
     zR (X:=Int×List UInt8×List zM×zM) (
       bif decide (w64 ((j9.2.2.1.length:Int) - 4)>=0)then
        need (decide (0<=w64 ((j9.2.2.1.length:Int) - 4))&&decide (w64 ((j9.2.2.1.length:Int) - 4)<(j9.2.2.1.length:Int)))<|
        zb (j9.2.2.1[(w64 ((j9.2.2.1.length:Int) - 4)).toNat]?) fun y10=>
        some (LX.out (j9.1,j9.2.1,j9.2.2.1,y10))
       else
        some (LX.out (j9.1,j9.2.1,j9.2.2.1,(⟨0,0⟩:zM)))) fun j11=>
     need (decide (0<=j11.2.2.2.at_)&&decide (j11.2.2.2.at_<=(j11.2.1.length:Int)))<|
     need (decide (j11.2.2.2.at_.toNat+(j11.2.1.length - j11.2.2.2.at_.toNat)<=j11.2.1.length))<|
     need (QZ (List.take (j11.2.1.length - j11.2.2.2.at_.toNat) (List.drop j11.2.2.2.at_.toNat j11.2.1)).length j9.2.2.2.length)<|
     zb (xg (List.take (j11.2.1.length - j11.2.2.2.at_.toNat) (List.drop j11.2.2.2.at_.toNat j11.2.1)++j9.2.2.2)) fun y12=>
     zR (X:=Int×List zM×List UInt8) (
       need (decide (0<=j11.2.2.2.token)&&(decide (j11.2.2.2.token<=w64 (j11.1+y3))&&decide (w64 (j11.1+y3)<=(x.length:Int)))|| !(!(y12.2 != 0)))<|
       zb (zt (!(y12.2 != 0)) (Qk (y12.1,List.drop j11.2.2.2.token.toNat (List.take (w64 (j11.1+y3)).toNat x))) (default:Bool)) fun y13=>
       bif bif y12.2 != 0 then true else !y13 then
        need (zO j11.2.1.length ([47,42,42,47]:Str).length 1)<|
        some (LX.out (j11.1,j11.2.2.1,j11.2.1++([47,42,42,47]:Str)))
       else
        some (LX.out (j11.1,j11.2.2.1,j11.2.1))) fun j14=>
     need (zO j14.2.1.length 1 16)<|
     need (zO j14.2.2.length j9.2.2.2.length 1)<|
     bif decide (((j14.2.2++j9.2.2.2).length:Int)>4000)then
      some (LO.ret ([],28))
     else
      some (LO.again (w64 (j14.1+y3),j14.2.2++j9.2.2.2,j14.2.1++[(⟨j14.1,(j14.2.2.length:Int)⟩:zM)]))
    else
     some (LO.out s2.2.1):Int×List UInt8×List zM->Option (LO (Int×List UInt8×List zM) (List UInt8) _)) (0,[],[]) fun o15=>
  some (o15,0)
def Sj(x:List zg):Option (Str×Int):=
 zb (ZA x) fun y1=>
 bif y1 != 0 then
  some ([],y1)
 else
  zb (Q9 x) fun y2=>
  zb (Ck y2) fun y3=>
  some (y3.1,y3.2)
def aj(x:zF):Option (Str×Int):=
 zb (Vf x) fun y1=>
 bif y1 != 0 then
  some ([],y1)
 else
  zb (ig x.name) fun y2=>
  bif y2.2 != 0 then
   some ([],y2.2)
  else
   zb (Sj x.value) fun y3=>
   bif y3.2 != 0 then
    some ([],y3.2)
   else
    need (QZ y2.1.length ([58,32]:Str).length)<|
    need (QZ (y2.1++([58,32]:Str)).length y3.1.length)<|
    zR (X:=Str) (
      bif x.important then
       need (QZ (y2.1++([58,32]:Str)++y3.1).length ([32,33,105,109,112,111,114,116,97,110,116]:Str).length)<|
       some (LX.out (y2.1++([58,32]:Str)++y3.1++([32,33,105,109,112,111,114,116,97,110,116]:Str)))
      else
       some (LX.out (y2.1++([58,32]:Str)++y3.1))) fun j4=>
    bif decide ((j4.length:Int)>4000)then
     some ([],28)
    else
     some (j4,0)
def qE(zq:zh×Bool->Option (Str×Bool))(x:zh×Bool):Option (Str×Bool):=
 zb (zq ((⟨x.1.kind,x.1.name,x.1.num,x.1.decl,x.1.list⟩:zh),x.2)) fun y1=>
 zb (kg (⟨x.1.kind,x.1.name,x.1.num,x.1.decl,x.1.list⟩:zh)) fun y2=>
 bif y2 then
  some (y1.1,y1.2)
 else
  need (QZ ([40]:Str).length y1.1.length)<|
  need (QZ (([40]:Str)++y1.1).length ([41]:Str).length)<|
  some (([40]:Str)++y1.1++([41]:Str),y1.2)
def Ji(zq:zh×Bool->Option (Str×Bool))(x:(List zh×Str)×Bool):Option (Str×Bool):=
 Zt (fun(s1:Int×Bool×List Str)=>
   bif decide (s1.1<(x.1.1.length:Int))then
    zb (geti x.1.1 s1.1) fun y2=>
    zb (qE zq ((⟨y2.kind,y2.name,y2.num,y2.decl,y2.list⟩:zh),s1.2.1)) fun y3=>
    need (zO s1.2.2.length 1 16)<|
    some (LO.again (w64 (s1.1+1),y3.2,s1.2.2++[y3.1]))
   else
    some (LO.out (s1.2.1,s1.2.2)):Int×Bool×List Str->Option (LO (Int×Bool×List Str) (Bool×List Str) _)) (0,x.2,[]) fun o4=>
 zb (ve (o4.2,x.1.2)) fun y5=>
 some (y5,o4.1)
def Q8(zq:zh×Bool->Option (Str×Bool))(x:zh×Bool):Option (Str×Bool):=
 bif x.1.kind==7 then
  zb (aj x.1.decl) fun y1=>
  need (QZ ([40]:Str).length y1.1.length)<|
  need (QZ (([40]:Str)++y1.1).length ([41]:Str).length)<|
  some (([40]:Str)++y1.1++([41]:Str),bif x.2 then true else y1.2 != 0)
 else
  bif x.1.kind==8 then
   some ([40,117,110,107,110,111,119,110,41],x.2)
  else
   bif x.1.kind==3 then
    zb (geti x.1.list 0) fun y2=>
    zb (qE zq ((⟨y2.kind,y2.name,y2.num,y2.decl,y2.list⟩:zh),x.2)) fun y3=>
    need (QZ ([110,111,116,32]:Str).length y3.1.length)<|
    some (([110,111,116,32]:Str)++y3.1,y3.2)
   else
    bif x.1.kind==2 then
     zb (Ji zq ((x.1.list,[32,111,114,32]),x.2)) fun y4=>
     some (y4.1,y4.2)
    else
     zb (Ji zq ((x.1.list,[32,97,110,100,32]),x.2)) fun y5=>
     some (y5.1,y5.2)
def zq:zh×Bool->Option (Str×Bool):=recE (Q8)
def Rf(x:zh):Option (Str×Int):=
 zb (Xf (⟨x.kind,x.name,x.num,x.decl,x.list⟩:zh)) fun y1=>
 bif y1 != 0 then
  some ([],y1)
 else
  zR (X:=Str×Bool) (
    zb (qC (⟨x.kind,x.name,x.num,x.decl,x.list⟩:zh)) fun y2=>
    bif y2==0 then
     zb (zQ (⟨x.kind,x.name,x.num,x.decl,x.list⟩:zh)) fun y3=>
     some (LX.out (y3,false))
    else
     zb (zq ((⟨x.kind,x.name,x.num,x.decl,x.list⟩:zh),false)) fun y4=>
     some (LX.out (y4.1,y4.2))) fun j5=>
  bif bif j5.2 then true else decide ((j5.1.length:Int)>4000)then
   some ([],28)
  else
   some (j5.1,0)
def Zz(x:Str):Option (List zg):=
 zb (xg x) fun y1=>
 zb (parseF y1.1) fun y2=>
 bif bif y1.2 != 0 then true else y2.2 != 0 then
  some []
 else
  some y2.1
def Kk(x:List zg×Int):Option (List (List zg)×Int):=
 zb (ZA x.1) fun y1=>
 bif y1 != 0 then
  some ([],y1)
 else
  bif bif decide (x.2<1)then true else decide (x.2>24)then
   some ([],2)
  else
   Zt (fun(s2:(Int×Int)×List (List zg))=>
     bif decide (s2.1.2<(x.1.length:Int))then
      zR (X:=(Int×Int)×List (List zg)) (
        zb (geti x.1 s2.1.2) fun y3=>
        bif y3.token.kind==x.2 then
         need (decide (0<=s2.1.1)&&(decide (s2.1.1<=s2.1.2)&&(decide (s2.1.2<=s2.1.2)&&decide (s2.1.2<=(x.1.length:Int))))&&decide (s2.1.2=s2.1.2))<|
         zb (ZQ (List.drop s2.1.1.toNat (List.take s2.1.2.toNat x.1))) fun y4=>
         need (zO s2.2.length 1 24)<|
         some (LX.out ((w64 (s2.1.2+1),s2.1.2),s2.2++[y4]))
        else
         some (LX.out ((s2.1.1,s2.1.2),s2.2))) fun j5=>
      some (LO.again ((j5.1.1,w64 (j5.1.2+1)),j5.2))
     else
      some (LO.out (s2.1.1,s2.2)):(Int×Int)×List (List zg)->Option (LO ((Int×Int)×List (List zg)) (Int×List (List zg)) _)) ((0,0),[]) fun o6=>
   need (decide (0<=o6.1)&&decide (o6.1<=(x.1.length:Int)))<|
   zb (ZQ (List.drop o6.1.toNat x.1)) fun y7=>
   need (zO o6.2.length 1 24)<|
   some (o6.2++[y7],0)
def zB(x:zf):Option Int:=
 bif (x.v.length:Int)==0 then
  some 0
 else
  zb (geti x.v 0) fun y1=>
  some y1.token.kind
def zC(x:zf):Option (zg×zf):=
 zb (geti x.v 0) fun y1=>
 need (decide (1<=(x.v.length:Int)))<|
 some ((⟨y1.token,y1.list⟩:zg),(⟨List.drop 1 x.v⟩:zf))
def zw(x:zf):Option (Bool×zf):=
 Zt (fun(s1:zf)=>
   zb (zB s1) fun y2=>
   bif y2==13 then
    zb (zC s1) fun y3=>
    some (LO.again y3.2)
   else
    some (LO.out s1):zf->Option (LO (zf) (zf) _)) x fun o4=>
 some (decide ((o4.v.length:Int)<(x.v.length:Int)),o4)
def Zc(x:List Str×zf):Option (Str×zf):=
 Zt (fun(s1:Int×zf)=>
   bif decide (s1.1<(x.1.length:Int))then
    zb (geti x.1 s1.1) fun y2=>
    zb (zB s1.2) fun y3=>
    zb (zt (y3==1) (geti s1.2.v 0) (default:zg)) fun y4=>
    zb (zt (y3==1) (ZW (y4.token.text,y2)) (default:Bool)) fun y5=>
    bif bif y3==1 then y5 else false then
     zb (zC s1.2) fun y6=>
     some (LO.ret (y2,y6.2))
    else
     some (LO.again (w64 (s1.1+1),s1.2))
   else
    some (LO.out s1.2):Int×zf->Option (LO (Int×zf) (zf) _)) (0,x.2) fun o7=>
 some ([],o7)
def ZU(x:zf):Option ((zh×Bool)×zf):=
 zb (zB x) fun y1=>
 bif y1 != 21 then
  some (((⟨0,[],0,(⟨[],[],false⟩:zF),[]⟩:zh),false),x)
 else
  zb (zC x) fun y2=>
  zb (zw (⟨y2.1.list⟩:zf)) fun y3=>
  zR (X:=(Int×Str×Int×Str×Bool)×zf×(Int×Str×Int×Str×Bool)) (
    zb (Zc ([[109,105,110,45,119,105,100,116,104],[109,97,120,45,119,105,100,116,104]],y3.2)) fun y4=>
    bif y4.1==[]then
     some (LX.ret (((⟨5,[],0,(⟨[],[],false⟩:zF),[]⟩:zh),false),y2.2))
    else
     bif y4.1==[109,97,120,45,119,105,100,116,104]then
      some (LX.out ((0,[],0,[],false),y4.2,(6,[],0,[],false)))
     else
      some (LX.out ((0,[],0,[],false),y4.2,(5,[],0,[],false)))) fun j5=>
  zb (zw j5.2.1) fun y6=>
  zb (zB y6.2) fun y7=>
  bif y7 != 16 then
   some (((⟨j5.2.2.1,j5.2.2.2.1,j5.2.2.2.2.1,(⟨j5.2.2.2.2.2.1,[],j5.2.2.2.2.2.2⟩:zF),[]⟩:zh),false),y2.2)
  else
   zb (zC y6.2) fun y8=>
   zb (zw y8.2) fun y9=>
   zb (zB y9.2) fun y10=>
   zb (zt (y10 != 12) (zB y9.2) (default:Int)) fun y11=>
   bif bif y10 != 12 then y11 != 10 else false then
    some (((⟨j5.2.2.1,j5.2.2.2.1,j5.2.2.2.2.1,(⟨j5.2.2.2.2.2.1,[],j5.2.2.2.2.2.2⟩:zF),[]⟩:zh),false),y2.2)
   else
    zb (zC y9.2) fun y12=>
    zb (zw y12.2) fun y13=>
    zb (zt (y12.1.token.kind==12) (ZW (y12.1.token.unit,[112,120])) (default:Bool)) fun y14=>
    zb (zt (bif bif bif y12.1.token.kind==12 then y14 else false then true else bif y12.1.token.kind==10 then y12.1.token.num==0 else false then decide (y12.1.token.num>=0)else false) (Ah y12.1.token.num) (default:Int)) fun y15=>
    some (((⟨j5.2.2.1,j5.2.2.2.1,y12.1.token.num,(⟨j5.2.2.2.2.2.1,[],j5.2.2.2.2.2.2⟩:zF),[]⟩:zh),bif bif bif bif bif y12.1.token.kind==12 then y14 else false then true else bif y12.1.token.kind==10 then y12.1.token.num==0 else false then decide (y12.1.token.num>=0)else false then y15==0 else false then(y13.2.v.length:Int)==0 else false),y2.2)
def Qx(x:zf):Option ((zh×Bool)×zf):=
 zb (zw x) fun y1=>
 zb (Zc ([[110,111,116],[111,110,108,121]],y1.2)) fun y2=>
 zb (zw y2.2) fun y3=>
 zR (X:=zf×(Int×Str×Int×Str×Bool)×(Int×Str×Int×Str×Bool)×List zh) (
   zb (zB y3.2) fun y4=>
   bif y4==1 then
    zb (zC y3.2) fun y5=>
    zb (ZJ y5.1.token.text) fun y6=>
    zb (Bh y6) fun y7=>
    bif !y7 then
     some (LX.ret (((⟨1,[],0,(⟨[],[],false⟩:zF),[]⟩:zh),false),y5.2))
    else
     need (zO 0 1 104)<|
     some (LX.out (y5.2,(0,[],0,[],false),(1,[],0,[],false),[(⟨4,y6,0,(⟨[],[],false⟩:zF),[]⟩:zh)]))
   else
    zb (ZU y3.2) fun y8=>
    bif bif !y8.1.2 then true else !(y2.1==[])then
     some (LX.ret (((⟨1,[],0,(⟨[],[],false⟩:zF),[]⟩:zh),false),y8.2))
    else
     need (zO 0 1 104)<|
     some (LX.out (y8.2,(0,[],0,[],false),(1,[],0,[],false),[(⟨y8.1.1.kind,y8.1.1.name,y8.1.1.num,y8.1.1.decl,y8.1.1.list⟩:zh)]))) fun j9=>
 zb (zw j9.1) fun y10=>
 Zt (fun(s11:zf×(Int×Str×Int×Str×Bool)×(Int×Str×Int×Str×Bool)×List zh)=>
   bif decide ((s11.1.v.length:Int)>0)then
    zb (Zc ([[97,110,100]],s11.1)) fun y12=>
    bif y12.1==[]then
     some (LO.ret (((⟨s11.2.2.1.1,s11.2.2.1.2.1,s11.2.2.1.2.2.1,(⟨s11.2.2.1.2.2.2.1,[],s11.2.2.1.2.2.2.2⟩:zF),s11.2.2.2⟩:zh),false),y12.2))
    else
     zb (zw y12.2) fun y13=>
     zb (ZU y13.2) fun y14=>
     bif !y14.1.2 then
      some (LO.ret (((⟨s11.2.2.1.1,s11.2.2.1.2.1,s11.2.2.1.2.2.1,(⟨s11.2.2.1.2.2.2.1,[],s11.2.2.1.2.2.2.2⟩:zF),s11.2.2.2⟩:zh),false),y14.2))
     else
      need (zO s11.2.2.2.length 1 104)<|
      zb (zw y14.2) fun y15=>
      some (LO.again (y15.2,(s11.2.1.1,s11.2.1.2.1,s11.2.1.2.2.1,s11.2.1.2.2.2.1,s11.2.1.2.2.2.2),(s11.2.2.1.1,s11.2.2.1.2.1,s11.2.2.1.2.2.1,s11.2.2.1.2.2.2.1,s11.2.2.1.2.2.2.2),s11.2.2.2++[(⟨y14.1.1.kind,y14.1.1.name,y14.1.1.num,y14.1.1.decl,y14.1.1.list⟩:zh)]))
   else
    some (LO.out (s11.1,(s11.2.1.1,s11.2.1.2.1,s11.2.1.2.2.1,s11.2.1.2.2.2.1,s11.2.1.2.2.2.2),(s11.2.2.1.1,s11.2.2.1.2.1,s11.2.2.1.2.2.1,s11.2.2.1.2.2.2.1,s11.2.2.1.2.2.2.2),s11.2.2.2)):zf×(Int×Str×Int×Str×Bool)×(Int×Str×Int×Str×Bool)×List zh->Option (LO (zf×(Int×Str×Int×Str×Bool)×(Int×Str×Int×Str×Bool)×List zh) (zf×(Int×Str×Int×Str×Bool)×(Int×Str×Int×Str×Bool)×List zh) _)) (y10.2,(j9.2.1.1,j9.2.1.2.1,j9.2.1.2.2.1,j9.2.1.2.2.2.1,j9.2.1.2.2.2.2),(j9.2.2.1.1,j9.2.2.1.2.1,j9.2.2.1.2.2.1,j9.2.2.1.2.2.2.1,j9.2.2.1.2.2.2.2),j9.2.2.2) fun o16=>
 zR (X:=(Int×Str×Int×Str×Bool)×(Int×Str×Int×Str×Bool×List zh)) (
   bif y2.1==[110,111,116]then
    some (LX.out ((o16.2.1.1,o16.2.1.2.1,o16.2.1.2.2.1,o16.2.1.2.2.2.1,o16.2.1.2.2.2.2),(3,[],0,[],false,[(⟨o16.2.2.1.1,o16.2.2.1.2.1,o16.2.2.1.2.2.1,(⟨o16.2.2.1.2.2.2.1,[],o16.2.2.1.2.2.2.2⟩:zF),o16.2.2.2⟩:zh)])))
   else
    some (LX.out ((o16.2.1.1,o16.2.1.2.1,o16.2.1.2.2.1,o16.2.1.2.2.2.1,o16.2.1.2.2.2.2),(o16.2.2.1.1,o16.2.2.1.2.1,o16.2.2.1.2.2.1,o16.2.2.1.2.2.2.1,o16.2.2.1.2.2.2.2,o16.2.2.2)))) fun j17=>
 some (((⟨j17.2.1,j17.2.2.1,j17.2.2.2.1,(⟨j17.2.2.2.2.1,[],j17.2.2.2.2.2.1⟩:zF),j17.2.2.2.2.2.2⟩:zh),true),o16.1)
def Yf(x:List zg):Option (zh×Int):=
 zb (Kk (x,18)) fun y1=>
 bif y1.2 != 0 then
  some ((⟨0,[],0,(⟨[],[],false⟩:zF),[]⟩:zh),y1.2)
 else
  zR (X:=Int×Str×Int×Str×Bool) (
    bif (y1.1.length:Int)==1 then
     zb (zw (⟨x⟩:zf)) fun y2=>
     bif (y2.2.v.length:Int)==0 then
      some (LX.ret ((⟨1,[],0,(⟨[],[],false⟩:zF),[]⟩:zh),0))
     else
      some (LX.out (0,[],0,[],false))
    else
     some (LX.out (0,[],0,[],false))) fun j3=>
  bif decide ((y1.1.length:Int)>64)then
   some ((⟨0,[],0,(⟨[],[],false⟩:zF),[]⟩:zh),4)
  else
   Zt (fun(s4:Int×(Int×Str×Int×Str×Bool)×List zh)=>
     bif decide (s4.1<(y1.1.length:Int))then
      zb (geti y1.1 s4.1) fun y5=>
      zb (Qx (⟨y5⟩:zf)) fun y6=>
      zR (X:=(Int×Str×Int×Str×Bool)×List zh×zh) (
        bif !y6.1.2 then
         some (LX.out ((s4.2.1.1,s4.2.1.2.1,s4.2.1.2.2.1,s4.2.1.2.2.2.1,s4.2.1.2.2.2.2),s4.2.2,(⟨3,[],0,(⟨[],[],false⟩:zF),[(⟨1,[],0,(⟨[],[],false⟩:zF),[(⟨4,[97,108,108],0,(⟨[],[],false⟩:zF),[]⟩:zh)]⟩:zh)]⟩:zh)))
        else
         some (LX.out ((s4.2.1.1,s4.2.1.2.1,s4.2.1.2.2.1,s4.2.1.2.2.2.1,s4.2.1.2.2.2.2),s4.2.2,(⟨y6.1.1.kind,y6.1.1.name,y6.1.1.num,y6.1.1.decl,y6.1.1.list⟩:zh)))) fun j7=>
      need (zO j7.2.1.length 1 104)<|
      some (LO.again (w64 (s4.1+1),(j7.1.1,j7.1.2.1,j7.1.2.2.1,j7.1.2.2.2.1,j7.1.2.2.2.2),j7.2.1++[(⟨j7.2.2.kind,j7.2.2.name,j7.2.2.num,j7.2.2.decl,j7.2.2.list⟩:zh)]))
     else
      some (LO.out ((s4.2.1.1,s4.2.1.2.1,s4.2.1.2.2.1,s4.2.1.2.2.2.1,s4.2.1.2.2.2.2),s4.2.2)):Int×(Int×Str×Int×Str×Bool)×List zh->Option (LO (Int×(Int×Str×Int×Str×Bool)×List zh) ((Int×Str×Int×Str×Bool)×List zh) _)) (0,(2,[],0,[],false),[]) fun o8=>
   some ((⟨o8.1.1,o8.1.2.1,o8.1.2.2.1,(⟨o8.1.2.2.2.1,[],o8.1.2.2.2.2⟩:zF),o8.2⟩:zh),0)
def zU(x:Str×Str×Int×Int):Option Bool:=
 zb (Zz x.1) fun y1=>
 zb (Yf y1) fun y2=>
 zb (Rf (⟨y2.1.kind,y2.1.name,y2.1.num,y2.1.decl,y2.1.list⟩:zh)) fun y3=>
 bif bif bif y2.2 != 0 then true else y3.2 != 0 then true else !(y3.1==x.2.1)then
  some false
 else
  Zt (fun(s4:Int)=>
    bif decide (s4<30)then
     zb (qU ((⟨y2.1.kind,y2.1.name,y2.1.num,y2.1.decl,y2.1.list⟩:zh),(⟨s4⟩:VEnv),[])) fun y5=>
     bif bif y5.2 != 0 then true else !(y5.1==(bif decide (s4>=x.2.2.1)then decide (s4<=x.2.2.2)else false))then
      some (LO.ret false)
     else
      some (LO.again (w64 (s4+1)))
    else
     some (LO.out ()):Int->Option (LO (Int) (Unit) _)) 0 fun o6=>
  some true
def jg(x:List zg):Option (List zg):=
 Zt (fun(s1:List zg)=>
   zb (zt (decide ((s1.length:Int)>0)) (geti s1 0) (default:zg)) fun y2=>
   zb (zt (decide ((s1.length:Int)>0)) (ZG ((⟨y2.token,y2.list⟩:zg),13)) (default:Bool)) fun y3=>
   bif bif decide ((s1.length:Int)>0)then y3 else false then
    need (decide (1<=(s1.length:Int)))<|
    some (LO.again (List.drop 1 s1))
   else
    some (LO.out s1):List zg->Option (LO (List zg) (List zg) _)) x fun o4=>
 some o4
def ug(x:List zg):Option (List zg):=
 Zt (fun(s1:List zg)=>
   zb (zt (decide ((s1.length:Int)>0)) (geti s1 (w64 ((s1.length:Int) - 1))) (default:zg)) fun y2=>
   zb (zt (decide ((s1.length:Int)>0)) (ZG ((⟨y2.token,y2.list⟩:zg),13)) (default:Bool)) fun y3=>
   bif bif decide ((s1.length:Int)>0)then y3 else false then
    need (decide (0<=w64 ((s1.length:Int) - 1))&&decide (w64 ((s1.length:Int) - 1)<=(s1.length:Int)))<|
    some (LO.again (List.take (w64 ((s1.length:Int) - 1)).toNat s1))
   else
    some (LO.out s1):List zg->Option (LO (List zg) (List zg) _)) x fun o4=>
 some o4
def Pj(x:List zg):Option (zF×Bool):=
 zb (jg x) fun y1=>
 zb (ug y1) fun y2=>
 zb (zt (!((y2.length:Int)==0)) (geti y2 0) (default:zg)) fun y3=>
 zb (zt (!((y2.length:Int)==0)) (ZG ((⟨y3.token,y3.list⟩:zg),1)) (default:Bool)) fun y4=>
 bif bif (y2.length:Int)==0 then true else !y4 then
  some ((⟨[],[],false⟩:zF),false)
 else
  zb (geti y2 0) fun y5=>
  zR (X:=List zg×(Str×Bool)×(Str×Bool)) (
    zb (strings_HasPrefix (y5.token.text,[45,45])) fun y6=>
    bif !y6 then
     zb (ZJ y5.token.text) fun y7=>
     some (LX.out (y2,([],false),(y7,false)))
    else
     some (LX.out (y2,([],false),(y5.token.text,false)))) fun j8=>
  need (decide (1<=(j8.1.length:Int)))<|
  zb (jg (List.drop 1 j8.1)) fun y9=>
  zb (zt (!((y9.length:Int)==0)) (geti y9 0) (default:zg)) fun y10=>
  zb (zt (!((y9.length:Int)==0)) (ZG ((⟨y10.token,y10.list⟩:zg),16)) (default:Bool)) fun y11=>
  bif bif (y9.length:Int)==0 then true else !y11 then
   some ((⟨[],[],false⟩:zF),false)
  else
   need (decide (1<=(y9.length:Int)))<|
   zb (jg (List.drop 1 y9)) fun y12=>
   zR (X:=List zg×(Str×Bool)×(Str×Bool)) (
     zb (zt (decide (w64 ((y12.length:Int) - 1)>0)) (geti y12 (w64 ((y12.length:Int) - 1))) (default:zg)) fun y13=>
     zb (zt (decide (w64 ((y12.length:Int) - 1)>0)) (ZG ((⟨y13.token,y13.list⟩:zg),1)) (default:Bool)) fun y14=>
     zb (zt (bif decide (w64 ((y12.length:Int) - 1)>0)then y14 else false) (geti y12 (w64 ((y12.length:Int) - 1))) (default:zg)) fun y15=>
     zb (zt (bif decide (w64 ((y12.length:Int) - 1)>0)then y14 else false) (ZW (y15.token.text,[105,109,112,111,114,116,97,110,116])) (default:Bool)) fun y16=>
     bif bif bif decide (w64 ((y12.length:Int) - 1)>0)then y14 else false then y16 else false then
      need (decide (0<=w64 ((y12.length:Int) - 1))&&decide (w64 ((y12.length:Int) - 1)<=(y12.length:Int)))<|
      zb (ug (List.take (w64 ((y12.length:Int) - 1)).toNat y12)) fun y17=>
      zb (zt (decide ((y17.length:Int)>0)) (geti y17 (w64 ((y17.length:Int) - 1))) (default:zg)) fun y18=>
      zb (zt (decide ((y17.length:Int)>0)) (Ai (⟨y18.token,y18.list⟩:zg)) (default:Bool)) fun y19=>
      bif bif decide ((y17.length:Int)>0)then y19 else false then
       need (decide (0<=w64 ((y17.length:Int) - 1))&&decide (w64 ((y17.length:Int) - 1)<=(y17.length:Int)))<|
       zb (ug (List.take (w64 ((y17.length:Int) - 1)).toNat y17)) fun y20=>
       some (LX.out (y20,(j8.2.1.1,j8.2.1.2),(j8.2.2.1,true)))
      else
       some (LX.out (y12,(j8.2.1.1,j8.2.1.2),(j8.2.2.1,j8.2.2.2)))
     else
      some (LX.out (y12,(j8.2.1.1,j8.2.1.2),(j8.2.2.1,j8.2.2.2)))) fun j21=>
   zb (ag j21.1) fun y22=>
   zb (zt (!(y22.2 != 0)) (Vf (⟨j21.2.2.1,y22.1,j21.2.2.2⟩:zF)) (default:Int)) fun y23=>
   bif bif y22.2 != 0 then true else y23 != 0 then
    some ((⟨[],[],false⟩:zF),false)
   else
    some ((⟨j21.2.2.1,y22.1,j21.2.2.2⟩:zF),true)
def Rj(x:List zg):Option (zF×Bool×Int):=
 zb (ZA x) fun y1=>
 bif y1 != 0 then
  some ((⟨[],[],false⟩:zF),false,y1)
 else
  zb (Pj x) fun y2=>
  some (y2.1,y2.2,0)
def qg(zu:zf->Option ((zh×Bool)×zf))(x:zf):Option ((zh×Bool)×zf):=
 zb (zB x) fun y1=>
 bif y1==2 then
  zb (zC x) fun y2=>
  some (((⟨8,[],0,(⟨[],[],false⟩:zF),[]⟩:zh),true),y2.2)
 else
  bif y1==21 then
   zb (zC x) fun y3=>
   zb (Rj y3.1.list) fun y4=>
   bif bif y4.2.2==0 then y4.2.1 else false then
    some (((⟨7,[],0,y4.1,[]⟩:zh),true),y3.2)
   else
    zb (zu (⟨y3.1.list⟩:zf)) fun y5=>
    bif y5.1.2 then
     some (((⟨y5.1.1.kind,y5.1.1.name,y5.1.1.num,y5.1.1.decl,y5.1.1.list⟩:zh),true),y3.2)
    else
     some (((⟨8,[],0,(⟨[],[],false⟩:zF),[]⟩:zh),true),y3.2)
  else
   some (((⟨8,[],0,(⟨[],[],false⟩:zF),[]⟩:zh),false),x)
def Qb(zu:zf->Option ((zh×Bool)×zf))(x:zf):Option ((zh×Bool)×zf):=
 zb (zw x) fun y1=>
 zb (Zc ([[110,111,116]],y1.2)) fun y2=>
 bif !(y2.1==[])then
  zb (zw y2.2) fun y3=>
  zb (qg zu y3.2) fun y4=>
  zb (zw y4.2) fun y5=>
  some (((⟨3,[],0,(⟨[],[],false⟩:zF),[(⟨y4.1.1.kind,y4.1.1.name,y4.1.1.num,y4.1.1.decl,y4.1.1.list⟩:zh)]⟩:zh),bif bif y4.1.2 then y3.1 else false then(y5.2.v.length:Int)==0 else false),y5.2)
 else
  zb (qg zu y2.2) fun y6=>
  bif !y6.1.2 then
   some (((⟨y6.1.1.kind,y6.1.1.name,y6.1.1.num,y6.1.1.decl,y6.1.1.list⟩:zh),false),y6.2)
  else
   zb (zw y6.2) fun y7=>
   bif (y7.2.v.length:Int)==0 then
    some (((⟨y6.1.1.kind,y6.1.1.name,y6.1.1.num,y6.1.1.decl,y6.1.1.list⟩:zh),true),y7.2)
   else
    Zt (fun(s8:Bool×zf×(Int×Str×Int×Str×Bool)×(Int×Str×Int×Str×Bool)×List zh)=>
      bif decide ((s8.2.1.v.length:Int)>0)then
       zb (Zc ([[97,110,100],[111,114]],s8.2.1)) fun y9=>
       bif bif bif (bif y9.1==[97,110,100]then 1 else bif y9.1==[111,114]then 2 else(0:Int))==0 then true else !s8.1 then true else bif s8.2.2.2.1.1 != 0 then s8.2.2.2.1.1 != (bif y9.1==[97,110,100]then 1 else bif y9.1==[111,114]then 2 else(0:Int))else false then
        some (LO.ret (((⟨s8.2.2.2.1.1,s8.2.2.2.1.2.1,s8.2.2.2.1.2.2.1,(⟨s8.2.2.2.1.2.2.2.1,[],s8.2.2.2.1.2.2.2.2⟩:zF),s8.2.2.2.2⟩:zh),false),y9.2))
       else
        zb (zw y9.2) fun y10=>
        zb (qg zu y10.2) fun y11=>
        bif bif !y10.1 then true else !y11.1.2 then
         some (LO.ret (((⟨bif y9.1==[97,110,100]then 1 else bif y9.1==[111,114]then 2 else(0:Int),s8.2.2.2.1.2.1,s8.2.2.2.1.2.2.1,(⟨s8.2.2.2.1.2.2.2.1,[],s8.2.2.2.1.2.2.2.2⟩:zF),s8.2.2.2.2⟩:zh),false),y11.2))
        else
         need (zO s8.2.2.2.2.length 1 104)<|
         zb (zw y11.2) fun y12=>
         some (LO.again (y12.1,y12.2,(s8.2.2.1.1,s8.2.2.1.2.1,s8.2.2.1.2.2.1,s8.2.2.1.2.2.2.1,s8.2.2.1.2.2.2.2),(bif y9.1==[97,110,100]then 1 else bif y9.1==[111,114]then 2 else(0:Int),s8.2.2.2.1.2.1,s8.2.2.2.1.2.2.1,s8.2.2.2.1.2.2.2.1,s8.2.2.2.1.2.2.2.2),s8.2.2.2.2++[(⟨y11.1.1.kind,y11.1.1.name,y11.1.1.num,y11.1.1.decl,y11.1.1.list⟩:zh)]))
      else
       some (LO.out (s8.2.1,(s8.2.2.1.1,s8.2.2.1.2.1,s8.2.2.1.2.2.1,s8.2.2.1.2.2.2.1,s8.2.2.1.2.2.2.2),(s8.2.2.2.1.1,s8.2.2.2.1.2.1,s8.2.2.2.1.2.2.1,s8.2.2.2.1.2.2.2.1,s8.2.2.2.1.2.2.2.2),s8.2.2.2.2)):Bool×zf×(Int×Str×Int×Str×Bool)×(Int×Str×Int×Str×Bool)×List zh->Option (LO (Bool×zf×(Int×Str×Int×Str×Bool)×(Int×Str×Int×Str×Bool)×List zh) (zf×(Int×Str×Int×Str×Bool)×(Int×Str×Int×Str×Bool)×List zh) _)) (y7.1,y7.2,(0,[],0,[],false),(0,[],0,[],false),[(⟨y6.1.1.kind,y6.1.1.name,y6.1.1.num,y6.1.1.decl,y6.1.1.list⟩:zh)]) fun o13=>
    some (((⟨o13.2.2.1.1,o13.2.2.1.2.1,o13.2.2.1.2.2.1,(⟨o13.2.2.1.2.2.2.1,[],o13.2.2.1.2.2.2.2⟩:zF),o13.2.2.2⟩:zh),true),o13.1)
def zu:zf->Option ((zh×Bool)×zf):=recE (Qb)
def qY(x:List zg):Option (zh×Int):=
 zb (ZA x) fun y1=>
 bif y1 != 0 then
  some ((⟨0,[],0,(⟨[],[],false⟩:zF),[]⟩:zh),y1)
 else
  zb (zu (⟨x⟩:zf)) fun y2=>
  zb (zt (!(!y2.1.2)) (zW (⟨y2.1.1.kind,y2.1.1.name,y2.1.1.num,y2.1.1.decl,y2.1.1.list⟩:zh)) (default:Int)) fun y3=>
  bif bif !y2.1.2 then true else y3 != 0 then
   some ((⟨0,[],0,(⟨[],[],false⟩:zF),[]⟩:zh),12)
  else
   some ((⟨y2.1.1.kind,y2.1.1.name,y2.1.1.num,y2.1.1.decl,y2.1.1.list⟩:zh),0)
def Pp(x:Int×List Bool):Option (Bool×Int):=
 need (decide (0<=w64 (w64 (x.1+1) - 1))&&decide (w64 (w64 (x.1+1) - 1)<(x.2.length:Int)))<|
 zb (x.2[(w64 (w64 (x.1+1) - 1)).toNat]?) fun y1=>
 some (y1,w64 (x.1+1))
def Vl(Zg:(zh×Int)×Int×List Bool->Option (Bool×Int))(x:(zh×Int)×Int×List Bool):Option (Bool×Int):=
 bif x.1.1.kind==4 then
  some (bif x.1.1.name==[97,108,108]then true else x.1.1.name==[115,99,114,101,101,110],x.2.1)
 else
  bif x.1.1.kind==5 then
   some (decide (x.1.2>=x.1.1.num),x.2.1)
  else
   bif x.1.1.kind==6 then
    some (decide (x.1.2<=x.1.1.num),x.2.1)
   else
    bif x.1.1.kind==7 then
     zb (Pp (x.2.1,x.2.2)) fun y1=>
     some (y1.1,y1.2)
    else
     bif x.1.1.kind==8 then
      some (false,x.2.1)
     else
      Zt (fun(s2:(Bool×Bool×Int)×Int)=>
        bif decide (s2.1.2.2<(x.1.1.list.length:Int))then
         zb (geti x.1.1.list s2.1.2.2) fun y3=>
         zb (Zg (((⟨y3.kind,y3.name,y3.num,y3.decl,y3.list⟩:zh),x.1.2),s2.2,x.2.2)) fun y4=>
         some (LO.again ((bif s2.1.1 then y4.1 else false,bif s2.1.2.1 then true else y4.1,w64 (s2.1.2.2+1)),y4.2))
        else
         some (LO.out ((s2.1.1,s2.1.2.1),s2.2)):(Bool×Bool×Int)×Int->Option (LO ((Bool×Bool×Int)×Int) ((Bool×Bool)×Int) _)) ((true,false,0),x.2.1) fun o5=>
      bif x.1.1.kind==1 then
       some (o5.1.1,o5.2)
      else
       bif x.1.1.kind==2 then
        some (o5.1.2,o5.2)
       else
        some (!o5.1.2,o5.2)
def Zg:(zh×Int)×Int×List Bool->Option (Bool×Int):=recE (Vl)
def Wi(x:(zh×VEnv)×List Bool):Option (Bool×Int):=
 zb (Xf (⟨x.1.1.kind,x.1.1.name,x.1.1.num,x.1.1.decl,x.1.1.list⟩:zh)) fun y1=>
 bif y1 != 0 then
  some (false,y1)
 else
  zb (zt (!(bif decide (x.1.2.width<0)then true else decide (x.1.2.width>1000000000))) (Zk (⟨x.1.1.kind,x.1.1.name,x.1.1.num,x.1.1.decl,x.1.1.list⟩:zh)) (default:List zF)) fun y2=>
  bif bif bif decide (x.1.2.width<0)then true else decide (x.1.2.width>1000000000)then true else(x.2.length:Int) != (y2.length:Int)then
   some (false,2)
  else
   zb (Zg (((⟨x.1.1.kind,x.1.1.name,x.1.1.num,x.1.1.decl,x.1.1.list⟩:zh),w64 (1000*x.1.2.width)),0,x.2)) fun y3=>
   some (y3.1,0)
def zY(x:Str×Str×Bool×Bool):Option Bool:=
 zb (Zz x.1) fun y1=>
 zb (qY y1) fun y2=>
 zb (Rf (⟨y2.1.kind,y2.1.name,y2.1.num,y2.1.decl,y2.1.list⟩:zh)) fun y3=>
 zb (mg (⟨y2.1.kind,y2.1.name,y2.1.num,y2.1.decl,y2.1.list⟩:zh)) fun y4=>
 bif bif bif bif y2.2 != 0 then true else y3.2 != 0 then true else y4.2 != 0 then true else !(y3.1==x.2.1)then
  some false
 else
  need (decide (0<=(y4.1.length:Int))&&decide ((y4.1.length:Int)<=(y4.1.length:Int))&&decide ((y4.1.length:Int)*1<=140737488355328)&&decide ((y4.1.length:Int)<=9223372036854775807))<|
  zb (Wi (((⟨y2.1.kind,y2.1.name,y2.1.num,y2.1.decl,y2.1.list⟩:zh),(⟨0⟩:VEnv)),List.replicate (Int.toNat (y4.1.length:Int)) false)) fun y5=>
  Zt (fun(s6:Int×List Bool)=>
    bif decide (s6.1<(s6.2.length:Int))then
     need (decide (0<=s6.1)&&decide (s6.1<(s6.2.length:Int)))<|
     zb s6.2[s6.1.toNat]? fun y7=>
     some (LO.again (w64 (s6.1+1),List.set s6.2 s6.1.toNat true))
    else
     some (LO.out s6.2):Int×List Bool->Option (LO (Int×List Bool) (List Bool) _)) (0,List.replicate (Int.toNat (y4.1.length:Int)) false) fun o8=>
  zb (Wi (((⟨y2.1.kind,y2.1.name,y2.1.num,y2.1.decl,y2.1.list⟩:zh),(⟨0⟩:VEnv)),o8)) fun y9=>
  some (bif bif bif y5.2==0 then y9.2==0 else false then y5.1==x.2.2.2 else false then y9.1==x.2.2.1 else false)
def Nk(x:Unit):Option Bool:=
 zb (zU ([83,99,114,101,101,110,32,65,78,68,32,40,109,105,110,45,119,105,100,116,104,58,49,48,46,53,112,120,41,44,32,40,102,111,111,41],[115,99,114,101,101,110,32,97,110,100,32,40,109,105,110,45,119,105,100,116,104,58,32,49,48,46,53,112,120,41,44,32,110,111,116,32,97,108,108],11,99)) fun y1=>
 zb (zt y1 (zY ([110,111,116,32,40,40,97,58,98,41,32,111,114,32,40,99,41,41],[110,111,116,32,40,40,97,58,32,98,41,32,111,114,32,40,117,110,107,110,111,119,110,41,41],false,true)) (default:Bool)) fun y2=>
 some (bif y1 then y2 else false)
def Ep(x:Unit):Option Bool:=
 zb (zU ([],[],0,99)) fun y1=>
 zb (zt y1 (zU ([32,10],[],0,99)) (default:Bool)) fun y2=>
 zb (zt (bif y1 then y2 else false) (zU ([97,108,108],[97,108,108],0,99)) (default:Bool)) fun y3=>
 zb (zt (bif bif y1 then y2 else false then y3 else false) (zU ([112,114,105,110,116],[112,114,105,110,116],1,0)) (default:Bool)) fun y4=>
 zb (zt (bif bif bif y1 then y2 else false then y3 else false then y4 else false) (zU ([110,111,116,32,112,114,105,110,116],[110,111,116,32,112,114,105,110,116],0,99)) (default:Bool)) fun y5=>
 zb (zt (bif bif bif bif y1 then y2 else false then y3 else false then y4 else false then y5 else false) (zU ([111,110,108,121,32,115,99,114,101,101,110],[115,99,114,101,101,110],0,99)) (default:Bool)) fun y6=>
 zb (zt (bif bif bif bif bif y1 then y2 else false then y3 else false then y4 else false then y5 else false then y6 else false) (zU ([40,109,105,110,45,119,105,100,116,104,58,53,112,120,41,32,97,110,100,32,40,32,77,65,88,45,87,73,68,84,72,32,58,32,55,80,88,32,41],[40,109,105,110,45,119,105,100,116,104,58,32,53,112,120,41,32,97,110,100,32,40,109,97,120,45,119,105,100,116,104,58,32,55,112,120,41],5,7)) (default:Bool)) fun y7=>
 zb (zt (bif bif bif bif bif bif y1 then y2 else false then y3 else false then y4 else false then y5 else false then y6 else false then y7 else false) (zU ([110,111,116,32,115,99,114,101,101,110,32,97,110,100,32,40,109,105,110,45,119,105,100,116,104,58,53,112,120,41],[110,111,116,32,115,99,114,101,101,110,32,97,110,100,32,40,109,105,110,45,119,105,100,116,104,58,32,53,112,120,41],0,4)) (default:Bool)) fun y8=>
 zb (zt (bif bif bif bif bif bif bif y1 then y2 else false then y3 else false then y4 else false then y5 else false then y6 else false then y7 else false then y8 else false) (zU ([40,109,97,120,45,119,105,100,116,104,58,48,41],[40,109,97,120,45,119,105,100,116,104,58,32,48,112,120,41],0,0)) (default:Bool)) fun y9=>
 zb (zt (bif bif bif bif bif bif bif bif y1 then y2 else false then y3 else false then y4 else false then y5 else false then y6 else false then y7 else false then y8 else false then y9 else false) (zU ([112,114,105,110,116,44,40,109,105,110,45,119,105,100,116,104,58,57,112,120,41],[112,114,105,110,116,44,32,40,109,105,110,45,119,105,100,116,104,58,32,57,112,120,41],9,99)) (default:Bool)) fun y10=>
 zb (zt (bif bif bif bif bif bif bif bif bif y1 then y2 else false then y3 else false then y4 else false then y5 else false then y6 else false then y7 else false then y8 else false then y9 else false then y10 else false) (zU ([120,44],[120,44,32,110,111,116,32,97,108,108],1,0)) (default:Bool)) fun y11=>
 zb (zt (bif bif bif bif bif bif bif bif bif bif y1 then y2 else false then y3 else false then y4 else false then y5 else false then y6 else false then y7 else false then y8 else false then y9 else false then y10 else false then y11 else false) (zU ([115,99,114,101,101,110,40,109,97,120,45,119,105,100,116,104,58,51,112,120,41],[110,111,116,32,97,108,108],1,0)) (default:Bool)) fun y12=>
 zb (zt (bif bif bif bif bif bif bif bif bif bif bif y1 then y2 else false then y3 else false then y4 else false then y5 else false then y6 else false then y7 else false then y8 else false then y9 else false then y10 else false then y11 else false then y12 else false) (zU ([110,111,116,32,40,109,105,110,45,119,105,100,116,104,58,49,112,120,41],[110,111,116,32,97,108,108],1,0)) (default:Bool)) fun y13=>
 zb (zt (bif bif bif bif bif bif bif bif bif bif bif bif y1 then y2 else false then y3 else false then y4 else false then y5 else false then y6 else false then y7 else false then y8 else false then y9 else false then y10 else false then y11 else false then y12 else false then y13 else false) (zU ([40,109,105,110,45,119,105,100,116,104,58,45,49,112,120,41],[110,111,116,32,97,108,108],1,0)) (default:Bool)) fun y14=>
 zb (zt (bif bif bif bif bif bif bif bif bif bif bif bif bif y1 then y2 else false then y3 else false then y4 else false then y5 else false then y6 else false then y7 else false then y8 else false then y9 else false then y10 else false then y11 else false then y12 else false then y13 else false then y14 else false) (zU ([40,109,105,110,45,119,105,100,116,104,58,49,101,109,41],[110,111,116,32,97,108,108],1,0)) (default:Bool)) fun y15=>
 zb (zt (bif bif bif bif bif bif bif bif bif bif bif bif bif bif y1 then y2 else false then y3 else false then y4 else false then y5 else false then y6 else false then y7 else false then y8 else false then y9 else false then y10 else false then y11 else false then y12 else false then y13 else false then y14 else false then y15 else false) (zU ([115,99,114,101,101,110,32,97,110,100,32,115,99,114,101,101,110],[110,111,116,32,97,108,108],1,0)) (default:Bool)) fun y16=>
 zb (zt (bif bif bif bif bif bif bif bif bif bif bif bif bif bif bif y1 then y2 else false then y3 else false then y4 else false then y5 else false then y6 else false then y7 else false then y8 else false then y9 else false then y10 else false then y11 else false then y12 else false then y13 else false then y14 else false then y15 else false then y16 else false) (zU ([111,114],[110,111,116,32,97,108,108],1,0)) (default:Bool)) fun y17=>
 zb (zt (bif bif bif bif bif bif bif bif bif bif bif bif bif bif bif bif y1 then y2 else false then y3 else false then y4 else false then y5 else false then y6 else false then y7 else false then y8 else false then y9 else false then y10 else false then y11 else false then y12 else false then y13 else false then y14 else false then y15 else false then y16 else false then y17 else false) (zU ([115,99,114,101,101,110,47,42,42,47,97,110,100,40,109,105,110,45,119,105,100,116,104,58,50,112,120,41],[110,111,116,32,97,108,108],1,0)) (default:Bool)) fun y18=>
 zb (zY ([40,97,58,98,41],[40,97,58,32,98,41],true,false)) fun y19=>
 zb (zt y19 (zY ([78,79,84,32,40,97,58,98,41],[110,111,116,32,40,97,58,32,98,41],false,true)) (default:Bool)) fun y20=>
 zb (zt (bif y19 then y20 else false) (zY ([40,97,58,98,41,32,97,110,100,32,40,99,58,100,41,32,97,110,100,32,40,101,58,102,33,105,109,112,111,114,116,97,110,116,41],[40,97,58,32,98,41,32,97,110,100,32,40,99,58,32,100,41,32,97,110,100,32,40,101,58,32,102,32,33,105,109,112,111,114,116,97,110,116,41],true,false)) (default:Bool)) fun y21=>
 zb (zt (bif bif y19 then y20 else false then y21 else false) (zY ([40,40,97,58,98,41,41],[40,97,58,32,98,41],true,false)) (default:Bool)) fun y22=>
 zb (zt (bif bif bif y19 then y20 else false then y21 else false then y22 else false) (zY ([40,97,58,98,41,32,79,82,32,102,40,120,41],[40,97,58,32,98,41,32,111,114,32,40,117,110,107,110,111,119,110,41],true,false)) (default:Bool)) fun y23=>
 zb (zt (bif bif bif bif y19 then y20 else false then y21 else false then y22 else false then y23 else false) (zY ([40,40,97,58,98,41,32,97,110,100,32,40,110,111,116,32,40,99,58,100,41,41,41,32,111,114,32,40,45,45,120,58,41],[40,40,97,58,32,98,41,32,97,110,100,32,40,110,111,116,32,40,99,58,32,100,41,41,41,32,111,114,32,40,45,45,120,58,32,41],true,false)) (default:Bool)) fun y24=>
 zb (zt (bif bif bif bif bif y19 then y20 else false then y21 else false then y22 else false then y23 else false then y24 else false) (zY ([40,41],[40,117,110,107,110,111,119,110,41],false,false)) (default:Bool)) fun y25=>
 zb (zt (bif bif bif bif bif bif y19 then y20 else false then y21 else false then y22 else false then y23 else false then y24 else false then y25 else false) (zY ([110,111,116,40,97,58,98,41],[40,117,110,107,110,111,119,110,41],false,false)) (default:Bool)) fun y26=>
 zb (zt (bif bif bif bif bif bif bif y19 then y20 else false then y21 else false then y22 else false then y23 else false then y24 else false then y25 else false then y26 else false) (zY ([40,110,111,116,32,110,111,116,41],[40,117,110,107,110,111,119,110,41],false,false)) (default:Bool)) fun y27=>
 Zt (fun(s28:Int)=>
   bif decide (s28<12)then
    zb (geti [[],[97],[40,97,58,98,41,32,40,99,58,100,41],[40,97,58,98,41,32,97,110,100,32,40,99,58,100,41,32,111,114,32,40,101,58,102,41],[40,97,58,98,41,97,110,100,32,40,99,58,100,41],[40,97,58,98,41,32,97,110,100],[110,111,116],[110,111,116,32,97],[110,111,116,32,110,111,116,32,40,97,58,98,41],[91,97,58,98,93],[40,97,58,98,41,44,40,99,58,100,41],[40,97,58,98,41,32,97,110,100,32,110,111,116,32,40,99,58,100,41]] s28) fun y29=>
    zb (Zz y29) fun y30=>
    zb (qY y30) fun y31=>
    bif y31.2 != 12 then
     some (LO.ret false)
    else
     some (LO.again (w64 (s28+1)))
   else
    some (LO.out ()):Int->Option (LO (Int) (Unit) _)) 0 fun o32=>
 Zt (fun(s33:Str×Int)=>
   bif decide (s33.2<64)then
    need (QZ s33.1.length ([44]:Str).length)<|
    some (LO.again (s33.1++([44]:Str),w64 (s33.2+1)))
   else
    some (LO.out s33.1):Str×Int->Option (LO (Str×Int) (Str) _)) ([],0) fun o34=>
 zb (Zz o34) fun y35=>
 zb (Yf y35) fun y36=>
 need (decide (1<=(o34.length:Int)))<|
 zb (Zz (List.drop 1 o34)) fun y37=>
 zb (Yf y37) fun y38=>
 zb (Zz [97]) fun y39=>
 zb (Yf [(⟨(⟨18,[],0,[],false⟩:zk),y39⟩:zg)]) fun y40=>
 zb (qY [(⟨(⟨18,[],0,[],false⟩:zk),y39⟩:zg)]) fun y41=>
 zb (Zz [98]) fun y42=>
 zb (qU ((⟨7,[],0,(⟨[97],y42,false⟩:zF),[]⟩:zh),(⟨0⟩:VEnv),[])) fun y43=>
 zb (qU ((⟨7,[],0,(⟨[97],y42,false⟩:zF),[]⟩:zh),(⟨(-1)⟩:VEnv),[true])) fun y44=>
 zb (qU ((⟨7,[],0,(⟨[97],y42,false⟩:zF),[]⟩:zh),(⟨1000000001⟩:VEnv),[true])) fun y45=>
 zb (qU ((⟨y38.1.kind,y38.1.name,y38.1.num,y38.1.decl,y38.1.list⟩:zh),(⟨0⟩:VEnv),[true])) fun y46=>
 zb (qU ((⟨0,[],0,(⟨[],[],false⟩:zF),[]⟩:zh),(⟨(-1)⟩:VEnv),[])) fun y47=>
 zb (Rf (⟨5,[],1,(⟨[],[],false⟩:zF),[]⟩:zh)) fun y48=>
 zb (mg (⟨y38.1.kind,y38.1.name,y38.1.num,y38.1.decl,y38.1.list⟩:zh)) fun y49=>
 zb (qU ((⟨7,[],0,(⟨[97],y42,false⟩:zF),[]⟩:zh),(⟨1000000000⟩:VEnv),[true])) fun y50=>
 Zt (fun(s51:Int×zh)=>
   bif decide (s51.1<15)then
    some (LO.again (w64 (s51.1+1),(⟨3,[],0,(⟨[],[],false⟩:zF),[(⟨s51.2.kind,s51.2.name,s51.2.num,s51.2.decl,s51.2.list⟩:zh)]⟩:zh)))
   else
    some (LO.out (⟨s51.2.kind,s51.2.name,s51.2.num,s51.2.decl,s51.2.list⟩:zh)):Int×zh->Option (LO (Int×zh) (zh) _)) (0,(⟨7,[],0,(⟨[97],y42,false⟩:zF),[]⟩:zh)) fun o52=>
 zb (zW (⟨3,[],0,(⟨[],[],false⟩:zF),[(⟨o52.kind,o52.name,o52.num,o52.decl,o52.list⟩:zh)]⟩:zh)) fun y53=>
 zb (zW (⟨3,[],0,(⟨[],[],false⟩:zF),[(⟨3,[],0,(⟨[],[],false⟩:zF),[(⟨o52.kind,o52.name,o52.num,o52.decl,o52.list⟩:zh)]⟩:zh)]⟩:zh)) fun y54=>
 zb (zt (bif bif bif bif bif bif bif bif bif bif bif bif bif bif bif bif bif bif bif bif bif bif bif bif bif bif bif bif bif bif bif bif bif bif y1 then y2 else false then y3 else false then y4 else false then y5 else false then y6 else false then y7 else false then y8 else false then y9 else false then y10 else false then y11 else false then y12 else false then y13 else false then y14 else false then y15 else false then y16 else false then y17 else false then y18 else false then bif bif bif bif bif bif bif bif y19 then y20 else false then y21 else false then y22 else false then y23 else false then y24 else false then y25 else false then y26 else false then y27 else false else false then y36.2==4 else false then y38.2==0 else false then(y38.1.list.length:Int)==64 else false then y40.2==8 else false then y41.2==8 else false then y43.2==2 else false then y44.2==2 else false then y45.2==2 else false then y46.2==2 else false then y47.2==8 else false then y48.2==8 else false then y49.2==8 else false then y50.2==0 else false then y50.1 else false then y53==0 else false then y54==8 else false) (Nk ()) (default:Bool)) fun y55=>
 some (bif bif bif bif bif bif bif bif bif bif bif bif bif bif bif bif bif bif bif bif bif bif bif bif bif bif bif bif bif bif bif bif bif bif bif y1 then y2 else false then y3 else false then y4 else false then y5 else false then y6 else false then y7 else false then y8 else false then y9 else false then y10 else false then y11 else false then y12 else false then y13 else false then y14 else false then y15 else false then y16 else false then y17 else false then y18 else false then bif bif bif bif bif bif bif bif y19 then y20 else false then y21 else false then y22 else false then y23 else false then y24 else false then y25 else false then y26 else false then y27 else false else false then y36.2==4 else false then y38.2==0 else false then(y38.1.list.length:Int)==64 else false then y40.2==8 else false then y41.2==8 else false then y43.2==2 else false then y44.2==2 else false then y45.2==2 else false then y46.2==2 else false then y47.2==8 else false then y48.2==8 else false then y49.2==8 else false then y50.2==0 else false then y50.1 else false then y53==0 else false then y54==8 else false then y55 else false)
end Go.Lv.VT
end
