/- Texts. -/
import Derived.Test.YtcdeccnjlkkejaaGreatDoorTy
import Derived.Test.YtcdeccnjlkkejaaGreatDoorLf
noncomputable section
set_option linter.unusedSimpArgs false
set_option linter.unusedVariables false
namespace Go.Lv.VT
set_option maxRecDepth 100000
def Ws(qY:List zb×Int->Option Int)(x:List zb×Int):Option Int:=
 zY (fun(s1:Int×Int)=>
   bif bif decide (s1.2<(x.1.length:Int))then decide (s1.1<=x.2)else false then
    ze (geti x.1 s1.2) fun y2=>
    ze (geti x.1 s1.2) fun y3=>
    ze (geti x.1 s1.2) fun y4=>
    ze (qY (y4.list,w64 (x.2 - s1.1))) fun y5=>
    some (LO.again (w64 (s1.1+w64 (w64 (w64 (1+(y2.token.text.length:Int))+(y3.token.unit.length:Int))+y5)),w64 (s1.2+1)))
   else
    some (LO.out s1.1):Int×Int->Option (LO (Int×Int) (Int) _)) (0,0) fun o6=>
 some o6
def qY:List zb×Int->Option Int:=recE (Ws)
def qg(x:Int):Option Int:=
 bif x==19 then
  some 20
 else
  zS (X:=Bool) (
    bif x==21 then
     some (LX.out (x==21))
    else
     some (LX.out (x==2))) fun j1=>
  bif j1 then
   some 22
  else
   bif x==23 then
    some 24
   else
    some 0
def DD(qX:List zb->Option Int)(x:List zb):Option Int:=
 zY (fun(s1:Int×Int)=>
   bif decide (s1.2<(x.length:Int))then
    zS (X:=Int×Int) (
      ze (geti x s1.2) fun y2=>
      ze (qg y2.token.kind) fun y3=>
      bif y3 != 0 then
       ze (geti x s1.2) fun y4=>
       ze (qX y4.list) fun y5=>
       some (LX.out (if w64 (1+y5)>s1.1 then w64 (1+y5)else s1.1,s1.2))
      else
       some (LX.out (s1.1,s1.2))) fun j6=>
    some (LO.again (j6.1,w64 (j6.2+1)))
   else
    some (LO.out s1.1):Int×Int->Option (LO (Int×Int) (Int) _)) (0,0) fun o7=>
 some o7
def qX:List zb->Option Int:=recE (DD)
def dx(x:List zb):Option Bool:=
 ze (qY (x,300)) fun y1=>
 ze (zn (!(decide (y1>300))) (qX x) (default:Int)) fun y2=>
 some (bif decide (y1>300)then true else decide (y2>40))
def qo(x:Int):Option Int:=
 bif x==2 then
  some 22
 else
  zS (X:=Bool) (
    bif x==19 then
     some (LX.out (x==19))
    else
     bif x==21 then
      some (LX.out (x==21))
     else
      some (LX.out (x==23))) fun j1=>
  bif j1 then
   some (wu8 (x+1))
  else
   some 0
def xC(Vk:List zb×Int->Option zJ)(x:List zb×Int):Option zJ:=
 zY (fun(s1:Int×zJ)=>
   bif decide (s1.1<(x.1.length:Int))then
    zS (X:=Int×zJ) (
      ze (geti x.1 s1.1) fun y2=>
      ze (qo y2.token.kind) fun y3=>
      zS (X:=zJ) (
        bif bif bif x.2 != 0 then y2.token.kind==x.2 else false then true else bif y3==0 then decide ((y2.list.length:Int)>0)else false then
         some (LX.out (⟨s1.2.depth,w64 (s1.2.tokens+1),true⟩:zJ))
        else
         some (LX.out (⟨s1.2.depth,w64 (s1.2.tokens+1),s1.2.bad⟩:zJ))) fun j4=>
      bif y3==0 then
       some (LX.out (s1.1,j4))
      else
       ze (Vk (y2.list,y3)) fun y5=>
       some (LX.out (s1.1,(⟨if w64 (y5.depth+1)>j4.depth then w64 (y5.depth+1)else j4.depth,w64 (w64 (j4.tokens+y5.tokens)+1),bif j4.bad then true else y5.bad⟩:zJ)))) fun j6=>
    some (LO.again (w64 (j6.1+1),j6.2))
   else
    some (LO.out s1.2):Int×zJ->Option (LO (Int×zJ) (zJ) _)) (0,(⟨0,0,false⟩:zJ)) fun o7=>
 some o7
def Vk:List zb×Int->Option zJ:=recE (xC)
def Qw(x:List zb):Option Int:=
 ze (Vk (x,0)) fun y1=>
 bif decide (y1.depth>16)then
  some 20
 else
  bif decide (y1.tokens>1500)then
   some 4
  else
   bif y1.bad then
    some 8
   else
    some 0
def ZE(x:zb×Int):Option Bool:=
 some (x.1.token.kind==x.2)
def Uo(x:List zb):Option (List zb):=
 zY (fun(s1:List zb)=>
   ze (zn (decide ((s1.length:Int)>0)) (geti s1 0) (default:zb)) fun y2=>
   ze (zn (decide ((s1.length:Int)>0)) (ZE ((⟨y2.token,y2.list⟩:zb),13)) (default:Bool)) fun y3=>
   bif bif decide ((s1.length:Int)>0)then y3 else false then
    need (decide (1<=(s1.length:Int)))<|
    some (LO.again (List.drop 1 s1))
   else
    some (LO.out s1):List zb->Option (LO (List zb) (List zb) _)) x fun o4=>
 some o4
def Ol(x:List zb):Option (List zb):=
 zY (fun(s1:List zb)=>
   ze (zn (decide ((s1.length:Int)>0)) (geti s1 (w64 ((s1.length:Int) - 1))) (default:zb)) fun y2=>
   ze (zn (decide ((s1.length:Int)>0)) (ZE ((⟨y2.token,y2.list⟩:zb),13)) (default:Bool)) fun y3=>
   bif bif decide ((s1.length:Int)>0)then y3 else false then
    need (decide (0<=w64 ((s1.length:Int) - 1))&&decide (w64 ((s1.length:Int) - 1)<=(s1.length:Int)))<|
    some (LO.again (List.take (w64 ((s1.length:Int) - 1)).toNat s1))
   else
    some (LO.out s1):List zb->Option (LO (List zb) (List zb) _)) x fun o4=>
 some o4
def stringslite_HasPrefix(x:Str×Str):Option Bool:=
 need (decide (0<=(x.2.length:Int))&&decide ((x.2.length:Int)<=(x.1.length:Int))|| !(decide ((x.1.length:Int)>=(x.2.length:Int))))<|
 some (bif decide ((x.1.length:Int)>=(x.2.length:Int))then List.take x.2.length x.1==x.2 else false)
def strings_HasPrefix(x:Str×Str):Option Bool:=
 ze (stringslite_HasPrefix (x.1,x.2)) fun y1=>
 some y1
def qK(x:Str):Option Str:=
 need (decide (x.length<=maxLen))<|
 zY (fun(s1:Int×List UInt8)=>
   bif decide (s1.1<(x.length:Int))then
    zS (X:=Int×List UInt8) (
      need (decide (0<=s1.1)&&decide (s1.1<(s1.2.length:Int)))<|
      ze s1.2[s1.1.toNat]? fun y2=>
      bif bif decide (65<=(y2.toNat:Int))then decide ((y2.toNat:Int)<=90)else false then
       need (decide (0<=s1.1)&&decide (s1.1<(s1.2.length:Int)))<|
       ze s1.2[s1.1.toNat]? fun y3=>
       need (decide (0<=s1.1)&&decide (s1.1<(s1.2.length:Int)))<|
       ze s1.2[s1.1.toNat]? fun y4=>
       ze (Z0 (ibOr IntKind.u8 (y3.toNat:Int) 32)) fun y5=>
       some (LX.out (s1.1,List.set s1.2 s1.1.toNat y5))
      else
       some (LX.out (s1.1,s1.2))) fun j6=>
    some (LO.again (w64 (j6.1+1),j6.2))
   else
    some (LO.out s1.2):Int×List UInt8->Option (LO (Int×List UInt8) (List UInt8) _)) (0,x) fun o7=>
 some o7
def Qk(x:Str×Str):Option Bool:=
 ze (qK x.1) fun y1=>
 ze (qK x.2) fun y2=>
 some (y1==y2)
def Kl(x:zb):Option Bool:=
 ze (ZE ((⟨x.token,x.list⟩:zb),9)) fun y1=>
 some (bif y1 then x.token.text==[33]else false)
def Bt(x:Int×List zb):Option Bool:=
 ze (geti x.2 x.1) fun y1=>
 some (y1.token.kind==13)
def Qg(x:List zb):Option (List zb):=
 bif x.isEmpty then
  both (
    some []) (
    need (Zo 0 x.length 80)<|
    some x)
 else
  need (Zo 0 x.length 80)<|
  some x
def wC(Qx:List zb->Option (List zb))(x:List zb):Option (List zb):=
 ze (Qg x) fun y1=>
 zY (fun(s2:Int×List zb)=>
   bif decide (s2.1<(y1.length:Int))then
    need (decide (0<=s2.1)&&decide (s2.1<(s2.2.length:Int)))<|
    ze s2.2[s2.1.toNat]? fun y3=>
    ze (Qx y3.list) fun y4=>
    need (decide (0<=s2.1)&&decide (s2.1<(s2.2.length:Int)))<|
    ze s2.2[s2.1.toNat]? fun y5=>
    some (LO.again (w64 (s2.1+1),List.set s2.2 s2.1.toNat (⟨y5.token,y4⟩:zb)))
   else
    some (LO.out s2.2):Int×List zb->Option (LO (Int×List zb) (List zb) _)) (0,y1) fun o6=>
 some o6
def Qx:List zb->Option (List zb):=recE (wC)
def Ow(x:List zb):Option (List zb×Int):=
 ze (Qw x) fun y1=>
 bif y1 != 0 then
  some ([],y1)
 else
  zY (fun(s2:Int)=>
    ze (zn (decide (s2<(x.length:Int))) (Bt (s2,x)) (default:Bool)) fun y3=>
    bif bif decide (s2<(x.length:Int))then y3 else false then
     some (LO.again (w64 (s2+1)))
    else
     some (LO.out s2):Int->Option (LO (Int) (Int) _)) 0 fun o4=>
  zY (fun(s5:Int)=>
    ze (zn (decide (o4<s5)) (Bt (w64 (s5 - 1),x)) (default:Bool)) fun y6=>
    bif bif decide (o4<s5)then y6 else false then
     some (LO.again (w64 (s5 - 1)))
    else
     some (LO.out s5):Int->Option (LO (Int) (Int) _)) (x.length:Int) fun o7=>
  need (decide (0<=o4)&&(decide (o4<=o7)&&(decide (o7<=o7)&&decide (o7<=(x.length:Int))))&&decide (o7=o7))<|
  ze (Qx (List.drop o4.toNat (List.take o7.toNat x))) fun y8=>
  some (y8,0)
def UD(Ql:List zb×List zf->Option (List zf))(x:List zb×List zf):Option (List zf):=
 zY (fun(s1:Int×List zf)=>
   bif decide (s1.1<(x.1.length:Int))then
    zS (X:=Int×List zf) (
      ze (geti x.1 s1.1) fun y2=>
      need (Zo s1.2.length 1 56)<|
      ze (qo y2.token.kind) fun y3=>
      bif y3 != 0 then
       ze (Ql (y2.list,s1.2++[y2.token])) fun y4=>
       need (Zo y4.length 1 56)<|
       some (LX.out (s1.1,y4++[(⟨y3,[],0,[],false⟩:zf)]))
      else
       some (LX.out (s1.1,s1.2++[y2.token]))) fun j5=>
    some (LO.again (w64 (j5.1+1),j5.2))
   else
    some (LO.out s1.2):Int×List zf->Option (LO (Int×List zf) (List zf) _)) (0,x.2) fun o6=>
 some o6
def Ql:List zb×List zf->Option (List zf):=recE (UD)
def Rx(x:List zb):Option (List zf):=
 zY (fun(s1:Int×List zf)=>
   bif decide (s1.1<(x.length:Int))then
    zS (X:=Int×List zf) (
      ze (geti x s1.1) fun y2=>
      need (Zo s1.2.length 1 56)<|
      ze (qo y2.token.kind) fun y3=>
      bif y3 != 0 then
       ze (Ql (y2.list,s1.2++[y2.token])) fun y4=>
       need (Zo y4.length 1 56)<|
       some (LX.out (s1.1,y4++[(⟨y3,[],0,[],false⟩:zf)]))
      else
       some (LX.out (s1.1,s1.2++[y2.token]))) fun j5=>
    some (LO.again (w64 (j5.1+1),j5.2))
   else
    some (LO.out s1.2):Int×List zf->Option (LO (Int×List zf) (List zf) _)) (0,[]) fun o6=>
 some o6
def Pw(x:List zb):Option (List zf×Int):=
 ze (Qw x) fun y1=>
 bif y1 != 0 then
  some ([],y1)
 else
  ze (Rx x) fun y2=>
  some (y2,0)
def strings_IndexByte(x:Str×Int):Option Int:=
 ze (Mv (x.1,x.2)) fun y1=>
 some y1
def ww(x:Str):Option Bool:=
 ze (zn (!(bif x==[]then true else decide ((x.length:Int)>64))) (strings_IndexByte (x,0)) (default:Int)) fun y1=>
 bif bif bif x==[]then true else decide ((x.length:Int)>64)then true else decide (y1>=0)then
  some false
 else
  ze (strings_HasPrefix (x,[45,45])) fun y2=>
  bif y2 then
   some (!(x==[45,45]))
  else
   ze (qK x) fun y3=>
   some (x==y3)
def stringslite_TrimPrefix(x:Str×Str):Option Str:=
 ze (stringslite_HasPrefix (x.1,x.2)) fun y1=>
 bif y1 then
  need (decide (0<=(x.2.length:Int))&&decide ((x.2.length:Int)<=(x.1.length:Int)))<|
  some (List.drop x.2.length x.1)
 else
  some x.1
def strings_TrimPrefix(x:Str×Str):Option Str:=
 ze (stringslite_TrimPrefix (x.1,x.2)) fun y1=>
 some y1
def Wm(x:Int):Option Bool:=
 some (bif decide (48<=x)then decide (x<=57)else false)
def Fy(x:Str):Option Bool:=
 ze (strings_TrimPrefix (x,[45])) fun y1=>
 ze (zn (!(y1==[])) (geti y1 0) 0) fun y2=>
 ze (zn (!(y1==[])) (Wm (y2.toNat:Int)) (default:Bool)) fun y3=>
 some (bif !(y1==[])then y3 else false)
def II(x:Int):Option Bool:=
 some (bif bif decide (97<=ibOr IntKind.u8 x 32)then decide (ibOr IntKind.u8 x 32<=122)else false then decide (x<128)else false)
def sw(x:Int):Option Bool:=
 ze (II x) fun y1=>
 ze (zn (!y1) (Wm x) (default:Bool)) fun y2=>
 some (bif bif bif bif y1 then true else y2 then true else x==95 then true else x==45 then true else decide (x>=128))
def strings_Contains(x:Str×Str):Option Bool:=
 ze (nk (x.1,x.2)) fun y1=>
 some (decide (y1>=0))
def Tw(x:zf):Option Bool:=
 need (Uf x.text.length x.unit.length)<|
 ze (strings_IndexByte (x.text++x.unit,0)) fun y1=>
 zS (X:=Bool×Bool×Bool×Bool×Bool) (
   zS (X:=Bool×Bool×Bool×Bool×Bool×Bool) (
     bif x.kind==1 then
      some (LX.out (false,false,false,false,decide (y1<0),x.kind==1))
     else
      bif x.kind==2 then
       some (LX.out (false,false,false,false,decide (y1<0),x.kind==2))
      else
       some (LX.out (false,false,false,false,decide (y1<0),x.kind==3))) fun j2=>
   bif j2.2.2.2.2.2 then
    some (LX.out (true,j2.2.1,j2.2.2.1,j2.2.2.2.1,bif j2.2.2.2.2.1 then !(x.text==[])else false))
   else
    bif x.kind==4 then
     ze (zn (!x.flag&&(bif j2.2.2.2.2.1 then !(x.text==[])else false)) (Fy x.text) (default:Bool)) fun y3=>
     ze (zn (y3&&(!x.flag&&(bif j2.2.2.2.2.1 then !(x.text==[])else false))) (strings_HasPrefix (x.text,[45,45])) (default:Bool)) fun y4=>
     some (LX.out (true,j2.2.1,j2.2.2.1,true,bif bif j2.2.2.2.2.1 then !(x.text==[])else false then bif bif x.flag then true else bif y3 then !y4 else false then true else x.text==[45]else false))
    else
     zS (X:=Bool×Bool×Bool×Bool×Bool×Bool) (
       bif x.kind==5 then
        some (LX.out (j2.1,j2.2.1,j2.2.2.1,j2.2.2.2.1,j2.2.2.2.2.1,x.kind==5))
       else
        some (LX.out (j2.1,j2.2.1,j2.2.2.1,j2.2.2.2.1,j2.2.2.2.2.1,x.kind==7))) fun j5=>
     bif j5.2.2.2.2.2 then
      some (LX.out (true,j5.2.1,j5.2.2.1,j5.2.2.2.1,j5.2.2.2.2.1))
     else
      bif x.kind==9 then
       ze (zn (bif j5.2.2.2.2.1 then(x.text.length:Int)==1 else false) (geti x.text 0) 0) fun y6=>
       ze (zn (bif j5.2.2.2.2.1 then(x.text.length:Int)==1 else false) (sw (y6.toNat:Int)) (default:Bool)) fun y7=>
       ze (zn (bif bif bif j5.2.2.2.2.1 then(x.text.length:Int)==1 else false then !y7 else false then true else x.text==[45]) (strings_Contains ([32,9,10,12,13,34,39,58,59,44,91,93,40,41,123,125],x.text)) (default:Bool)) fun y8=>
       some (LX.out (true,j5.2.1,j5.2.2.1,j5.2.2.2.1,bif bif bif bif j5.2.2.2.2.1 then(x.text.length:Int)==1 else false then !y7 else false then true else x.text==[45]then !y8 else false))
      else
       zS (X:=Bool×Bool×Bool×Bool×Bool) (
         bif x.kind==10 then
          some (LX.out (j5.2.1,j5.2.2.1,j5.2.2.2.1,j5.2.2.2.2.1,x.kind==10))
         else
          bif x.kind==11 then
           some (LX.out (j5.2.1,j5.2.2.1,j5.2.2.2.1,j5.2.2.2.2.1,x.kind==11))
          else
           some (LX.out (j5.2.1,j5.2.2.1,j5.2.2.2.1,j5.2.2.2.2.1,x.kind==12))) fun j9=>
       bif j9.2.2.2.2 then
        some (LX.out (j5.1,x.kind==12,true,x.kind != 11,bif bif bif bif j9.2.2.2.1 then decide (x.num>=(-1000000000000))else false then decide (x.num<=1000000000000)else false then bif !x.flag then true else Int.tmod x.num 1000==0 else false then bif !(x.kind==12)then true else !(x.unit==[])else false))
       else
        some (LX.out (j5.1,j9.1,j9.2.1,j9.2.2.1,bif decide (x.kind>=13)then decide (x.kind<=24)else false))) fun j10=>
 some (bif bif bif bif j10.2.2.2.2 then bif j10.1 then true else x.text==[]else false then bif j10.2.1 then true else x.unit==[]else false then bif j10.2.2.1 then true else x.num==0 else false then bif j10.2.2.2.1 then true else !x.flag else false)
def Qc(x:(Int×Int)×List zf):Option Bool:=
 ze (zn (decide (x.1.1<(x.2.length:Int))) (geti x.2 x.1.1) (default:zf)) fun y1=>
 some (bif decide (x.1.1<(x.2.length:Int))then y1.kind==x.1.2 else false)
def ow(x:List zf):Option Int:=
 ze (geti x 0) fun y1=>
 bif bif y1.kind==9 then y1.text==[92]else false then
  ze (Qc ((1,13),x)) fun y2=>
  bif !y2 then
   some 0
  else
   some 2
 else
  ze (zn (y1.kind==2) (Qk (y1.text,[117,114,108])) (default:Bool)) fun y3=>
  bif bif y1.kind==2 then y3 else false then
   zS (X:=Int) (
     ze (Qc ((1,13),x)) fun y4=>
     bif y4 then
      some (LX.out 2)
     else
      some (LX.out 1)) fun j5=>
   ze (Qc ((j5,5),x)) fun y6=>
   bif !y6 then
    some 0
   else
    some (w64 (j5+1))
  else
   some 1
def Rs(x:List zf):Option Int:=
 bif decide ((x.length:Int)>1500)then
  some 4
 else
  zY (fun(s1:Int)=>
    bif decide (s1<(x.length:Int))then
     ze (geti x s1) fun y2=>
     ze (Tw y2) fun y3=>
     need (decide (0<=s1)&&decide (s1<=(x.length:Int))|| !(!(!y3)))<|
     ze (zn (!(!y3)) (ow (List.drop s1.toNat x)) (default:Int)) fun y4=>
     bif bif !y3 then true else y4==0 then
      some (LO.ret 8)
     else
      some (LO.again (w64 (s1+1)))
    else
     some (LO.out ()):Int->Option (LO (Int) (Unit) _)) 0 fun o5=>
  some 0
def QW(zz:List zb->Option Bool)(x:zb):Option Bool:=
 ze (ZE ((⟨x.token,x.list⟩:zb),20)) fun y1=>
 ze (zn (!y1) (ZE ((⟨x.token,x.list⟩:zb),22)) (default:Bool)) fun y2=>
 ze (zn (!(bif y1 then true else y2)) (ZE ((⟨x.token,x.list⟩:zb),24)) (default:Bool)) fun y3=>
 ze (zn (!(bif bif y1 then true else y2 then true else y3)) (zz x.list) (default:Bool)) fun y4=>
 some (bif bif bif y1 then true else y2 then true else y3 then true else y4)
def qQ(zz:List zb->Option Bool)(x:List zb):Option Int:=
 zY (fun(s1:Int)=>
   bif decide (s1<(x.length:Int))then
    ze (geti x s1) fun y2=>
    ze (QW zz (⟨y2.token,y2.list⟩:zb)) fun y3=>
    bif y3 then
     some (LO.ret s1)
    else
     some (LO.again (w64 (s1+1)))
   else
    some (LO.out ()):Int->Option (LO (Int) (Unit) _)) 0 fun o4=>
 some (-1)
def qc(zz:List zb->Option Bool)(x:List zb):Option Bool:=
 ze (qQ zz x) fun y1=>
 some (decide (y1>=0))
def PD(zz:List zb->Option Bool)(x:List zb):Option Bool:=
 ze (qc zz x) fun y1=>
 some y1
def zz:List zb->Option Bool:=recE (PD)
def Gy(x:zb):Option Bool:=
 ze (ZE ((⟨x.token,x.list⟩:zb),17)) fun y1=>
 ze (zn (!y1) (Kl (⟨x.token,x.list⟩:zb)) (default:Bool)) fun y2=>
 some (bif y1 then true else y2)
def qj(x:List zb):Option Int:=
 zY (fun(s1:Int)=>
   bif decide (s1<(x.length:Int))then
    ze (geti x s1) fun y2=>
    ze (Gy (⟨y2.token,y2.list⟩:zb)) fun y3=>
    bif y3 then
     some (LO.ret s1)
    else
     some (LO.again (w64 (s1+1)))
   else
    some (LO.out ()):Int->Option (LO (Int) (Unit) _)) 0 fun o4=>
 some (-1)
def Zp(x:List zb):Option Bool:=
 ze (qj x) fun y1=>
 some (decide (y1>=0))
def xw(x:z8):Option Int:=
 ze (Pw x.value) fun y1=>
 ze (ww x.name) fun y2=>
 ze (zn (!(bif !y2 then true else y1.2 != 0)) (Rs y1.1) (default:Int)) fun y3=>
 ze (zn (!(bif bif !y2 then true else y1.2 != 0 then true else y3 != 0)) (zz x.value) (default:Bool)) fun y4=>
 bif bif bif bif !y2 then true else y1.2 != 0 then true else y3 != 0 then true else y4 then
  some 8
 else
  ze (Zp x.value) fun y5=>
  bif y5 then
   some 8
  else
   ze (zn ((x.value.length:Int)==0) (strings_HasPrefix (x.name,[45,45])) (default:Bool)) fun y6=>
   ze (zn (decide ((x.value.length:Int)>0)&& !(bif (x.value.length:Int)==0 then !y6 else false)) (geti x.value 0) (default:zb)) fun y7=>
   ze (zn (decide ((x.value.length:Int)>0)&& !(bif (x.value.length:Int)==0 then !y6 else false)) (ZE ((⟨y7.token,y7.list⟩:zb),13)) (default:Bool)) fun y8=>
   ze (zn (!y8&&(decide ((x.value.length:Int)>0)&& !(bif (x.value.length:Int)==0 then !y6 else false))) (geti x.value (w64 ((x.value.length:Int) - 1))) (default:zb)) fun y9=>
   ze (zn (!y8&&(decide ((x.value.length:Int)>0)&& !(bif (x.value.length:Int)==0 then !y6 else false))) (ZE ((⟨y9.token,y9.list⟩:zb),13)) (default:Bool)) fun y10=>
   bif bif bif (x.value.length:Int)==0 then !y6 else false then true else bif decide ((x.value.length:Int)>0)then bif y8 then true else y10 else false then
    some 8
   else
    some 0
def Io(x:List zb):Option (z8×Bool):=
 ze (Uo x) fun y1=>
 ze (Ol y1) fun y2=>
 ze (zn (!((y2.length:Int)==0)) (geti y2 0) (default:zb)) fun y3=>
 ze (zn (!((y2.length:Int)==0)) (ZE ((⟨y3.token,y3.list⟩:zb),1)) (default:Bool)) fun y4=>
 bif bif (y2.length:Int)==0 then true else !y4 then
  some ((⟨[],[],false⟩:z8),false)
 else
  ze (geti y2 0) fun y5=>
  zS (X:=List zb×(Str×Bool)×(Str×Bool)) (
    ze (strings_HasPrefix (y5.token.text,[45,45])) fun y6=>
    bif !y6 then
     ze (qK y5.token.text) fun y7=>
     some (LX.out (y2,([],false),(y7,false)))
    else
     some (LX.out (y2,([],false),(y5.token.text,false)))) fun j8=>
  need (decide (1<=(j8.1.length:Int)))<|
  ze (Uo (List.drop 1 j8.1)) fun y9=>
  ze (zn (!((y9.length:Int)==0)) (geti y9 0) (default:zb)) fun y10=>
  ze (zn (!((y9.length:Int)==0)) (ZE ((⟨y10.token,y10.list⟩:zb),16)) (default:Bool)) fun y11=>
  bif bif (y9.length:Int)==0 then true else !y11 then
   some ((⟨[],[],false⟩:z8),false)
  else
   need (decide (1<=(y9.length:Int)))<|
   ze (Uo (List.drop 1 y9)) fun y12=>
   zS (X:=List zb×(Str×Bool)×(Str×Bool)) (
     ze (zn (decide (w64 ((y12.length:Int) - 1)>0)) (geti y12 (w64 ((y12.length:Int) - 1))) (default:zb)) fun y13=>
     ze (zn (decide (w64 ((y12.length:Int) - 1)>0)) (ZE ((⟨y13.token,y13.list⟩:zb),1)) (default:Bool)) fun y14=>
     ze (zn (bif decide (w64 ((y12.length:Int) - 1)>0)then y14 else false) (geti y12 (w64 ((y12.length:Int) - 1))) (default:zb)) fun y15=>
     ze (zn (bif decide (w64 ((y12.length:Int) - 1)>0)then y14 else false) (Qk (y15.token.text,[105,109,112,111,114,116,97,110,116])) (default:Bool)) fun y16=>
     bif bif bif decide (w64 ((y12.length:Int) - 1)>0)then y14 else false then y16 else false then
      need (decide (0<=w64 ((y12.length:Int) - 1))&&decide (w64 ((y12.length:Int) - 1)<=(y12.length:Int)))<|
      ze (Ol (List.take (w64 ((y12.length:Int) - 1)).toNat y12)) fun y17=>
      ze (zn (decide ((y17.length:Int)>0)) (geti y17 (w64 ((y17.length:Int) - 1))) (default:zb)) fun y18=>
      ze (zn (decide ((y17.length:Int)>0)) (Kl (⟨y18.token,y18.list⟩:zb)) (default:Bool)) fun y19=>
      bif bif decide ((y17.length:Int)>0)then y19 else false then
       need (decide (0<=w64 ((y17.length:Int) - 1))&&decide (w64 ((y17.length:Int) - 1)<=(y17.length:Int)))<|
       ze (Ol (List.take (w64 ((y17.length:Int) - 1)).toNat y17)) fun y20=>
       some (LX.out (y20,(j8.2.1.1,j8.2.1.2),(j8.2.2.1,true)))
      else
       some (LX.out (y12,(j8.2.1.1,j8.2.1.2),(j8.2.2.1,j8.2.2.2)))
     else
      some (LX.out (y12,(j8.2.1.1,j8.2.1.2),(j8.2.2.1,j8.2.2.2)))) fun j21=>
   ze (Ow j21.1) fun y22=>
   ze (zn (!(y22.2 != 0)) (xw (⟨j21.2.2.1,y22.1,j21.2.2.2⟩:z8)) (default:Int)) fun y23=>
   bif bif y22.2 != 0 then true else y23 != 0 then
    some ((⟨[],[],false⟩:z8),false)
   else
    some ((⟨j21.2.2.1,y22.1,j21.2.2.2⟩:z8),true)
def Gw(x:List zb):Option (z8×Bool×Int):=
 ze (Qw x) fun y1=>
 bif y1 != 0 then
  some ((⟨[],[],false⟩:z8),false,y1)
 else
  ze (Io x) fun y2=>
  some (y2.1,y2.2,0)
def KD(Zz:List zb->Option (List zf))(x:List zb):Option (List zf):=
 zY (fun(s1:Int×List zf)=>
   bif decide (s1.1<(x.length:Int))then
    zS (X:=Int×List zf) (
      ze (geti x s1.1) fun y2=>
      need (Zo s1.2.length 1 56)<|
      ze (geti x s1.1) fun y3=>
      ze (qg y3.token.kind) fun y4=>
      bif y4 != 0 then
       ze (geti x s1.1) fun y5=>
       ze (Zz y5.list) fun y6=>
       need (Zo (s1.2++[y2.token]).length y6.length 56)<|
       need (Zo (s1.2++[y2.token]++y6).length 1 56)<|
       some (LX.out (s1.1,s1.2++[y2.token]++y6++[(⟨y4,[],0,[],false⟩:zf)]))
      else
       some (LX.out (s1.1,s1.2++[y2.token]))) fun j7=>
    some (LO.again (w64 (j7.1+1),j7.2))
   else
    some (LO.out s1.2):Int×List zf->Option (LO (Int×List zf) (List zf) _)) (0,[]) fun o8=>
 some o8
def Zz:List zb->Option (List zf):=recE (KD)
def JD(qG:List zb×Int->Option Bool)(x:List zb×Int):Option Bool:=
 zY (fun(s1:Int)=>
   bif decide (s1<(x.1.length:Int))then
    ze (geti x.1 s1) fun y2=>
    ze (qg y2.token.kind) fun y3=>
    ze (zn (y3==0) (geti x.1 s1) (default:zb)) fun y4=>
    ze (zn (x.2 != 0&& !(bif y3==0 then decide ((y4.list.length:Int)>0)else false)) (geti x.1 s1) (default:zb)) fun y5=>
    ze (zn (y3 != 0&& !(bif bif y3==0 then decide ((y4.list.length:Int)>0)else false then true else bif x.2 != 0 then y5.token.kind==x.2 else false)) (geti x.1 s1) (default:zb)) fun y6=>
    ze (zn (y3 != 0&& !(bif bif y3==0 then decide ((y4.list.length:Int)>0)else false then true else bif x.2 != 0 then y5.token.kind==x.2 else false)) (qG (y6.list,y3)) (default:Bool)) fun y7=>
    bif bif bif bif y3==0 then decide ((y4.list.length:Int)>0)else false then true else bif x.2 != 0 then y5.token.kind==x.2 else false then true else bif y3 != 0 then !y7 else false then
     some (LO.ret false)
    else
     some (LO.again (w64 (s1+1)))
   else
    some (LO.out ()):Int->Option (LO (Int) (Unit) _)) 0 fun o8=>
 some true
def qG:List zb×Int->Option Bool:=recE (JD)
def QM(x:List zb):Option Int:=
 ze (qX x) fun y1=>
 bif decide (y1>16)then
  some 20
 else
  ze (Zz x) fun y2=>
  bif decide ((y2.length:Int)>1500)then
   some 4
  else
   ze (qG (x,0)) fun y3=>
   bif !y3 then
    some 8
   else
    some 0
def ZF(x:List zb):Option (List zb):=
 zY (fun(s1:List zb)=>
   ze (zn (decide ((s1.length:Int)>0)) (geti s1 0) (default:zb)) fun y2=>
   bif bif decide ((s1.length:Int)>0)then y2.token.kind==13 else false then
    need (decide (1<=(s1.length:Int)))<|
    some (LO.again (List.drop 1 s1))
   else
    some (LO.out s1):List zb->Option (LO (List zb) (List zb) _)) x fun o3=>
 zY (fun(s4:List zb)=>
   ze (zn (decide ((s4.length:Int)>0)) (geti s4 (w64 ((s4.length:Int) - 1))) (default:zb)) fun y5=>
   bif bif decide ((s4.length:Int)>0)then y5.token.kind==13 else false then
    need (decide (0<=w64 ((s4.length:Int) - 1))&&decide (w64 ((s4.length:Int) - 1)<=(s4.length:Int)))<|
    some (LO.again (List.take (w64 ((s4.length:Int) - 1)).toNat s4))
   else
    some (LO.out s4):List zb->Option (LO (List zb) (List zb) _)) o3 fun o6=>
 some o6
def Qq(x:Int):Option Int:=
 bif bif decide (x>=65)then decide (x<=90)else false then
  some (wu8 (wu8 (x - 65)+97))
 else
  some x
def ZP(x:Str):Option Str:=
 need (decide (x.length<=maxLen))<|
 zY (fun(s1:Int×List UInt8)=>
   bif decide (s1.1<(s1.2.length:Int))then
    need (decide (0<=s1.1)&&decide (s1.1<(s1.2.length:Int)))<|
    ze s1.2[s1.1.toNat]? fun y2=>
    ze (Qq (y2.toNat:Int)) fun y3=>
    need (decide (0<=s1.1)&&decide (s1.1<(s1.2.length:Int)))<|
    ze s1.2[s1.1.toNat]? fun y4=>
    ze (Z0 y3) fun y5=>
    some (LO.again (w64 (s1.1+1),List.set s1.2 s1.1.toNat y5))
   else
    some (LO.out s1.2):Int×List UInt8->Option (LO (Int×List UInt8) (List UInt8) _)) (0,x) fun o6=>
 some o6
def Z5(x:Str×Str):Option Bool:=
 ze (ZP x.1) fun y1=>
 ze (ZP x.2) fun y2=>
 some (y1==y2)
def Oy(x:List zb):Option (List zb×Bool):=
 ze (zn (!(decide (w64 ((x.length:Int) - 1)<1))) (geti x (w64 ((x.length:Int) - 1))) (default:zb)) fun y1=>
 ze (zn (!(bif decide (w64 ((x.length:Int) - 1)<1)then true else y1.token.kind != 1)) (geti x (w64 ((x.length:Int) - 1))) (default:zb)) fun y2=>
 ze (zn (!(bif decide (w64 ((x.length:Int) - 1)<1)then true else y1.token.kind != 1)) (Z5 (y2.token.text,[105,109,112,111,114,116,97,110,116])) (default:Bool)) fun y3=>
 bif bif bif decide (w64 ((x.length:Int) - 1)<1)then true else y1.token.kind != 1 then true else !y3 then
  some (x,false)
 else
  need (decide (0<=w64 ((x.length:Int) - 1))&&decide (w64 ((x.length:Int) - 1)<=(x.length:Int)))<|
  ze (ZF (List.take (w64 ((x.length:Int) - 1)).toNat x)) fun y4=>
  ze (zn (!((y4.length:Int)==0)) (geti y4 (w64 ((y4.length:Int) - 1))) (default:zb)) fun y5=>
  ze (zn (!(bif (y4.length:Int)==0 then true else y5.token.kind != 9)) (geti y4 (w64 ((y4.length:Int) - 1))) (default:zb)) fun y6=>
  bif bif bif (y4.length:Int)==0 then true else y5.token.kind != 9 then true else !(y6.token.text==[33])then
   some (x,false)
  else
   need (decide (0<=w64 ((y4.length:Int) - 1))&&decide (w64 ((y4.length:Int) - 1)<=(y4.length:Int)))<|
   ze (ZF (List.take (w64 ((y4.length:Int) - 1)).toNat y4)) fun y7=>
   some (y7,true)
def Wx(x:Str):Option Bool:=
 bif bif decide ((x.length:Int)<1)then true else decide ((x.length:Int)>64)then
  some false
 else
  zY (fun(s1:Int)=>
    bif decide (s1<(x.length:Int))then
     ze (geti x s1) fun y2=>
     bif (y2.toNat:Int)==0 then
      some (LO.ret false)
     else
      some (LO.again (w64 (s1+1)))
    else
     some (LO.out ()):Int->Option (LO (Int) (Unit) _)) 0 fun o3=>
  need (decide (2<=(x.length:Int))|| !(decide ((x.length:Int)>=2)))<|
  bif bif decide ((x.length:Int)>=2)then List.take 2 x==[45,45]else false then
   some (decide ((x.length:Int)>2))
  else
   ze (ZP x) fun y4=>
   some (x==y4)
def Um(x:Str):Option Bool:=
 zY (fun(s1:Int)=>
   bif decide (s1<(x.length:Int))then
    ze (geti x s1) fun y2=>
    bif (y2.toNat:Int)==0 then
     some (LO.ret false)
    else
     some (LO.again (w64 (s1+1)))
   else
    some (LO.out ()):Int->Option (LO (Int) (Unit) _)) 0 fun o3=>
 some true
def zH(x:Int):Option Bool:=
 some (bif decide (x>=48)then decide (x<=57)else false)
def Gx(x:Str):Option Bool:=
 bif x==[]then
  some false
 else
  ze (geti x 0) fun y1=>
  ze (zH (y1.toNat:Int)) fun y2=>
  ze (zn (!(bif y2 then true else x==[45])) (geti x 0) 0) fun y3=>
  ze (zn ((y3.toNat:Int)==45&& !(bif y2 then true else x==[45])) (geti x 1) 0) fun y4=>
  ze (zn ((y3.toNat:Int)==45&& !(bif y2 then true else x==[45])) (zH (y4.toNat:Int)) (default:Bool)) fun y5=>
  some (bif bif y2 then true else x==[45]then true else bif (y3.toNat:Int)==45 then y5 else false)
def ZQ(x:Int):Option Bool:=
 some (bif bif x==10 then true else x==9 then true else x==32)
def zx(x:Str×Int):Option Int:=
 bif decide (x.2<(x.1.length:Int))then
  ze (geti x.1 x.2) fun y1=>
  some (y1.toNat:Int)
 else
  some 0
def ZW(x:Str×Int):Option Int:=
 zY (fun(s1:Int)=>
   ze (zx (x.1,s1)) fun y2=>
   ze (ZQ y2) fun y3=>
   bif y3 then
    some (LO.again (w64 (s1+1)))
   else
    some (LO.out s1):Int->Option (LO (Int) (Int) _)) x.2 fun o4=>
 some o4
def Tm(x:Unit):Option Str:=
 some [(239:UInt8),(191:UInt8),(189:UInt8)]
def Ml(x:Int):Option Int:=
 ze (zH x) fun y1=>
 bif y1 then
  some (w64 (wu8 (x - 48)))
 else
  ze (Qq x) fun y2=>
  bif bif decide (y2>=97)then decide (y2<=102)else false then
   some (w64 (w64 (wu8 (y2 - 97))+10))
  else
   some (-1)
def Ms(x:Int):Option Str:=
 bif bif bif x==0 then true else bif decide (x>=55296)then decide (x<=57343)else false then true else decide (x>1114111)then
  ze (Tm ()) fun y1=>
  some y1
 else
  bif decide (x<128)then
   ze (Z0 (wu8 x)) fun y2=>
   some [y2]
  else
   bif decide (x<2048)then
    ze (Z0 (wu8 (w64 (192+w64 (Int.tdiv x 64))))) fun y3=>
    ze (Z0 (wu8 (w64 (128+Int.tmod x 64)))) fun y4=>
    some [y3,y4]
   else
    bif decide (x<65536)then
     ze (Z0 (wu8 (w64 (224+w64 (Int.tdiv x 4096))))) fun y5=>
     ze (Z0 (wu8 (w64 (128+Int.tmod (w64 (Int.tdiv x 64)) 64)))) fun y6=>
     ze (Z0 (wu8 (w64 (128+Int.tmod x 64)))) fun y7=>
     some [y5,y6,y7]
    else
     ze (Z0 (wu8 (w64 (240+w64 (Int.tdiv x 262144))))) fun y8=>
     ze (Z0 (wu8 (w64 (128+Int.tmod (w64 (Int.tdiv x 4096)) 64)))) fun y9=>
     ze (Z0 (wu8 (w64 (128+Int.tmod (w64 (Int.tdiv x 64)) 64)))) fun y10=>
     ze (Z0 (wu8 (w64 (128+Int.tmod x 64)))) fun y11=>
     some [y8,y9,y10,y11]
def Ze(x:Str×Int):Option (Str×Int):=
 bif decide (w64 (x.2+1)>=(x.1.length:Int))then
  ze (Tm ()) fun y1=>
  some (y1,w64 (x.2+1))
 else
  ze (geti x.1 (w64 (x.2+1))) fun y2=>
  ze (Ml (y2.toNat:Int)) fun y3=>
  bif decide (y3<0)then
   need (decide (0<=w64 (x.2+1))&&(decide (w64 (x.2+1)<=w64 (w64 (x.2+1)+1))&&decide (w64 (w64 (x.2+1)+1)<=(x.1.length:Int))))<|
   some (List.drop (w64 (x.2+1)).toNat (List.take (w64 (w64 (x.2+1)+1)).toNat x.1),w64 (w64 (x.2+1)+1))
  else
   zY (fun(s4:Int×Int)=>
     ze (zn (bif decide (s4.2<(x.1.length:Int))then decide (s4.2<w64 (w64 (x.2+1)+6))else false) (geti x.1 s4.2) 0) fun y5=>
     ze (zn (bif decide (s4.2<(x.1.length:Int))then decide (s4.2<w64 (w64 (x.2+1)+6))else false) (Ml (y5.toNat:Int)) (default:Int)) fun y6=>
     bif bif bif decide (s4.2<(x.1.length:Int))then decide (s4.2<w64 (w64 (x.2+1)+6))else false then decide (y6>=0)else false then
      ze (geti x.1 s4.2) fun y7=>
      ze (Ml (y7.toNat:Int)) fun y8=>
      some (LO.again (w64 (w64 (16*s4.1)+y8),w64 (s4.2+1)))
     else
      some (LO.out (s4.1,s4.2)):Int×Int->Option (LO (Int×Int) (Int×Int) _)) (0,w64 (x.2+1)) fun o9=>
   zS (X:=Int) (
     ze (zx (x.1,o9.2)) fun y10=>
     ze (ZQ y10) fun y11=>
     bif y11 then
      some (LX.out (w64 (o9.2+1)))
     else
      some (LX.out o9.2)) fun j12=>
   ze (Ms o9.1) fun y13=>
   some (y13,j12)
def Bp(x:Str×Int):Option (zf×Int):=
 ze (geti x.1 x.2) fun y1=>
 zY (fun(s2:Int×zf×zf)=>
   bif decide (s2.1<(x.1.length:Int))then
    ze (geti x.1 s2.1) fun y3=>
    bif (y3.toNat:Int)==(y1.toNat:Int)then
     some (LO.ret (s2.2.2,w64 (s2.1+1)))
    else
     ze (geti x.1 s2.1) fun y4=>
     bif (y4.toNat:Int)==10 then
      some (LO.ret ((⟨6,[],0,[],false⟩:zf),s2.1))
     else
      ze (geti x.1 s2.1) fun y5=>
      bif bif (y5.toNat:Int)==92 then w64 (s2.1+1)==(x.1.length:Int)else false then
       some (LO.again (w64 (s2.1+1),s2.2.1,s2.2.2))
      else
       ze (geti x.1 s2.1) fun y6=>
       ze (zn ((y6.toNat:Int)==92) (geti x.1 (w64 (s2.1+1))) 0) fun y7=>
       bif bif (y6.toNat:Int)==92 then(y7.toNat:Int)==10 else false then
        some (LO.again (w64 (s2.1+2),s2.2.1,s2.2.2))
       else
        ze (geti x.1 s2.1) fun y8=>
        bif (y8.toNat:Int)==92 then
         ze (Ze (x.1,s2.1)) fun y9=>
         need (Uf s2.2.2.text.length y9.1.length)<|
         some (LO.again (y9.2,s2.2.1,(⟨s2.2.2.kind,s2.2.2.text++y9.1,s2.2.2.num,s2.2.2.unit,s2.2.2.flag⟩:zf)))
        else
         need (decide (0<=s2.1)&&(decide (s2.1<=w64 (s2.1+1))&&decide (w64 (s2.1+1)<=(x.1.length:Int))))<|
         need (Uf s2.2.2.text.length (List.drop s2.1.toNat (List.take (w64 (s2.1+1)).toNat x.1)).length)<|
         some (LO.again (w64 (s2.1+1),s2.2.1,(⟨s2.2.2.kind,s2.2.2.text++List.drop s2.1.toNat (List.take (w64 (s2.1+1)).toNat x.1),s2.2.2.num,s2.2.2.unit,s2.2.2.flag⟩:zf)))
   else
    some (LO.out (s2.1,s2.2.1,s2.2.2)):Int×zf×zf->Option (LO (Int×zf×zf) (Int×zf×zf) _)) (w64 (x.2+1),(⟨0,[],0,[],false⟩:zf),(⟨5,[],0,[],false⟩:zf)) fun o10=>
 some (o10.2.2,o10.1)
def Dp(x:Int):Option Bool:=
 ze (Qq x) fun y1=>
 some (bif bif bif decide (y1>=97)then decide (y1<=122)else false then true else x==95 then true else decide (x>=128))
def Qf(x:Int):Option Bool:=
 ze (Dp x) fun y1=>
 ze (zn (!y1) (zH x) (default:Bool)) fun y2=>
 some (bif bif y1 then true else y2 then true else x==45)
def zP(x:Str×Int):Option Bool:=
 ze (zx (x.1,x.2)) fun y1=>
 ze (zn (y1==92) (zx (x.1,w64 (x.2+1))) (default:Int)) fun y2=>
 some (bif y1==92 then y2 != 10 else false)
def qp(x:Str×Int):Option (Str×Int):=
 zY (fun(s1:Int×Str)=>
   ze (zn (decide (s1.1<(x.1.length:Int))) (geti x.1 s1.1) 0) fun y2=>
   ze (zn (decide (s1.1<(x.1.length:Int))) (Qf (y2.toNat:Int)) (default:Bool)) fun y3=>
   bif bif decide (s1.1<(x.1.length:Int))then y3 else false then
    need (decide (0<=s1.1)&&(decide (s1.1<=w64 (s1.1+1))&&decide (w64 (s1.1+1)<=(x.1.length:Int))))<|
    need (Uf s1.2.length (List.drop s1.1.toNat (List.take (w64 (s1.1+1)).toNat x.1)).length)<|
    some (LO.again (w64 (s1.1+1),s1.2++List.drop s1.1.toNat (List.take (w64 (s1.1+1)).toNat x.1)))
   else
    ze (zn (decide (s1.1<(x.1.length:Int))) (zP (x.1,s1.1)) (default:Bool)) fun y4=>
    bif bif decide (s1.1<(x.1.length:Int))then y4 else false then
     ze (Ze (x.1,s1.1)) fun y5=>
     need (Uf s1.2.length y5.1.length)<|
     some (LO.again (y5.2,s1.2++y5.1))
    else
     some (LO.ret (s1.2,s1.1)):Int×Str->Option (LO (Int×Str) (Unit) _)) (x.2,[]) fun o6=>
 none
def ZL(x:Str×Int):Option Bool:=
 ze (zx (x.1,x.2)) fun y1=>
 bif y1==45 then
  ze (zx (x.1,w64 (x.2+1))) fun y2=>
  ze (Dp y2) fun y3=>
  ze (zn (!y3) (zx (x.1,w64 (x.2+1))) (default:Int)) fun y4=>
  ze (zn (!(bif y3 then true else y4==45)) (zP (x.1,w64 (x.2+1))) (default:Bool)) fun y5=>
  some (bif bif y3 then true else y4==45 then true else y5)
 else
  ze (zx (x.1,x.2)) fun y6=>
  ze (Dp y6) fun y7=>
  ze (zn (!y7) (zP (x.1,x.2)) (default:Bool)) fun y8=>
  some (bif y7 then true else y8)
def QY(x:Str×Int):Option Bool:=
 zS (X:=Int) (
   ze (zx (x.1,x.2)) fun y1=>
   bif bif y1==43 then true else y1==45 then
    some (LX.out (w64 (x.2+1)))
   else
    some (LX.out x.2)) fun j2=>
 zS (X:=Int) (
   ze (zx (x.1,j2)) fun y3=>
   bif y3==46 then
    some (LX.out (w64 (j2+1)))
   else
    some (LX.out j2)) fun j4=>
 ze (zx (x.1,j4)) fun y5=>
 ze (zH y5) fun y6=>
 some y6
def qF(x:Str×Int):Option Int:=
 zY (fun(s1:Int)=>
   ze (zx (x.1,s1)) fun y2=>
   ze (zH y2) fun y3=>
   bif y3 then
    some (LO.again (w64 (s1+1)))
   else
    some (LO.out s1):Int->Option (LO (Int) (Int) _)) x.2 fun o4=>
 some o4
def qM(x:Str×Int):Option (Int×Bool):=
 zS (X:=Int) (
   ze (zx (x.1,x.2)) fun y1=>
   bif bif y1==43 then true else y1==45 then
    some (LX.out (w64 (x.2+1)))
   else
    some (LX.out x.2)) fun j2=>
 ze (qF (x.1,j2)) fun y3=>
 zS (X:=Int×Bool) (
   ze (zx (x.1,y3)) fun y4=>
   ze (zn (y4==46) (zx (x.1,w64 (y3+1))) (default:Int)) fun y5=>
   ze (zn (y4==46) (zH y5) (default:Bool)) fun y6=>
   bif bif y4==46 then y6 else false then
    ze (qF (x.1,w64 (y3+1))) fun y7=>
    some (LX.out (y7,false))
   else
    some (LX.out (y3,true))) fun j8=>
 zS (X:=Int×Bool) (
   ze (zx (x.1,j8.1)) fun y9=>
   bif bif y9==101 then true else y9==69 then
    zS (X:=Int×Bool×Int) (
      ze (zx (x.1,w64 (j8.1+1))) fun y10=>
      bif bif y10==43 then true else y10==45 then
       some (LX.out (j8.1,j8.2,w64 (w64 (j8.1+1)+1)))
      else
       some (LX.out (j8.1,j8.2,w64 (j8.1+1)))) fun j11=>
    ze (zx (x.1,j11.2.2)) fun y12=>
    ze (zH y12) fun y13=>
    bif y13 then
     ze (qF (x.1,j11.2.2)) fun y14=>
     some (LX.out (y14,false))
    else
     some (LX.out (j11.1,j11.2.1))
   else
    some (LX.out (j8.1,j8.2))) fun j15=>
 some (j15.1,j15.2)
def Z6(x:Str):Option Int:=
 ze (geti x 0) fun y1=>
 zS (X:=Str×Int×Int) (
   ze (geti x 0) fun y2=>
   bif bif (y2.toNat:Int)==43 then true else(y1.toNat:Int)==45 then
    some (LX.out ([],3,1))
   else
    some (LX.out ([],3,0))) fun j3=>
 zY (fun(s4:Str×Int)=>
   ze (zx (x,s4.2)) fun y5=>
   ze (zH y5) fun y6=>
   bif y6 then
    need (decide (0<=s4.2)&&(decide (s4.2<=w64 (s4.2+1))&&decide (w64 (s4.2+1)<=(x.length:Int))))<|
    need (Uf s4.1.length (List.drop s4.2.toNat (List.take (w64 (s4.2+1)).toNat x)).length)<|
    some (LO.again (s4.1++List.drop s4.2.toNat (List.take (w64 (s4.2+1)).toNat x),w64 (s4.2+1)))
   else
    some (LO.out (s4.1,s4.2)):Str×Int->Option (LO (Str×Int) (Str×Int) _)) (j3.1,j3.2.2) fun o7=>
 zS (X:=Str×Int×Int) (
   ze (zx (x,o7.2)) fun y8=>
   bif y8==46 then
    zY (fun(s9:Str×Int×Int)=>
      ze (zx (x,s9.2.2)) fun y10=>
      ze (zH y10) fun y11=>
      bif y11 then
       need (decide (0<=s9.2.2)&&(decide (s9.2.2<=w64 (s9.2.2+1))&&decide (w64 (s9.2.2+1)<=(x.length:Int))))<|
       need (Uf s9.1.length (List.drop s9.2.2.toNat (List.take (w64 (s9.2.2+1)).toNat x)).length)<|
       some (LO.again (s9.1++List.drop s9.2.2.toNat (List.take (w64 (s9.2.2+1)).toNat x),w64 (s9.2.1 - 1),w64 (s9.2.2+1)))
      else
       some (LO.out (s9.1,s9.2.1,s9.2.2)):Str×Int×Int->Option (LO (Str×Int×Int) (Str×Int×Int) _)) (o7.1,j3.2.1,w64 (o7.2+1)) fun o12=>
    some (LX.out (o12.1,o12.2.1,o12.2.2))
   else
    some (LX.out (o7.1,j3.2.1,o7.2))) fun j13=>
 zS (X:=Int) (
   bif decide (j13.2.2<(x.length:Int))then
    ze (geti x (w64 (j13.2.2+1))) fun y14=>
    zS (X:=Int×Int) (
      ze (geti x (w64 (j13.2.2+1))) fun y15=>
      bif bif (y15.toNat:Int)==43 then true else(y14.toNat:Int)==45 then
       some (LX.out (j13.2.1,w64 (w64 (j13.2.2+1)+1)))
      else
       some (LX.out (j13.2.1,w64 (j13.2.2+1)))) fun j16=>
    zY (fun(s17:Int×Int)=>
      bif decide (s17.1<(x.length:Int))then
       ze (geti x s17.1) fun y18=>
       some (LO.again (w64 (s17.1+1),if w64 (w64 (10*s17.2)+w64 (wu8 ((y18.toNat:Int) - 48)))<10000 then w64 (w64 (10*s17.2)+w64 (wu8 ((y18.toNat:Int) - 48)))else 10000))
      else
       some (LO.out s17.2):Int×Int->Option (LO (Int×Int) (Int) _)) (j16.2,0) fun o19=>
    zS (X:=Int×Int) (
      bif (y14.toNat:Int)==45 then
       some (LX.out (j16.1,w64 (0 - o19)))
      else
       some (LX.out (j16.1,o19))) fun j20=>
    some (LX.out (w64 (j20.1+j20.2)))
   else
    some (LX.out j13.2.1)) fun j21=>
 zY (fun(s22:Int×Int)=>
   bif bif decide (s22.2<w64 ((j13.1.length:Int)+j21))then decide (s22.2<(j13.1.length:Int))else false then
    ze (geti j13.1 s22.2) fun y23=>
    some (LO.again (if w64 (w64 (10*s22.1)+w64 (wu8 ((y23.toNat:Int) - 48)))<1000000000000 then w64 (w64 (10*s22.1)+w64 (wu8 ((y23.toNat:Int) - 48)))else 1000000000000,w64 (s22.2+1)))
   else
    some (LO.out s22.1):Int×Int->Option (LO (Int×Int) (Int) _)) (0,0) fun o24=>
 zY (fun(s25:Int×Int)=>
   bif bif bif decide (s25.1>0)then decide (s25.2>0)else false then decide (s25.2<1000000000000)else false then
    some (LO.again (w64 (s25.1 - 1),if w64 (10*s25.2)<1000000000000 then w64 (10*s25.2)else 1000000000000))
   else
    some (LO.out s25.2):Int×Int->Option (LO (Int×Int) (Int) _)) (j21,o24) fun o26=>
 bif (y1.toNat:Int)==45 then
  some (w64 (0 - o26))
 else
  some o26
def QL(x:Str×Int):Option (zf×Int):=
 ze (qM (x.1,x.2)) fun y1=>
 need (decide (0<=x.2)&&(decide (x.2<=y1.1)&&decide (y1.1<=(x.1.length:Int))))<|
 ze (Z6 (List.drop x.2.toNat (List.take y1.1.toNat x.1))) fun y2=>
 zS (X:=Int×zf×zf) (
   ze (ZL (x.1,y1.1)) fun y3=>
   bif y3 then
    ze (qp (x.1,y1.1)) fun y4=>
    some (LX.out (y4.2,(⟨0,[],0,[],false⟩:zf),(⟨12,[],y2,y4.1,y1.2⟩:zf)))
   else
    ze (zx (x.1,y1.1)) fun y5=>
    bif y5==37 then
     some (LX.out (w64 (y1.1+1),(⟨0,[],0,[],false⟩:zf),(⟨11,[],y2,[],false⟩:zf)))
    else
     some (LX.out (y1.1,(⟨0,[],0,[],false⟩:zf),(⟨10,[],y2,[],y1.2⟩:zf)))) fun j6=>
 some (j6.2.2,j6.1)
def QS(x:Str×Int×Str):Option Bool:=
 need (decide (0<=x.2.1)&&(decide (x.2.1<=w64 (x.2.1+(x.2.2.length:Int)))&&decide (w64 (x.2.1+(x.2.2.length:Int))<=(x.1.length:Int)))|| !(decide (w64 ((x.1.length:Int) - x.2.1)>=(x.2.2.length:Int))))<|
 some (bif decide (w64 ((x.1.length:Int) - x.2.1)>=(x.2.2.length:Int))then List.drop x.2.1.toNat (List.take (w64 (x.2.1+(x.2.2.length:Int))).toNat x.1)==x.2.2 else false)
def Pk(x:Str×Int):Option (zf×Int):=
 zY (fun(s1:Int)=>
   ze (zn (decide (s1<(x.1.length:Int))) (geti x.1 s1) 0) fun y2=>
   bif bif decide (s1<(x.1.length:Int))then(y2.toNat:Int) != 41 else false then
    ze (zP (x.1,s1)) fun y3=>
    bif y3 then
     ze (Ze (x.1,s1)) fun y4=>
     some (LO.again y4.2)
    else
     some (LO.again (w64 (s1+1)))
   else
    some (LO.out s1):Int->Option (LO (Int) (Int) _)) x.2 fun o5=>
 some ((⟨8,[],0,[],false⟩:zf),if w64 (o5+1)<(x.1.length:Int)then w64 (o5+1)else(x.1.length:Int))
def qI(x:Int):Option Bool:=
 some (bif bif bif decide (x<=8)then true else x==11 then true else bif decide (x>=14)then decide (x<=31)else false then true else x==127)
def jo(x:Str×Int):Option (zf×Int):=
 ze (ZW (x.1,x.2)) fun y1=>
 zY (fun(s2:Int×zf×zf)=>
   ze (zn (decide (s2.1<(x.1.length:Int))) (geti x.1 s2.1) 0) fun y3=>
   bif bif decide (s2.1<(x.1.length:Int))then(y3.toNat:Int) != 41 else false then
    ze (geti x.1 s2.1) fun y4=>
    ze (ZQ (y4.toNat:Int)) fun y5=>
    bif y5 then
     ze (ZW (x.1,s2.1)) fun y6=>
     ze (zn (decide (y6<(x.1.length:Int))) (geti x.1 y6) 0) fun y7=>
     bif bif decide (y6<(x.1.length:Int))then(y7.toNat:Int) != 41 else false then
      ze (Pk (x.1,y6)) fun y8=>
      some (LO.ret (y8.1,y8.2))
     else
      some (LO.again (y6,s2.2.1,s2.2.2))
    else
     ze (zn (!(bif bif (y4.toNat:Int)==34 then true else(y4.toNat:Int)==39 then true else(y4.toNat:Int)==40)) (qI (y4.toNat:Int)) (default:Bool)) fun y9=>
     ze (zn ((y4.toNat:Int)==92&& !(bif bif bif (y4.toNat:Int)==34 then true else(y4.toNat:Int)==39 then true else(y4.toNat:Int)==40 then true else y9)) (zP (x.1,s2.1)) (default:Bool)) fun y10=>
     bif bif bif bif bif (y4.toNat:Int)==34 then true else(y4.toNat:Int)==39 then true else(y4.toNat:Int)==40 then true else y9 then true else bif (y4.toNat:Int)==92 then !y10 else false then
      ze (Pk (x.1,s2.1)) fun y11=>
      some (LO.ret (y11.1,y11.2))
     else
      bif (y4.toNat:Int)==92 then
       ze (Ze (x.1,s2.1)) fun y12=>
       need (Uf s2.2.2.text.length y12.1.length)<|
       some (LO.again (y12.2,s2.2.1,(⟨s2.2.2.kind,s2.2.2.text++y12.1,s2.2.2.num,s2.2.2.unit,s2.2.2.flag⟩:zf)))
      else
       need (decide (0<=s2.1)&&(decide (s2.1<=w64 (s2.1+1))&&decide (w64 (s2.1+1)<=(x.1.length:Int))))<|
       need (Uf s2.2.2.text.length (List.drop s2.1.toNat (List.take (w64 (s2.1+1)).toNat x.1)).length)<|
       some (LO.again (w64 (s2.1+1),s2.2.1,(⟨s2.2.2.kind,s2.2.2.text++List.drop s2.1.toNat (List.take (w64 (s2.1+1)).toNat x.1),s2.2.2.num,s2.2.2.unit,s2.2.2.flag⟩:zf)))
   else
    some (LO.out (s2.1,s2.2.1,s2.2.2)):Int×zf×zf->Option (LO (Int×zf×zf) (Int×zf×zf) _)) (y1,(⟨0,[],0,[],false⟩:zf),(⟨7,[],0,[],false⟩:zf)) fun o13=>
 some (o13.2.2,if w64 (o13.1+1)<(x.1.length:Int)then w64 (o13.1+1)else(x.1.length:Int))
def vo(x:Str×Int):Option (zf×Int):=
 ze (qp (x.1,x.2)) fun y1=>
 ze (zx (x.1,y1.2)) fun y2=>
 bif y2 != 40 then
  some ((⟨1,y1.1,0,[],false⟩:zf),y1.2)
 else
  zS (X:=zf) (
    ze (Z5 (y1.1,[117,114,108])) fun y3=>
    bif y3 then
     ze (ZW (x.1,w64 (y1.2+1))) fun y4=>
     ze (zx (x.1,y4)) fun y5=>
     bif bif y5 != 34 then y5 != 39 else false then
      ze (jo (x.1,w64 (y1.2+1))) fun y6=>
      some (LX.ret (y6.1,y6.2))
     else
      some (LX.out (⟨0,[],0,[],false⟩:zf))
    else
     some (LX.out (⟨0,[],0,[],false⟩:zf))) fun j7=>
  some ((⟨2,y1.1,0,[],false⟩:zf),w64 (y1.2+1))
def wo(x:Int):Option Int:=
 bif x==58 then
  some 16
 else
  bif x==59 then
   some 17
  else
   bif x==44 then
    some 18
   else
    bif x==91 then
     some 19
    else
     bif x==93 then
      some 20
     else
      bif x==40 then
       some 21
      else
       bif x==41 then
        some 22
       else
        bif x==123 then
         some 23
        else
         bif x==125 then
          some 24
         else
          some 0
def Rk(x:Str×Int):Option (zf×Int):=
 ze (geti x.1 x.2) fun y1=>
 ze (ZQ (y1.toNat:Int)) fun y2=>
 bif y2 then
  ze (ZW (x.1,x.2)) fun y3=>
  some ((⟨13,[],0,[],false⟩:zf),y3)
 else
  bif bif (y1.toNat:Int)==34 then true else(y1.toNat:Int)==39 then
   ze (Bp (x.1,x.2)) fun y4=>
   some (y4.1,y4.2)
  else
   ze (zn (decide (w64 (x.2+1)<(x.1.length:Int))&&(y1.toNat:Int)==35) (geti x.1 (w64 (x.2+1))) 0) fun y5=>
   ze (zn (decide (w64 (x.2+1)<(x.1.length:Int))&&(y1.toNat:Int)==35) (Qf (y5.toNat:Int)) (default:Bool)) fun y6=>
   ze (zn (!(bif decide (w64 (x.2+1)<(x.1.length:Int))then y6 else false)&&(y1.toNat:Int)==35) (zP (x.1,w64 (x.2+1))) (default:Bool)) fun y7=>
   bif bif (y1.toNat:Int)==35 then bif bif decide (w64 (x.2+1)<(x.1.length:Int))then y6 else false then true else y7 else false then
    ze (qp (x.1,w64 (x.2+1))) fun y8=>
    ze (ZL (x.1,w64 (x.2+1))) fun y9=>
    some ((⟨4,y8.1,0,[],y9⟩:zf),y8.2)
   else
    ze (QY (x.1,x.2)) fun y10=>
    bif y10 then
     ze (QL (x.1,x.2)) fun y11=>
     some (y11.1,y11.2)
    else
     ze (QS (x.1,x.2,[45,45,62])) fun y12=>
     bif y12 then
      some ((⟨15,[],0,[],false⟩:zf),w64 (x.2+3))
     else
      ze (QS (x.1,x.2,[60,33,45,45])) fun y13=>
      bif y13 then
       some ((⟨14,[],0,[],false⟩:zf),w64 (x.2+4))
      else
       ze (zn ((y1.toNat:Int)==64) (ZL (x.1,w64 (x.2+1))) (default:Bool)) fun y14=>
       bif bif (y1.toNat:Int)==64 then y14 else false then
        ze (qp (x.1,w64 (x.2+1))) fun y15=>
        some ((⟨3,y15.1,0,[],false⟩:zf),y15.2)
       else
        ze (ZL (x.1,x.2)) fun y16=>
        bif y16 then
         ze (vo (x.1,x.2)) fun y17=>
         some (y17.1,y17.2)
        else
         ze (wo (y1.toNat:Int)) fun y18=>
         bif y18 != 0 then
          ze (wo (y1.toNat:Int)) fun y19=>
          some ((⟨y19,[],0,[],false⟩:zf),w64 (x.2+1))
         else
          need (decide (0<=x.2)&&(decide (x.2<=w64 (x.2+1))&&decide (w64 (x.2+1)<=(x.1.length:Int))))<|
          some ((⟨9,List.drop x.2.toNat (List.take (w64 (x.2+1)).toNat x.1),0,[],false⟩:zf),w64 (x.2+1))
def qN(x:Int):Option Bool:=
 ze (Z0 x) fun y1=>
 ze (Rk ([y1,(10:UInt8)],0)) fun y2=>
 some (bif bif bif bif decide (x>=1)then decide (x<=127)else false then x != 12 else false then x != 13 else false then y2.1.kind==9 else false)
def Fx(x:zf):Option Bool:=
 zS (X:=Bool×zf) (
   bif x.kind==1 then
    some (LX.out (x.kind==1,x))
   else
    bif x.kind==2 then
     some (LX.out (x.kind==2,x))
    else
     some (LX.out (x.kind==3,x))) fun j1=>
 bif j1.1 then
  ze (zn (!(x.text==[])) (Um x.text) (default:Bool)) fun y2=>
  some (bif bif !(x.text==[])then y2 else false then j1.2.kind==x.kind&&(([]:Str)==[]&&(j1.2.num==0&&(j1.2.unit==[]&&(j1.2.flag==false&&true))))else false)
 else
  bif x.kind==4 then
   ze (zn (!(x.text==[])) (Um x.text) (default:Bool)) fun y3=>
   ze (zn (!x.flag&&(bif !(x.text==[])then y3 else false)) (Gx x.text) (default:Bool)) fun y4=>
   some (bif bif bif !(x.text==[])then y3 else false then bif x.flag then true else y4 else false then j1.2.kind==x.kind&&(([]:Str)==[]&&(j1.2.num==0&&(j1.2.unit==[]&&(false==false&&true))))else false)
  else
   zS (X:=Bool×zf) (
     bif x.kind==5 then
      some (LX.out (x.kind==5,j1.2))
     else
      some (LX.out (x.kind==7,j1.2))) fun j5=>
   bif j5.1 then
    ze (Um x.text) fun y6=>
    some (bif y6 then j5.2.kind==x.kind&&(([]:Str)==[]&&(j5.2.num==0&&(j5.2.unit==[]&&(j5.2.flag==false&&true))))else false)
   else
    bif x.kind==9 then
     ze (zn ((x.text.length:Int)==1) (geti x.text 0) 0) fun y7=>
     ze (zn ((x.text.length:Int)==1) (qN (y7.toNat:Int)) (default:Bool)) fun y8=>
     some (bif bif (x.text.length:Int)==1 then y8 else false then j5.2.kind==x.kind&&(([]:Str)==[]&&(j5.2.num==0&&(j5.2.unit==[]&&(j5.2.flag==false&&true))))else false)
    else
     zS (X:=Bool×zf) (
       bif x.kind==10 then
        some (LX.out (x.kind==10,j5.2))
       else
        bif x.kind==11 then
         some (LX.out (x.kind==11,j5.2))
        else
         some (LX.out (x.kind==12,j5.2))) fun j9=>
     bif j9.1 then
      ze (zn ((!(x.unit==[]))==(x.kind==12)) (Um x.unit) (default:Bool)) fun y10=>
      some (bif bif bif bif bif decide (x.num>=(-1000000000000))then decide (x.num<=1000000000000)else false then bif !x.flag then true else Int.tmod x.num 1000==0 else false then bif (!(x.unit==[]))==(x.kind==12)then y10 else false else false then bif x.kind != 11 then true else !x.flag else false then j9.2.kind==x.kind&&(j9.2.text==[]&&(0==0&&(([]:Str)==[]&&(false==false&&true))))else false)
     else
      zS (X:=Bool) (
        bif x.kind==6 then
         some (LX.out (x.kind==6))
        else
         some (LX.out (x.kind==8))) fun j11=>
      bif j11 then
       some false
      else
       some (bif bif decide (x.kind>=1)then decide (x.kind<=24)else false then x.kind==x.kind&&(x.text==[]&&(x.num==0&&(x.unit==[]&&(x.flag==false&&true))))else false)
def Jp(x:List zf):Option Int:=
 bif decide ((x.length:Int)>1500)then
  some 4
 else
  zY (fun(s1:Int)=>
    bif decide (s1<(x.length:Int))then
     ze (geti x s1) fun y2=>
     ze (Fx y2) fun y3=>
     bif !y3 then
      some (LO.ret 8)
     else
      zS (X:=Unit) (
        ze (geti x s1) fun y4=>
        ze (zn (y4.kind==2) (geti x s1) (default:zf)) fun y5=>
        ze (zn (y4.kind==2) (Z5 (y5.text,[117,114,108])) (default:Bool)) fun y6=>
        bif bif y4.kind==2 then y6 else false then
         zS (X:=Int) (
           ze (zn (decide (w64 (s1+1)<(x.length:Int))) (geti x (w64 (s1+1))) (default:zf)) fun y7=>
           bif bif decide (w64 (s1+1)<(x.length:Int))then y7.kind==13 else false then
            some (LX.out (w64 (w64 (s1+1)+1)))
           else
            some (LX.out (w64 (s1+1)))) fun j8=>
         ze (zn (!(decide (j8>=(x.length:Int)))) (geti x j8) (default:zf)) fun y9=>
         bif bif decide (j8>=(x.length:Int))then true else y9.kind != 5 then
          some (LX.ret (LO.ret 8))
         else
          some (LX.out ())
        else
         some (LX.out ())) fun j10=>
      ze (geti x s1) fun y11=>
      ze (zn (y11.kind==9) (geti x s1) (default:zf)) fun y12=>
      ze (zn (!(w64 (s1+1)==(x.length:Int))&&(bif y11.kind==9 then y12.text==[92]else false)) (geti x (w64 (s1+1))) (default:zf)) fun y13=>
      bif bif bif y11.kind==9 then y12.text==[92]else false then bif w64 (s1+1)==(x.length:Int)then true else y13.kind != 13 else false then
       some (LO.ret 8)
      else
       some (LO.again (w64 (s1+1)))
    else
     some (LO.out ()):Int->Option (LO (Int) (Unit) _)) 0 fun o14=>
  some 0
def oD(qb:List zb->Option Bool)(x:List zb):Option Bool:=
 zY (fun(s1:Int)=>
   bif decide (s1<(x.length:Int))then
    ze (geti x s1) fun y2=>
    ze (zn (!(bif bif y2.token.kind==20 then true else y2.token.kind==22 then true else y2.token.kind==24)) (geti x s1) (default:zb)) fun y3=>
    ze (zn (!(bif bif y2.token.kind==20 then true else y2.token.kind==22 then true else y2.token.kind==24)) (qb y3.list) (default:Bool)) fun y4=>
    bif bif bif bif y2.token.kind==20 then true else y2.token.kind==22 then true else y2.token.kind==24 then true else y4 then
     some (LO.ret true)
    else
     some (LO.again (w64 (s1+1)))
   else
    some (LO.out ()):Int->Option (LO (Int) (Unit) _)) 0 fun o5=>
 some false
def qb:List zb->Option Bool:=recE (oD)
def Ay(x:Str):Option Bool:=
 need (decide (2<=(x.length:Int))|| !(decide ((x.length:Int)>2)))<|
 some (bif decide ((x.length:Int)>2)then List.take 2 x==[45,45]else false)
def yx(x:Str×List zb):Option Bool:=
 ze (QM x.2) fun y1=>
 ze (zn (!(y1 != 0)) (Zz x.2) (default:List zf)) fun y2=>
 ze (zn (!(y1 != 0)) (Jp y2) (default:Int)) fun y3=>
 ze (zn (!(bif y1 != 0 then true else y3 != 0)) (qb x.2) (default:Bool)) fun y4=>
 bif bif bif y1 != 0 then true else y3 != 0 then true else y4 then
  some false
 else
  ze (ZF x.2) fun y5=>
  ze (zn ((x.2.length:Int)==0&& !((y5.length:Int) != (x.2.length:Int))) (Ay x.1) (default:Bool)) fun y6=>
  bif bif (y5.length:Int) != (x.2.length:Int)then true else bif (x.2.length:Int)==0 then !y6 else false then
   some false
  else
   zY (fun(s7:Int)=>
     bif decide (s7<(x.2.length:Int))then
      ze (geti x.2 s7) fun y8=>
      bif bif y8.token.kind==17 then true else bif y8.token.kind==9 then y8.token.text==[33]else false then
       some (LO.ret false)
      else
       some (LO.again (w64 (s7+1)))
     else
      some (LO.out ()):Int->Option (LO (Int) (Unit) _)) 0 fun o9=>
   some true
def Xx(x:z8):Option Int:=
 ze (Wx x.name) fun y1=>
 ze (zn (!(!y1)) (yx (x.name,x.value)) (default:Bool)) fun y2=>
 bif bif !y1 then true else !y2 then
  some 8
 else
  some 0
def Gp(x:List zb):Option (z8×Bool):=
 ze (ZF x) fun y1=>
 ze (zn (!((y1.length:Int)==0)) (geti y1 0) (default:zb)) fun y2=>
 bif bif (y1.length:Int)==0 then true else y2.token.kind != 1 then
  some ((⟨[],[],false⟩:z8),false)
 else
  ze (geti y1 0) fun y3=>
  zS (X:=List zb×(Str×Bool)×(Str×Bool)) (
    need (decide (2<=(y3.token.text.length:Int))|| !(!(decide ((y3.token.text.length:Int)<2))))<|
    bif bif decide ((y3.token.text.length:Int)<2)then true else !(List.take 2 y3.token.text==[45,45])then
     ze (ZP y3.token.text) fun y4=>
     some (LX.out (y1,([],false),(y4,false)))
    else
     some (LX.out (y1,([],false),(y3.token.text,false)))) fun j5=>
  need (decide (1<=(j5.1.length:Int)))<|
  ze (ZF (List.drop 1 j5.1)) fun y6=>
  ze (zn (!((y6.length:Int)==0)) (geti y6 0) (default:zb)) fun y7=>
  bif bif (y6.length:Int)==0 then true else y7.token.kind != 16 then
   some ((⟨[],[],false⟩:z8),false)
  else
   need (decide (1<=(y6.length:Int)))<|
   ze (ZF (List.drop 1 y6)) fun y8=>
   ze (Oy y8) fun y9=>
   ze (Xx (⟨j5.2.2.1,y9.1,y9.2⟩:z8)) fun y10=>
   bif y10 != 0 then
    some ((⟨[],[],false⟩:z8),false)
   else
    some ((⟨j5.2.2.1,y9.1,y9.2⟩:z8),true)
def Kw(x:List zb):Option (z8×Bool×Int):=
 ze (QM x) fun y1=>
 bif y1 != 0 then
  some ((⟨[],[],false⟩:z8),false,y1)
 else
  ze (Gp x) fun y2=>
  some (y2.1,y2.2,0)
def Lx(x:List zb×Int):Option (List (List zb)×Int):=
 ze (Qw x.1) fun y1=>
 bif y1 != 0 then
  some ([],y1)
 else
  bif bif decide (x.2<1)then true else decide (x.2>24)then
   some ([],2)
  else
   zY (fun(s2:(Int×Int)×List (List zb))=>
     bif decide (s2.1.2<(x.1.length:Int))then
      zS (X:=(Int×Int)×List (List zb)) (
        ze (geti x.1 s2.1.2) fun y3=>
        bif y3.token.kind==x.2 then
         need (decide (0<=s2.1.1)&&(decide (s2.1.1<=s2.1.2)&&(decide (s2.1.2<=s2.1.2)&&decide (s2.1.2<=(x.1.length:Int))))&&decide (s2.1.2=s2.1.2))<|
         ze (Qx (List.drop s2.1.1.toNat (List.take s2.1.2.toNat x.1))) fun y4=>
         need (Zo s2.2.length 1 24)<|
         some (LX.out ((w64 (s2.1.2+1),s2.1.2),s2.2++[y4]))
        else
         some (LX.out ((s2.1.1,s2.1.2),s2.2))) fun j5=>
      some (LO.again ((j5.1.1,w64 (j5.1.2+1)),j5.2))
     else
      some (LO.out (s2.1.1,s2.2)):(Int×Int)×List (List zb)->Option (LO ((Int×Int)×List (List zb)) (Int×List (List zb)) _)) ((0,0),[]) fun o6=>
   need (decide (0<=o6.1)&&decide (o6.1<=(x.1.length:Int)))<|
   ze (Qx (List.drop o6.1.toNat x.1)) fun y7=>
   need (Zo o6.2.length 1 24)<|
   some (o6.2++[y7],0)
def yn(x:List zb):Option (List z8×Int):=
 ze (Lx (x,17)) fun y1=>
 bif y1.2 != 0 then
  some ([],y1.2)
 else
  zY (fun(s2:Int×List z8)=>
    bif decide (s2.1<(y1.1.length:Int))then
     zS (X:=Int×List z8) (
       ze (geti y1.1 s2.1) fun y3=>
       ze (Io y3) fun y4=>
       bif bif y4.2 then decide ((s2.2.length:Int)<32)else false then
        need (Zo s2.2.length 1 48)<|
        some (LX.out (s2.1,s2.2++[y4.1]))
       else
        some (LX.out (s2.1,s2.2))) fun j5=>
     some (LO.again (w64 (j5.1+1),j5.2))
    else
     some (LO.out s2.2):Int×List z8->Option (LO (Int×List z8) (List z8) _)) (0,[]) fun o6=>
  some (o6,0)
def Yx(x:List zb×Int):Option (List (List zb)):=
 zY (fun(s1:Int×(List (List zb)×List (List zb))×List zb)=>
   bif decide (s1.1<(x.1.length:Int))then
    zS (X:=Int×(List (List zb)×List (List zb))×List zb) (
      ze (geti x.1 s1.1) fun y2=>
      bif y2.token.kind==x.2 then
       need (Zo (s1.2.1.1++List.cons s1.2.2 s1.2.1.2).length (0+1+0) 24)<|
       some (LX.out (s1.1,(s1.2.1.1++List.cons s1.2.2 s1.2.1.2++[],[]),[]))
      else
       both (
         need (decide (0<=w64 (((s1.2.1.1.length+1+s1.2.1.2.length:Nat):Int) - 1))&&decide (w64 (((s1.2.1.1.length+1+s1.2.1.2.length:Nat):Int) - 1)<((s1.2.1.1.length+1+s1.2.1.2.length:Nat):Int)))<|
         need (Nat.beq (w64 (((s1.2.1.1.length+1+s1.2.1.2.length:Nat):Int) - 1)).toNat s1.2.1.1.length)<|
         ze (geti x.1 s1.1) fun y3=>
         need (Zo s1.2.2.length 1 80)<|
         need (decide (0<=w64 (((s1.2.1.1.length+1+s1.2.1.2.length:Nat):Int) - 1))&&decide (w64 (((s1.2.1.1.length+1+s1.2.1.2.length:Nat):Int) - 1)<((s1.2.1.1.length+1+s1.2.1.2.length:Nat):Int)))<|
         need (Nat.beq (w64 (((s1.2.1.1.length+1+s1.2.1.2.length:Nat):Int) - 1)).toNat s1.2.1.1.length)<|
         some (LX.out (s1.1,(s1.2.1.1,s1.2.1.2),s1.2.2++[(⟨y3.token,y3.list⟩:zb)]))) (
         need (decide (0<=w64 (((s1.2.1.1.length+1+s1.2.1.2.length:Nat):Int) - 1))&&decide (w64 (((s1.2.1.1.length+1+s1.2.1.2.length:Nat):Int) - 1)<((s1.2.1.1.length+1+s1.2.1.2.length:Nat):Int)))<|
         need (Nat.beq (w64 (((s1.2.1.1.length+1+s1.2.1.2.length:Nat):Int) - 1)).toNat s1.2.1.1.length)<|
         ze (geti x.1 s1.1) fun y4=>
         need (Zo s1.2.2.length 1 80)<|
         need (decide (0<=w64 (((s1.2.1.1.length+1+s1.2.1.2.length:Nat):Int) - 1))&&decide (w64 (((s1.2.1.1.length+1+s1.2.1.2.length:Nat):Int) - 1)<((s1.2.1.1.length+1+s1.2.1.2.length:Nat):Int)))<|
         need (Nat.beq (w64 (((s1.2.1.1.length+1+s1.2.1.2.length:Nat):Int) - 1)).toNat s1.2.1.1.length)<|
         need (decide (0<=(s1.2.2.length:Int))&&decide ((s1.2.2.length:Int)<((s1.2.2++[(⟨(⟨0,[],0,[],false⟩:zf),[]⟩:zb)]).length:Int)))<|
         ze (s1.2.2++[(⟨(⟨0,[],0,[],false⟩:zf),[]⟩:zb)])[s1.2.2.length]? fun y5=>
         some (LX.out (s1.1,(s1.2.1.1,s1.2.1.2),List.set (s1.2.2++[(⟨(⟨0,[],0,[],false⟩:zf),[]⟩:zb)]) s1.2.2.length (⟨y4.token,y4.list⟩:zb))))) fun j6=>
    some (LO.again (w64 (j6.1+1),(j6.2.1.1,j6.2.1.2),j6.2.2))
   else
    some (LO.out ((s1.2.1.1,s1.2.1.2),s1.2.2)):Int×(List (List zb)×List (List zb))×List zb->Option (LO (Int×(List (List zb)×List (List zb))×List zb) ((List (List zb)×List (List zb))×List zb) _)) (0,([],[]),[]) fun o7=>
 some (o7.1.1++List.cons o7.2 o7.1.2)
def Yo(x:List zb):Option (List z8):=
 ze (Yx (x,17)) fun y1=>
 zY (fun(s2:Int×List z8)=>
   bif bif decide (s2.1<(y1.length:Int))then decide ((s2.2.length:Int)<32)else false then
    zS (X:=Int×List z8) (
      ze (geti y1 s2.1) fun y3=>
      ze (Gp y3) fun y4=>
      bif y4.2 then
       need (Zo s2.2.length 1 48)<|
       some (LX.out (s2.1,s2.2++[y4.1]))
      else
       some (LX.out (s2.1,s2.2))) fun j5=>
    some (LO.again (w64 (j5.1+1),j5.2))
   else
    some (LO.out s2.2):Int×List z8->Option (LO (Int×List z8) (List z8) _)) (0,[]) fun o6=>
 some o6
def Xv(x:List zb):Option (List z8×Int):=
 ze (QM x) fun y1=>
 bif y1 != 0 then
  some ([],y1)
 else
  ze (Yo x) fun y2=>
  some (y2,0)
def Zj(x:za):Option za:=
 zY (fun(s1:za)=>
   need (decide (0<=s1.at_)&&decide (s1.at_<=(s1.s.length:Int)))<|
   ze (strings_HasPrefix (List.drop s1.at_.toNat s1.s,[47,42])) fun y2=>
   bif y2 then
    need (decide (0<=w64 (s1.at_+2))&&decide (w64 (s1.at_+2)<=(s1.s.length:Int)))<|
    ze (nk (List.drop (w64 (s1.at_+2)).toNat s1.s,[42,47])) fun y3=>
    bif decide (y3<0)then
     some (LO.ret (⟨s1.s,(s1.s.length:Int)⟩:za))
    else
     some (LO.again (⟨s1.s,w64 (s1.at_+w64 (y3+4))⟩:za))
   else
    some (LO.out s1):za->Option (LO (za) (za) _)) x fun o4=>
 some o4
def zg(x:Int×za):Option Int:=
 bif decide (w64 (x.2.at_+x.1)<(x.2.s.length:Int))then
  ze (geti x.2.s (w64 (x.2.at_+x.1))) fun y1=>
  some (w64 (y1.toNat:Int))
 else
  some (-1)
def qx(x:Int):Option Bool:=
 some (bif bif x==32 then true else x==9 then true else x==10)
def zV(x:za):Option za:=
 zY (fun(s1:za)=>
   ze (zg (0,s1)) fun y2=>
   ze (qx y2) fun y3=>
   bif y3 then
    some (LO.again (⟨s1.s,w64 (s1.at_+1)⟩:za))
   else
    some (LO.out s1):za->Option (LO (za) (za) _)) x fun o4=>
 some o4
def qd(x:Int):Option (List UInt8):=
 bif decide (wu32 x<=2047)then
  ze (Z0 (ibOr IntKind.u8 192 (wu8 (vg IntKind.i32 x 6)))) fun y1=>
  ze (Z0 (ibOr IntKind.u8 128 (yh IntKind.u8 (wu8 x) 63))) fun y2=>
  need (Zo 0 2 1)<|
  some [y1,y2]
 else
  zS (X:=Bool) (
    bif decide (wu32 x<55296)then
     some (LX.out (decide (wu32 x<55296)))
    else
     some (LX.out (bif decide (57343<wu32 x)then decide (wu32 x<=65535)else false))) fun j3=>
  bif j3 then
   ze (Z0 (ibOr IntKind.u8 224 (wu8 (vg IntKind.i32 x 12)))) fun y4=>
   ze (Z0 (ibOr IntKind.u8 128 (yh IntKind.u8 (wu8 (vg IntKind.i32 x 6)) 63))) fun y5=>
   ze (Z0 (ibOr IntKind.u8 128 (yh IntKind.u8 (wu8 x) 63))) fun y6=>
   need (Zo 0 3 1)<|
   some [y4,y5,y6]
  else
   bif bif decide (wu32 x>65535)then decide (wu32 x<=1114111)else false then
    ze (Z0 (ibOr IntKind.u8 240 (wu8 (vg IntKind.i32 x 18)))) fun y7=>
    ze (Z0 (ibOr IntKind.u8 128 (yh IntKind.u8 (wu8 (vg IntKind.i32 x 12)) 63))) fun y8=>
    ze (Z0 (ibOr IntKind.u8 128 (yh IntKind.u8 (wu8 (vg IntKind.i32 x 6)) 63))) fun y9=>
    ze (Z0 (ibOr IntKind.u8 128 (yh IntKind.u8 (wu8 x) 63))) fun y10=>
    need (Zo 0 4 1)<|
    some [y7,y8,y9,y10]
   else
    need (Zo 0 3 1)<|
    some [(239:UInt8),(191:UInt8),(189:UInt8)]
def Z8(x:Int):Option (List UInt8):=
 bif decide (wu32 x<=127)then
  ze (Z0 (wu8 x)) fun y1=>
  need (Zo 0 1 1)<|
  some [y1]
 else
  ze (qd x) fun y2=>
  some y2
def ZY(x:Int×Int×Int):Option Bool:=
 some (bif decide (x.2.1<=x.1)then decide (x.1<=x.2.2)else false)
def Zx(x:Int):Option Bool:=
 ze (ZY (x,48,57)) fun y1=>
 some y1
def Sm(x:Int):Option Int:=
 ze (Zx x) fun y1=>
 bif y1 then
  some (w64 (x - 48))
 else
  ze (zn (x != (-1)) (ZY (ibOr IntKind.i64 x 32,97,102)) (default:Bool)) fun y2=>
  bif bif bif bif x != (-1)then y2 else false then decide (x>64)else false then decide (x<128)else false then
   some (w64 (w64 (ibOr IntKind.i64 x 32 - 97)+10))
  else
   some (-1)
def ZR(x:za):Option (za×List UInt8):=
 ze (zg (0,(⟨x.s,w64 (x.at_+1)⟩:za))) fun y1=>
 bif y1==(-1)then
  ze (Z8 65533) fun y2=>
  some ((⟨x.s,w64 (x.at_+1)⟩:za),y2)
 else
  ze (Sm y1) fun y3=>
  bif decide (y3<0)then
   ze (Z0 (wu8 y1)) fun y4=>
   need (Zo 0 1 1)<|
   some ((⟨x.s,w64 (w64 (x.at_+1)+1)⟩:za),[y4])
  else
   zY (fun(s5:(Int×Int)×za)=>
     bif decide (s5.1.2<6)then
      ze (zg (0,s5.2)) fun y6=>
      ze (Sm y6) fun y7=>
      bif decide (y7<0)then
       some (LO.out (s5.1.1,s5.2))
      else
       some (LO.again ((ibOr IntKind.i64 (Gu IntKind.i64 s5.1.1 4) y7,w64 (s5.1.2+1)),(⟨s5.2.s,w64 (s5.2.at_+1)⟩:za)))
     else
      some (LO.out (s5.1.1,s5.2)):(Int×Int)×za->Option (LO ((Int×Int)×za) (Int×za) _)) ((0,0),(⟨x.s,w64 (x.at_+1)⟩:za)) fun o8=>
   zS (X:=Int×za) (
     ze (zg (0,o8.2)) fun y9=>
     ze (qx y9) fun y10=>
     bif y10 then
      some (LX.out (o8.1,(⟨o8.2.s,w64 (o8.2.at_+1)⟩:za)))
     else
      some (LX.out (o8.1,o8.2))) fun j11=>
   zS (X:=Int) (
     bif j11.1==0 then
      some (LX.out 65533)
     else
      some (LX.out j11.1)) fun j12=>
   ze (Z8 (w32 j12)) fun y13=>
   some (j11.2,y13)
def qf(x:Int×List UInt8):Option (List UInt8):=
 bif decide (wu32 x.1<=2047)then
  ze (Z0 (ibOr IntKind.u8 192 (wu8 (vg IntKind.i32 x.1 6)))) fun y1=>
  ze (Z0 (ibOr IntKind.u8 128 (yh IntKind.u8 (wu8 x.1) 63))) fun y2=>
  need (Zo x.2.length 2 1)<|
  some (x.2++[y1,y2])
 else
  zS (X:=Bool×List UInt8) (
    bif decide (wu32 x.1<55296)then
     some (LX.out (decide (wu32 x.1<55296),x.2))
    else
     some (LX.out (bif decide (57343<wu32 x.1)then decide (wu32 x.1<=65535)else false,x.2))) fun j3=>
  bif j3.1 then
   ze (Z0 (ibOr IntKind.u8 224 (wu8 (vg IntKind.i32 x.1 12)))) fun y4=>
   ze (Z0 (ibOr IntKind.u8 128 (yh IntKind.u8 (wu8 (vg IntKind.i32 x.1 6)) 63))) fun y5=>
   ze (Z0 (ibOr IntKind.u8 128 (yh IntKind.u8 (wu8 x.1) 63))) fun y6=>
   need (Zo j3.2.length 3 1)<|
   some (j3.2++[y4,y5,y6])
  else
   bif bif decide (wu32 x.1>65535)then decide (wu32 x.1<=1114111)else false then
    ze (Z0 (ibOr IntKind.u8 240 (wu8 (vg IntKind.i32 x.1 18)))) fun y7=>
    ze (Z0 (ibOr IntKind.u8 128 (yh IntKind.u8 (wu8 (vg IntKind.i32 x.1 12)) 63))) fun y8=>
    ze (Z0 (ibOr IntKind.u8 128 (yh IntKind.u8 (wu8 (vg IntKind.i32 x.1 6)) 63))) fun y9=>
    ze (Z0 (ibOr IntKind.u8 128 (yh IntKind.u8 (wu8 x.1) 63))) fun y10=>
    need (Zo j3.2.length 4 1)<|
    some (j3.2++[y7,y8,y9,y10])
   else
    need (Zo j3.2.length 3 1)<|
    some (j3.2++[(239:UInt8),(191:UInt8),(189:UInt8)])
def Z9(x:Int×List UInt8):Option (List UInt8):=
 bif decide (wu32 x.1<=127)then
  ze (Z0 (wu8 x.1)) fun y1=>
  need (Zo x.2.length 1 1)<|
  some (x.2++[y1])
 else
  ze (qf (x.1,x.2)) fun y2=>
  some y2
def zO(x:za×List UInt8):Option (za×List UInt8):=
 ze (zg (0,(⟨x.1.s,w64 (x.1.at_+1)⟩:za))) fun y1=>
 bif y1==(-1)then
  ze (Z9 (65533,x.2)) fun y2=>
  some ((⟨x.1.s,w64 (x.1.at_+1)⟩:za),y2)
 else
  ze (Sm y1) fun y3=>
  bif decide (y3<0)then
   ze (Z0 (wu8 y1)) fun y4=>
   need (Zo x.2.length 1 1)<|
   some ((⟨x.1.s,w64 (w64 (x.1.at_+1)+1)⟩:za),x.2++[y4])
  else
   zY (fun(s5:(Int×Int)×za)=>
     bif decide (s5.1.2<6)then
      ze (zg (0,s5.2)) fun y6=>
      ze (Sm y6) fun y7=>
      bif decide (y7<0)then
       some (LO.out (s5.1.1,s5.2))
      else
       some (LO.again ((ibOr IntKind.i64 (Gu IntKind.i64 s5.1.1 4) y7,w64 (s5.1.2+1)),(⟨s5.2.s,w64 (s5.2.at_+1)⟩:za)))
     else
      some (LO.out (s5.1.1,s5.2)):(Int×Int)×za->Option (LO ((Int×Int)×za) (Int×za) _)) ((0,0),(⟨x.1.s,w64 (x.1.at_+1)⟩:za)) fun o8=>
   zS (X:=Int×za×List UInt8) (
     ze (zg (0,o8.2)) fun y9=>
     ze (qx y9) fun y10=>
     bif y10 then
      some (LX.out (o8.1,(⟨o8.2.s,w64 (o8.2.at_+1)⟩:za),x.2))
     else
      some (LX.out (o8.1,o8.2,x.2))) fun j11=>
   zS (X:=Int×List UInt8) (
     bif j11.1==0 then
      some (LX.out (65533,j11.2.2))
     else
      some (LX.out (j11.1,j11.2.2))) fun j12=>
   ze (Z9 (w32 j12.1,j12.2)) fun y13=>
   some (j11.2.1,y13)
def qB(x:za):Option (zf×za):=
 ze (zg (0,x)) fun y1=>
 zY (fun(s2:za×zf×List UInt8)=>
   ze (zg (0,s2.1)) fun y3=>
   bif y3==(-1)then
    some (LO.out (s2.1,s2.2.1,s2.2.2))
   else
    bif y3==y1 then
     some (LO.out ((⟨s2.1.s,w64 (s2.1.at_+1)⟩:za),s2.2.1,s2.2.2))
    else
     bif y3==10 then
      some (LO.ret ((⟨6,[],0,[],false⟩:zf),s2.1))
     else
      ze (zn (y3==92) (zg (1,s2.1)) (default:Int)) fun y4=>
      ze (zn (!(y4==(-1))&&y3==92) (zg (1,s2.1)) (default:Int)) fun y5=>
      bif bif y3==92 then bif y4==(-1)then true else y5==10 else false then
       some (LO.again ((⟨s2.1.s,if(s2.1.s.length:Int)<w64 (s2.1.at_+2)then(s2.1.s.length:Int)else w64 (s2.1.at_+2)⟩:za),s2.2.1,s2.2.2))
      else
       bif y3==92 then
        ze (zO (s2.1,s2.2.2)) fun y6=>
        some (LO.again (y6.1,s2.2.1,y6.2))
       else
        ze (Z0 (wu8 y3)) fun y7=>
        need (Zo s2.2.2.length 1 1)<|
        some (LO.again ((⟨s2.1.s,w64 (s2.1.at_+1)⟩:za),s2.2.1,s2.2.2++[y7])):za×zf×List UInt8->Option (LO (za×zf×List UInt8) (za×zf×List UInt8) _)) ((⟨x.s,w64 (x.at_+1)⟩:za),(⟨0,[],0,[],false⟩:zf),[]) fun o8=>
 some ((⟨5,o8.2.2,0,[],false⟩:zf),o8.1)
def Lp(x:Int):Option Bool:=
 ze (ZY (ibOr IntKind.i64 x 32,97,122)) fun y1=>
 some (bif bif bif bif y1 then decide (x<128)else false then decide (x>64)else false then true else x==95 then true else decide (x>=128))
def Vs(x:Int):Option Bool:=
 ze (Lp x) fun y1=>
 ze (zn (!y1) (Zx x) (default:Bool)) fun y2=>
 some (bif bif y1 then true else y2 then true else x==45)
def zw(x:Int×za):Option Bool:=
 ze (zg (x.1,x.2)) fun y1=>
 ze (zn (y1==92) (zg (w64 (x.1+1),x.2)) (default:Int)) fun y2=>
 some (bif y1==92 then y2 != 10 else false)
def zI(x:Int×za):Option Bool:=
 ze (zg (x.1,x.2)) fun y1=>
 bif y1 != 45 then
  ze (zg (x.1,x.2)) fun y2=>
  ze (Lp y2) fun y3=>
  ze (zn (!y3) (zw (x.1,x.2)) (default:Bool)) fun y4=>
  some (bif y3 then true else y4)
 else
  ze (zg (w64 (x.1+1),x.2)) fun y5=>
  ze (Lp y5) fun y6=>
  ze (zn (!y6) (zg (w64 (x.1+1),x.2)) (default:Int)) fun y7=>
  ze (zn (!(bif y6 then true else y7==45)) (zw (w64 (x.1+1),x.2)) (default:Bool)) fun y8=>
  some (bif bif y6 then true else y7==45 then true else y8)
def zN(x:za):Option (Str×za):=
 zY (fun(s1:za×List UInt8)=>
   ze (zg (0,s1.1)) fun y2=>
   ze (Vs y2) fun y3=>
   bif y3 then
    ze (Z0 (wu8 y2)) fun y4=>
    need (Zo s1.2.length 1 1)<|
    some (LO.again ((⟨s1.1.s,w64 (s1.1.at_+1)⟩:za),s1.2++[y4]))
   else
    ze (zn (y2 != (-1)) (zw (0,s1.1)) (default:Bool)) fun y5=>
    bif bif y2 != (-1)then y5 else false then
     ze (zO (s1.1,s1.2)) fun y6=>
     some (LO.again (y6.1,y6.2))
    else
     some (LO.ret (s1.2,s1.1)):za×List UInt8->Option (LO (za×List UInt8) (Unit) _)) (x,[]) fun o7=>
 none
def Zy(x:za):Option Bool:=
 zS (X:=Int) (
   ze (zg (0,x)) fun y1=>
   bif bif y1==43 then true else y1==45 then
    some (LX.out 1)
   else
    some (LX.out 0)) fun j2=>
 zS (X:=Int) (
   ze (zg (j2,x)) fun y3=>
   bif y3==46 then
    some (LX.out (w64 (j2+1)))
   else
    some (LX.out j2)) fun j4=>
 ze (zg (j4,x)) fun y5=>
 ze (Zx y5) fun y6=>
 some y6
def zQ(x:za):Option za:=
 zY (fun(s1:za)=>
   ze (zg (0,s1)) fun y2=>
   ze (Zx y2) fun y3=>
   bif y3 then
    some (LO.again (⟨s1.s,w64 (s1.at_+1)⟩:za))
   else
    some (LO.out s1):za->Option (LO (za) (za) _)) x fun o4=>
 some o4
def qh(x:za):Option (Bool×za):=
 zS (X:=za) (
   ze (zg (0,x)) fun y1=>
   bif bif y1==43 then true else y1==45 then
    some (LX.out (⟨x.s,w64 (x.at_+1)⟩:za))
   else
    some (LX.out x)) fun j2=>
 ze (zQ j2) fun y3=>
 zS (X:=Bool×za) (
   ze (zg (0,y3)) fun y4=>
   ze (zn (y4==46) (zg (1,y3)) (default:Int)) fun y5=>
   ze (zn (y4==46) (Zx y5) (default:Bool)) fun y6=>
   bif bif y4==46 then y6 else false then
    ze (zQ (⟨y3.s,w64 (y3.at_+1)⟩:za)) fun y7=>
    some (LX.out (false,y7))
   else
    some (LX.out (true,y3))) fun j8=>
 zS (X:=Bool×za) (
   ze (zg (0,j8.2)) fun y9=>
   ze (zn (!(y9==101)) (zg (0,j8.2)) (default:Int)) fun y10=>
   bif bif y9==101 then true else y10==69 then
    zS (X:=(Bool×Int)×za) (
      ze (zg (1,j8.2)) fun y11=>
      bif bif y11==43 then true else y11==45 then
       some (LX.out ((j8.1,2),j8.2))
      else
       some (LX.out ((j8.1,1),j8.2))) fun j12=>
    ze (zg (j12.1.2,j12.2)) fun y13=>
    ze (Zx y13) fun y14=>
    bif y14 then
     ze (zQ (⟨j12.2.s,w64 (j12.2.at_+j12.1.2)⟩:za)) fun y15=>
     some (LX.out (false,y15))
    else
     some (LX.out (j12.1.1,j12.2))
   else
    some (LX.out (j8.1,j8.2))) fun j16=>
 some (j16.1,j16.2)
def QC(x:Str):Option Int:=
 ze (geti x 0) fun y1=>
 ze (xk (x,[43,45])) fun y2=>
 zS (X:=Str×Int) (
   ze (Jl (y2,[101,69])) fun y3=>
   bif decide (y3>=0)then
    need (decide (0<=w64 (y3+1))&&decide (w64 (y3+1)<=(y2.length:Int)))<|
    ze (xk (List.drop (w64 (y3+1)).toNat y2,[43,45])) fun y4=>
    need (decide (y4.length<=maxLen))<|
    zY (fun(s5:Int×Int)=>
      bif decide (s5.2<(y4.length:Int))then
       need (decide (0<=s5.2)&&decide (s5.2<(y4.length:Int)))<|
       ze y4[s5.2.toNat]? fun y6=>
       some (LO.again (if 1048576<w64 (w64 (10*s5.1)+w64 (wu8 ((y6.toNat:Int) - 48)))then 1048576 else w64 (w64 (10*s5.1)+w64 (wu8 ((y6.toNat:Int) - 48))),w64 (s5.2+1)))
      else
       some (LO.out s5.1):Int×Int->Option (LO (Int×Int) (Int) _)) (0,0) fun o7=>
    zS (X:=Str×Int×Int) (
      ze (geti y2 (w64 (y3+1))) fun y8=>
      bif (y8.toNat:Int)==45 then
       some (LX.out (y2,3,w64 (0 - o7)))
      else
       some (LX.out (y2,3,o7))) fun j9=>
    need (decide (0<=y3)&&decide (y3<=(j9.1.length:Int)))<|
    some (LX.out (List.take y3.toNat j9.1,w64 (j9.2.1+j9.2.2)))
   else
    some (LX.out (y2,3))) fun j10=>
 ze (cutF (j10.1,[46])) fun y11=>
 need (Uf y11.1.length y11.2.1.length)<|
 zS (X:=Str×Int) (
   bif decide (w64 (j10.2 - (y11.2.1.length:Int))<0)then
    need (decide (0<=(if w64 (((y11.1++y11.2.1).length:Int)+w64 (j10.2 - (y11.2.1.length:Int)))>0 then w64 (((y11.1++y11.2.1).length:Int)+w64 (j10.2 - (y11.2.1.length:Int)))else 0))&&decide ((if w64 (((y11.1++y11.2.1).length:Int)+w64 (j10.2 - (y11.2.1.length:Int)))>0 then w64 (((y11.1++y11.2.1).length:Int)+w64 (j10.2 - (y11.2.1.length:Int)))else 0)<=((y11.1++y11.2.1).length:Int)))<|
    some (LX.out (List.take (if w64 (((y11.1++y11.2.1).length:Int)+w64 (j10.2 - (y11.2.1.length:Int)))>0 then w64 (((y11.1++y11.2.1).length:Int)+w64 (j10.2 - (y11.2.1.length:Int)))else 0).toNat (y11.1++y11.2.1),w64 (j10.2 - (y11.2.1.length:Int))))
   else
    some (LX.out (y11.1++y11.2.1,w64 (j10.2 - (y11.2.1.length:Int))))) fun j12=>
 need (decide (j12.1.length<=maxLen))<|
 zY (fun(s13:Int×Int)=>
   bif decide (s13.2<(j12.1.length:Int))then
    need (decide (0<=s13.2)&&decide (s13.2<(j12.1.length:Int)))<|
    ze j12.1[s13.2.toNat]? fun y14=>
    some (LO.again (if 1000000000000<w64 (w64 (10*s13.1)+w64 (wu8 ((y14.toNat:Int) - 48)))then 1000000000000 else w64 (w64 (10*s13.1)+w64 (wu8 ((y14.toNat:Int) - 48))),w64 (s13.2+1)))
   else
    some (LO.out s13.1):Int×Int->Option (LO (Int×Int) (Int) _)) (0,0) fun o15=>
 zY (fun(s16:Int×Int)=>
   bif bif bif decide (s16.1>0)then decide (s16.2>0)else false then decide (s16.2<1000000000000)else false then
    some (LO.again (w64 (s16.1 - 1),if 1000000000000<w64 (10*s16.2)then 1000000000000 else w64 (10*s16.2)))
   else
    some (LO.out s16.2):Int×Int->Option (LO (Int×Int) (Int) _)) (j12.2,o15) fun o17=>
 zS (X:=Int) (
   bif (y1.toNat:Int)==45 then
    some (LX.out (w64 (0 - o17)))
   else
    some (LX.out o17)) fun j18=>
 some j18
def ZM(x:za):Option (zf×za):=
 ze (qh x) fun y1=>
 need (decide (0<=x.at_)&&(decide (x.at_<=y1.2.at_)&&decide (y1.2.at_<=(y1.2.s.length:Int))))<|
 ze (QC (List.drop x.at_.toNat (List.take y1.2.at_.toNat y1.2.s))) fun y2=>
 zS (X:=za×zf×zf) (
   ze (zI (0,y1.2)) fun y3=>
   bif y3 then
    ze (zN y1.2) fun y4=>
    some (LX.out (y4.2,(⟨0,[],0,[],false⟩:zf),(⟨12,[],y2,y4.1,y1.1⟩:zf)))
   else
    ze (zg (0,y1.2)) fun y5=>
    bif y5==37 then
     some (LX.out ((⟨y1.2.s,w64 (y1.2.at_+1)⟩:za),(⟨0,[],0,[],false⟩:zf),(⟨11,[],y2,[],false⟩:zf)))
    else
     some (LX.out (y1.2,(⟨0,[],0,[],false⟩:zf),(⟨10,[],y2,[],y1.1⟩:zf)))) fun j6=>
 some (j6.2.2,j6.1)
def Z7(x:za):Option (zf×za):=
 zY (fun(s1:za×zf)=>
   ze (zg (0,s1.1)) fun y2=>
   bif y2==(-1)then
    some (LO.ret ((⟨8,[],0,[],false⟩:zf),s1.1))
   else
    ze (zw (0,s1.1)) fun y3=>
    bif y3 then
     ze (ZR s1.1) fun y4=>
     some (LO.again (y4.1,s1.2))
    else
     ze (geti s1.1.s (w64 (w64 (s1.1.at_+1) - 1))) fun y5=>
     bif (y5.toNat:Int)==41 then
      some (LO.ret ((⟨8,[],0,[],false⟩:zf),(⟨s1.1.s,w64 (s1.1.at_+1)⟩:za)))
     else
      some (LO.again ((⟨s1.1.s,w64 (s1.1.at_+1)⟩:za),s1.2)):za×zf->Option (LO (za×zf) (Unit) _)) (x,(⟨0,[],0,[],false⟩:zf)) fun o6=>
 none
def QB(x:za):Option (zf×za):=
 ze (zV x) fun y1=>
 zY (fun(s2:za×zf×List UInt8)=>
   ze (zg (0,s2.1)) fun y3=>
   zS (X:=Int×za×zf×List UInt8) (
     ze (qx y3) fun y4=>
     bif y4 then
      ze (zV s2.1) fun y5=>
      ze (zg (0,y5)) fun y6=>
      bif bif y6 != 41 then y6 != (-1)else false then
       ze (Z7 y5) fun y7=>
       some (LX.ret (LO.ret (y7.1,y7.2)))
      else
       some (LX.out (y6,y5,s2.2.1,s2.2.2))
     else
      some (LX.out (y3,s2.1,s2.2.1,s2.2.2))) fun j8=>
   bif j8.1==(-1)then
    some (LO.ret ((⟨7,j8.2.2.2,0,[],false⟩:zf),j8.2.1))
   else
    bif j8.1==41 then
     some (LO.ret ((⟨7,j8.2.2.2,0,[],false⟩:zf),(⟨j8.2.1.s,w64 (j8.2.1.at_+1)⟩:za)))
    else
     ze (zn (!(bif bif bif bif j8.1==34 then true else j8.1==39 then true else j8.1==40 then true else decide (j8.1<=8)then true else j8.1==11)) (ZY (j8.1,14,31)) (default:Bool)) fun y9=>
     bif bif bif bif bif bif bif j8.1==34 then true else j8.1==39 then true else j8.1==40 then true else decide (j8.1<=8)then true else j8.1==11 then true else y9 then true else j8.1==127 then
      ze (Z7 j8.2.1) fun y10=>
      some (LO.ret (y10.1,y10.2))
     else
      bif j8.1 != 92 then
       ze (Z0 (wu8 j8.1)) fun y11=>
       need (Zo j8.2.2.2.length 1 1)<|
       some (LO.again ((⟨j8.2.1.s,w64 (j8.2.1.at_+1)⟩:za),j8.2.2.1,j8.2.2.2++[y11]))
      else
       ze (zw (0,j8.2.1)) fun y12=>
       bif y12 then
        ze (zO (j8.2.1,j8.2.2.2)) fun y13=>
        some (LO.again (y13.1,j8.2.2.1,y13.2))
       else
        ze (Z7 j8.2.1) fun y14=>
        some (LO.ret (y14.1,y14.2)):za×zf×List UInt8->Option (LO (za×zf×List UInt8) (Unit) _)) (y1,(⟨0,[],0,[],false⟩:zf),[]) fun o15=>
 none
def ZI(x:za):Option (zf×za):=
 ze (zN x) fun y1=>
 ze (zg (0,y1.2)) fun y2=>
 bif y2 != 40 then
  some ((⟨1,y1.1,0,[],false⟩:zf),y1.2)
 else
  zS (X:=za×zf) (
    ze (Qk (y1.1,[117,114,108])) fun y3=>
    bif y3 then
     ze (zV (⟨y1.2.s,w64 (y1.2.at_+1)⟩:za)) fun y4=>
     ze (zg (0,y4)) fun y5=>
     bif bif y5 != 34 then y5 != 39 else false then
      ze (QB (⟨y1.2.s,w64 (y1.2.at_+1)⟩:za)) fun y6=>
      some (LX.ret (y6.1,y6.2))
     else
      some (LX.out ((⟨y1.2.s,w64 (y1.2.at_+1)⟩:za),(⟨0,[],0,[],false⟩:zf)))
    else
     some (LX.out ((⟨y1.2.s,w64 (y1.2.at_+1)⟩:za),(⟨0,[],0,[],false⟩:zf)))) fun j7=>
  some ((⟨2,y1.1,0,[],false⟩:zf),j7.1)
def ql(x:za):Option (zf×za):=
 ze (zg (0,x)) fun y1=>
 need (decide (0<=x.at_)&&decide (x.at_<=(x.s.length:Int)))<|
 ze (qx y1) fun y2=>
 bif y2 then
  ze (zV x) fun y3=>
  some ((⟨13,[],0,[],false⟩:zf),y3)
 else
  bif bif y1==34 then true else y1==39 then
   ze (qB x) fun y4=>
   some (y4.1,y4.2)
  else
   ze (zn (y1==35) (zg (1,x)) (default:Int)) fun y5=>
   ze (zn (y1==35) (Vs y5) (default:Bool)) fun y6=>
   ze (zn (!y6&&y1==35) (zw (1,x)) (default:Bool)) fun y7=>
   bif bif y1==35 then bif y6 then true else y7 else false then
    ze (zI (1,x)) fun y8=>
    ze (zN (⟨x.s,w64 (x.at_+1)⟩:za)) fun y9=>
    some ((⟨4,y9.1,0,[],y8⟩:zf),y9.2)
   else
    ze (Zy x) fun y10=>
    bif y10 then
     ze (ZM x) fun y11=>
     some (y11.1,y11.2)
    else
     ze (strings_HasPrefix (List.drop x.at_.toNat x.s,[45,45,62])) fun y12=>
     bif y12 then
      some ((⟨15,[],0,[],false⟩:zf),(⟨x.s,w64 (x.at_+3)⟩:za))
     else
      ze (strings_HasPrefix (List.drop x.at_.toNat x.s,[60,33,45,45])) fun y13=>
      bif y13 then
       some ((⟨14,[],0,[],false⟩:zf),(⟨x.s,w64 (x.at_+4)⟩:za))
      else
       ze (zn (y1==64) (zI (1,x)) (default:Bool)) fun y14=>
       bif bif y1==64 then y14 else false then
        ze (zN (⟨x.s,w64 (x.at_+1)⟩:za)) fun y15=>
        some ((⟨3,y15.1,0,[],false⟩:zf),y15.2)
       else
        ze (zI (0,x)) fun y16=>
        bif y16 then
         ze (ZI x) fun y17=>
         some (y17.1,y17.2)
        else
         ze (strings_IndexByte ([58,59,44,91,93,40,41,123,125],wu8 y1)) fun y18=>
         bif decide (y18>=0)then
          some ((⟨wu8 (16+wu8 y18),[],0,[],false⟩:zf),(⟨x.s,w64 (x.at_+1)⟩:za))
         else
          need (decide (1<=((List.drop x.at_.toNat x.s).length:Int)))<|
          some ((⟨9,List.take 1 (List.drop x.at_.toNat x.s),0,[],false⟩:zf),(⟨x.s,w64 (x.at_+1)⟩:za))
def QU(x:(zf×Int×Int)×List zf):Option (List zf):=
 need (Zo x.2.length 1 56)<|
 some (x.2++[x.1.1])
def Ky(x:Str):Option (Int×List zf):=
 ze (Dl x) fun y1=>
 bif y1.2 != 0 then
  some (y1.2,[])
 else
  ze (Zj (⟨y1.1,0⟩:za)) fun y2=>
  zY (fun(s3:Int×List zf×za)=>
    bif decide (s3.2.2.at_<(y1.1.length:Int))then
     bif decide (w64 (s3.1+1)>1500)then
      some (LO.ret (4,s3.2.1))
     else
      ze (ql s3.2.2) fun y4=>
      ze (QU ((y4.1,s3.2.2.at_,y4.2.at_),s3.2.1)) fun y5=>
      ze (Zj y4.2) fun y6=>
      some (LO.again (w64 (s3.1+1),y5,y6))
    else
     some (LO.out (s3.2.1,s3.2.2)):Int×List zf×za->Option (LO (Int×List zf×za) (List zf×za) _)) (0,[],y2) fun o7=>
  some (0,o7.1)
def Ny(x:Str):Option (List zf×Int):=
 ze (Ky x) fun y1=>
 bif y1.1 != 0 then
  some ([],y1.1)
 else
  some (y1.2,0)
def Xw(x:Str):Option (List z8×Int):=
 ze (Ny x) fun y1=>
 bif y1.2 != 0 then
  some ([],y1.2)
 else
  ze (parseF y1.1) fun y2=>
  bif y2.2 != 0 then
   some ([],y2.2)
  else
   ze (yn y2.1) fun y3=>
   some (y3.1,y3.2)
def Sy(x:Str):Option Str:=
 zY (fun(s1:Str×Int)=>
   bif decide (s1.2<(x.length:Int))then
    zS (X:=Str×Int) (
      ze (geti x s1.2) fun y2=>
      ze (zn (bif (y2.toNat:Int)==10 then decide (s1.2>0)else false) (geti x (w64 (s1.2 - 1))) 0) fun y3=>
      bif bif bif (y2.toNat:Int)==10 then decide (s1.2>0)else false then(y3.toNat:Int)==13 else false then
       some (LX.out (s1.1,s1.2))
      else
       zS (X:=Str×Int) (
         bif bif (y2.toNat:Int)==13 then true else(y2.toNat:Int)==12 then
          some (LX.out (s1.1,10))
         else
          some (LX.out (s1.1,(y2.toNat:Int)))) fun j4=>
       bif j4.2==0 then
        need (Uf j4.1.length [(239:UInt8),(191:UInt8),(189:UInt8)].length)<|
        some (LX.out (j4.1++[(239:UInt8),(191:UInt8),(189:UInt8)],s1.2))
       else
        ze (Z0 j4.2) fun y5=>
        need (Uf j4.1.length [y5].length)<|
        some (LX.out (j4.1++[y5],s1.2))) fun j6=>
    some (LO.again (j6.1,w64 (j6.2+1)))
   else
    some (LO.out s1.1):Str×Int->Option (LO (Str×Int) (Str) _)) ([],0) fun o7=>
 some o7
def rC(x:Str):Option (Str×Int):=
 bif decide ((x.length:Int)>4000)then
  some ([],28)
 else
  ze (Sy x) fun y1=>
  some (y1,0)
def yo(x:Str×Int):Option Int:=
 zY (fun(s1:Int)=>
   ze (QS (x.1,s1,[47,42])) fun y2=>
   bif y2 then
    zY (fun(s3:Int)=>
      ze (zn (decide (s3<(x.1.length:Int))) (QS (x.1,s3,[42,47])) (default:Bool)) fun y4=>
      bif bif decide (s3<(x.1.length:Int))then !y4 else false then
       some (LO.again (w64 (s3+1)))
      else
       some (LO.out s3):Int->Option (LO (Int) (Int) _)) (w64 (s1+2)) fun o5=>
    some (LO.again (if w64 (o5+2)<(x.1.length:Int)then w64 (o5+2)else(x.1.length:Int)))
   else
    some (LO.out s1):Int->Option (LO (Int) (Int) _)) x.2 fun o6=>
 some o6
def Mw(x:Str):Option (List zf×List Zg):=
 ze (yo (x,0)) fun y1=>
 zY (fun(s2:Int×List zf×List Zg)=>
   bif decide (s2.1<(x.length:Int))then
    ze (Rk (x,s2.1)) fun y3=>
    need (Zo s2.2.1.length 1 56)<|
    need (Zo s2.2.2.length 1 16)<|
    ze (yo (x,y3.2)) fun y4=>
    some (LO.again (y4,s2.2.1++[y3.1],s2.2.2++[(⟨s2.1,y3.2⟩:Zg)]))
   else
    some (LO.out (s2.2.1,s2.2.2)):Int×List zf×List Zg->Option (LO (Int×List zf×List Zg) (List zf×List Zg) _)) (y1,[],[]) fun o5=>
 some (o5.1,o5.2)
def Dy(x:Str):Option (List zf×Int):=
 ze (rC x) fun y1=>
 bif y1.2 != 0 then
  some ([],y1.2)
 else
  ze (Mw y1.1) fun y2=>
  bif decide ((y2.1.length:Int)>1500)then
   some ([],4)
  else
   some (y2.1,0)
def GD(ZX:List zf×Int×Int×Int->Option (List zb×Int))(x:List zf×Int×Int×Int):Option (List zb×Int):=
 zY (fun(s1:Int×List zb)=>
   ze (zn (!(x.2.2.1==0)&&decide (s1.1<(x.1.length:Int))) (geti x.1 s1.1) (default:zf)) fun y2=>
   bif bif decide (s1.1<(x.1.length:Int))then bif x.2.2.1==0 then true else y2.kind != x.2.2.1 else false then
    ze (geti x.1 s1.1) fun y3=>
    zS (X:=Int×List zb×zb) (
      ze (qg y3.kind) fun y4=>
      bif y4 != 0 then
       bif x.2.2.2==0 then
        some (LX.ret (LO.ret ([],(-1))))
       else
        ze (ZX (x.1,w64 (s1.1+1),y4,w64 (x.2.2.2 - 1))) fun y5=>
        bif decide (y5.2<0)then
         some (LX.ret (LO.ret ([],(-1))))
        else
         some (LX.out (y5.2,s1.2,(⟨y3,y5.1⟩:zb)))
      else
       some (LX.out (w64 (s1.1+1),s1.2,(⟨y3,[]⟩:zb)))) fun j6=>
    need (Zo j6.2.1.length 1 80)<|
    some (LO.again (j6.1,j6.2.1++[(⟨j6.2.2.token,j6.2.2.list⟩:zb)]))
   else
    some (LO.out (s1.1,s1.2)):Int×List zb->Option (LO (Int×List zb) (Int×List zb) _)) (x.2.1,[]) fun o7=>
 some (o7.2,if w64 (o7.1+1)<(x.1.length:Int)then w64 (o7.1+1)else(x.1.length:Int))
def ZX:List zf×Int×Int×Int->Option (List zb×Int):=recE (GD)
def Cy(x:List zf):Option (List zb×Bool):=
 ze (ZX (x,0,0,16)) fun y1=>
 some (y1.1,decide (y1.2>=0))
def ax(x:List zf):Option (List zb×Int):=
 bif decide ((x.length:Int)>1500)then
  some ([],4)
 else
  ze (Cy x) fun y1=>
  bif !y1.2 then
   some ([],20)
  else
   ze (Zz y1.1) fun y2=>
   bif decide ((y2.length:Int)>1500)then
    some ([],4)
   else
    some (y1.1,0)
def Ex(x:Str):Option (List z8×Int):=
 ze (Dy x) fun y1=>
 bif y1.2 != 0 then
  some ([],y1.2)
 else
  ze (ax y1.1) fun y2=>
  bif y2.2 != 0 then
   some ([],y2.2)
  else
   ze (Yo y2.1) fun y3=>
   some (y3,0)
def BD(Q0:List zb×List zb->Option Bool)(x:List zb×List zb):Option Bool:=
 bif (x.1.length:Int) != (x.2.length:Int)then
  some false
 else
  zY (fun(s1:Int)=>
    bif decide (s1<(x.1.length:Int))then
     ze (geti x.1 s1) fun y2=>
     ze (geti x.2 s1) fun y3=>
     ze (zn (!(!(y2.token.kind==y3.token.kind&&(y2.token.text==y3.token.text&&(y2.token.num==y3.token.num&&(y2.token.unit==y3.token.unit&&(y2.token.flag==y3.token.flag&&true))))))) (geti x.1 s1) (default:zb)) fun y4=>
     ze (zn (!(!(y2.token.kind==y3.token.kind&&(y2.token.text==y3.token.text&&(y2.token.num==y3.token.num&&(y2.token.unit==y3.token.unit&&(y2.token.flag==y3.token.flag&&true))))))) (geti x.2 s1) (default:zb)) fun y5=>
     ze (zn (!(!(y2.token.kind==y3.token.kind&&(y2.token.text==y3.token.text&&(y2.token.num==y3.token.num&&(y2.token.unit==y3.token.unit&&(y2.token.flag==y3.token.flag&&true))))))) (Q0 (y4.list,y5.list)) (default:Bool)) fun y6=>
     bif bif !(y2.token.kind==y3.token.kind&&(y2.token.text==y3.token.text&&(y2.token.num==y3.token.num&&(y2.token.unit==y3.token.unit&&(y2.token.flag==y3.token.flag&&true)))))then true else !y6 then
      some (LO.ret false)
     else
      some (LO.again (w64 (s1+1)))
    else
     some (LO.out ()):Int->Option (LO (Int) (Unit) _)) 0 fun o7=>
  some true
def Q0:List zb×List zb->Option Bool:=recE (BD)
def Pp(x:z8×z8):Option Bool:=
 ze (zn (bif x.1.name==x.2.name then x.1.important==x.2.important else false) (Q0 (x.1.value,x.2.value)) (default:Bool)) fun y1=>
 some (bif bif x.1.name==x.2.name then x.1.important==x.2.important else false then y1 else false)
def Ls(x:List z8×List z8):Option Bool:=
 bif (x.1.length:Int) != (x.2.length:Int)then
  some false
 else
  zY (fun(s1:Int)=>
    bif decide (s1<(x.1.length:Int))then
     ze (geti x.1 s1) fun y2=>
     ze (geti x.2 s1) fun y3=>
     ze (Pp (y2,y3)) fun y4=>
     bif !y4 then
      some (LO.ret false)
     else
      some (LO.again (w64 (s1+1)))
    else
     some (LO.out ()):Int->Option (LO (Int) (Unit) _)) 0 fun o5=>
  some true
def mD(x:List zb×Str):Option Bool:=
 ze (dx x.1) fun y1=>
 bif bif bif y1 then true else bif decide ((x.2.length:Int)>500)then decide ((x.2.length:Int)<=4000)else false then true else decide ((x.2.length:Int)>4100)then
  some true
 else
  ze (Gw x.1) fun y2=>
  ze (Kw x.1) fun y3=>
  ze (yn x.1) fun y4=>
  ze (Xv x.1) fun y5=>
  ze (Xw x.2) fun y6=>
  ze (Ex x.2) fun y7=>
  ze (Pp (y2.1,y3.1)) fun y8=>
  ze (zn (bif bif y8 then y2.2.1==y3.2.1 else false then y2.2.2==y3.2.2 else false) (Ls (y4.1,y5.1)) (default:Bool)) fun y9=>
  ze (zn (bif bif bif bif y8 then y2.2.1==y3.2.1 else false then y2.2.2==y3.2.2 else false then y9 else false then y4.2==y5.2 else false) (Ls (y6.1,y7.1)) (default:Bool)) fun y10=>
  some (bif bif bif bif bif bif y8 then y2.2.1==y3.2.1 else false then y2.2.2==y3.2.2 else false then y9 else false then y4.2==y5.2 else false then y10 else false then y6.2==y7.2 else false)
end Go.Lv.VT
end
