/- Texts. -/
import Derived.Test.YtanfjibdgcalfaaGreatDoorTy
import Derived.Test.YtanfjibdgcalfaaGreatDoorLf
noncomputable section
set_option linter.unusedSimpArgs false
set_option linter.unusedVariables false
namespace Go.Lv.VT
set_option maxRecDepth 100000
def VU(_:List zk):Option (VAnb×Int):=none
def Oq(Di:List zg×Int->Option Int)(x:List zg×Int):Option Int:=
 Zc (fun(s1:Int×Int)=>
   bif bif decide (s1.2<(x.1.length:Int))then decide (s1.1<=x.2)else false then
    za (geti x.1 s1.2) fun y2=>
    Zc (fun(s3:Int×Int)=>
      za (geti x.1 s1.2) fun y4=>
      bif bif decide (s3.2<(y4.parts.length:Int))then decide (s3.1<=x.2)else false then
       za (geti x.1 s1.2) fun y5=>
       za (geti y5.parts s3.2) fun y6=>
       za (geti x.1 s1.2) fun y7=>
       za (geti y7.parts s3.2) fun y8=>
       Zc (fun(s9:Int×Int)=>
         bif bif decide (s9.2<(y8.simples.length:Int))then decide (s9.1<=x.2)else false then
          za (geti y8.simples s9.2) fun y10=>
          za (geti y8.simples s9.2) fun y11=>
          za (geti y8.simples s9.2) fun y12=>
          za (Di (y12.list,w64 (x.2 - s9.1))) fun y13=>
          some (LO.again (w64 (s9.1+w64 (w64 (w64 (1+(y10.name.length:Int))+(y11.value.length:Int))+y13)),w64 (s9.2+1)))
         else
          some (LO.out s9.1):Int×Int->Option (LO (Int×Int) (Int) _)) (w64 (s3.1+w64 (1+(y6.tag.length:Int))),0) fun o14=>
       some (LO.again (o14,w64 (s3.2+1)))
      else
       some (LO.out s3.1):Int×Int->Option (LO (Int×Int) (Int) _)) (w64 (s1.1+w64 (1+(y2.combs.length:Int))),0) fun o15=>
    some (LO.again (o15,w64 (s1.2+1)))
   else
    some (LO.out s1.1):Int×Int->Option (LO (Int×Int) (Int) _)) (0,0) fun o16=>
 some o16
def Di:List zg×Int->Option Int:=recE (Oq)
def Nz(x:List zg):Option Bool:=
 za (Di (x,600)) fun y1=>
 some (decide (y1>600))
def Sq(Ei:List ze×Int->Option Int)(x:List ze×Int):Option Int:=
 Zc (fun(s1:Int×Int)=>
   bif bif decide (s1.2<(x.1.length:Int))then decide (s1.1<=x.2)else false then
    za (geti x.1 s1.2) fun y2=>
    za (geti x.1 s1.2) fun y3=>
    za (geti x.1 s1.2) fun y4=>
    za (Ei (y4.list,w64 (x.2 - s1.1))) fun y5=>
    some (LO.again (w64 (s1.1+w64 (w64 (w64 (1+(y2.token.text.length:Int))+(y3.token.unit.length:Int))+y5)),w64 (s1.2+1)))
   else
    some (LO.out s1.1):Int×Int->Option (LO (Int×Int) (Int) _)) (0,0) fun o6=>
 some o6
def Ei:List ze×Int->Option Int:=recE (Sq)
def Tq(x:Int):Option Int:=
 bif x==19 then
  some 20
 else
  zO (X:=Bool) (
    bif x==21 then
     some (LX.out (x==21))
    else
     some (LX.out (x==2))) fun j1=>
  bif j1 then
   some 22
  else
   bif x==23 then
    some 24
   else
    some 0
def OA(Qg:List ze->Option Int)(x:List ze):Option Int:=
 Zc (fun(s1:Int×Int)=>
   bif decide (s1.2<(x.length:Int))then
    zO (X:=Int×Int) (
      za (geti x s1.2) fun y2=>
      za (Tq y2.token.kind) fun y3=>
      bif y3 != 0 then
       za (geti x s1.2) fun y4=>
       za (Qg y4.list) fun y5=>
       some (LX.out (if w64 (1+y5)>s1.1 then w64 (1+y5)else s1.1,s1.2))
      else
       some (LX.out (s1.1,s1.2))) fun j6=>
    some (LO.again (j6.1,w64 (j6.2+1)))
   else
    some (LO.out s1.1):Int×Int->Option (LO (Int×Int) (Int) _)) (0,0) fun o7=>
 some o7
def Qg:List ze->Option Int:=recE (OA)
def Dq(x:List Za):Option Bool:=
 bif decide ((x.length:Int)>40)then
  some true
 else
  Zc (fun(s1:Int×Int)=>
    bif decide (s1.2<(x.length:Int))then
     za (geti x s1.2) fun y2=>
     za (geti x s1.2) fun y3=>
     za (Ei (y3.value,300)) fun y4=>
     za (zA (!(decide (w64 (s1.1+w64 ((y2.name.length:Int)+y4))>300))) (geti x s1.2) (default:Za)) fun y5=>
     za (zA (!(decide (w64 (s1.1+w64 ((y2.name.length:Int)+y4))>300))) (Qg y5.value) (default:Int)) fun y6=>
     bif bif decide (w64 (s1.1+w64 ((y2.name.length:Int)+y4))>300)then true else decide (y6>40)then
      some (LO.ret true)
     else
      some (LO.again (w64 (s1.1+w64 ((y2.name.length:Int)+y4)),w64 (s1.2+1)))
    else
     some (LO.out ()):Int×Int->Option (LO (Int×Int) (Unit) _)) (0,0) fun o7=>
  some false
def Nq(Qh:zm×Int->Option Int)(x:zm×Int):Option Int:=
 Zc (fun(s1:Int×Int)=>
   bif bif decide (s1.2<(x.1.list.length:Int))then decide (s1.1<=x.2)else false then
    za (geti x.1.list s1.2) fun y2=>
    za (Qh ((⟨y2.kind,y2.name,y2.num,y2.decl,y2.list⟩:zm),w64 (x.2 - s1.1))) fun y3=>
    some (LO.again (w64 (s1.1+y3),w64 (s1.2+1)))
   else
    some (LO.out s1.1):Int×Int->Option (LO (Int×Int) (Int) _)) (1,0) fun o4=>
 some o4
def Qh:zm×Int->Option Int:=recE (Nq)
def Mq(Ci:zm->Option Bool)(x:zm):Option Bool:=
 za (Dq [x.decl]) fun y1=>
 bif bif y1 then true else decide ((x.name.length:Int)>200)then
  some true
 else
  Zc (fun(s2:Int)=>
    bif decide (s2<(x.list.length:Int))then
     za (geti x.list s2) fun y3=>
     za (Ci (⟨y3.kind,y3.name,y3.num,y3.decl,y3.list⟩:zm)) fun y4=>
     bif y4 then
      some (LO.ret true)
     else
      some (LO.again (w64 (s2+1)))
    else
     some (LO.out ()):Int->Option (LO (Int) (Unit) _)) 0 fun o5=>
  some false
def Ci:zm->Option Bool:=recE (Mq)
def Iz(x:zm):Option Bool:=
 za (Qh ((⟨x.kind,x.name,x.num,x.decl,x.list⟩:zm),100)) fun y1=>
 za (zA (!(decide (y1>100))) (Ci (⟨x.kind,x.name,x.num,x.decl,x.list⟩:zm)) (default:Bool)) fun y2=>
 some (bif decide (y1>100)then true else y2)
def lq(qH:List zC×Int->Option Bool)(x:List zC×Int):Option Bool:=
 bif bif x.2==0 then true else decide ((x.1.length:Int)>70)then
  some true
 else
  Zc (fun(s1:Int)=>
    bif decide (s1<(x.1.length:Int))then
     za (geti x.1 s1) fun y2=>
     za (Nz y2.selectors) fun y3=>
     za (zA (!y3) (Dq y2.decls) (default:Bool)) fun y4=>
     za (zA (!(bif y3 then true else y4)) (Iz (⟨y2.cond.kind,y2.cond.name,y2.cond.num,y2.cond.decl,y2.cond.list⟩:zm)) (default:Bool)) fun y5=>
     za (zA (!(bif bif bif y3 then true else y4 then true else y5 then true else decide ((y2.names.length:Int)>70))) (qH (y2.rules,w64 (x.2 - 1))) (default:Bool)) fun y6=>
     bif bif bif bif bif y3 then true else y4 then true else y5 then true else decide ((y2.names.length:Int)>70)then true else y6 then
      some (LO.ret true)
     else
      Zc (fun(s7:Int)=>
        bif decide (s7<(y2.names.length:Int))then
         za (geti y2.names s7) fun y8=>
         bif decide ((y8.length:Int)>20)then
          some (LO.ret (LO.ret true))
         else
          some (LO.again (w64 (s7+1)))
        else
         some (LO.out ()):Int->Option (LO (Int) (Unit) _)) 0 fun o9=>
      some (LO.again (w64 (s1+1)))
    else
     some (LO.out ()):Int->Option (LO (Int) (Unit) _)) 0 fun o10=>
  some false
def qH:List zC×Int->Option Bool:=recE (lq)
def gB(qN:List zC->Option Int)(x:List zC):Option Int:=
 Zc (fun(s1:Int×Int)=>
   bif decide (s1.2<(x.length:Int))then
    za (geti x s1.2) fun y2=>
    za (qN y2.rules) fun y3=>
    some (LO.again (w64 (s1.1+y3),w64 (s1.2+1)))
   else
    some (LO.out s1.1):Int×Int->Option (LO (Int×Int) (Int) _)) ((x.length:Int),0) fun o4=>
 some o4
def qN:List zC->Option Int:=recE (gB)
def Iu(x:List zC):Option Bool:=
 za (qH (x,30)) fun y1=>
 za (zA (!y1) (qN x) (default:Int)) fun y2=>
 some (bif y1 then true else decide (y2>70))
def Ku(x:Str×Int):Option Bool:=
 Zc (fun(s1:Int)=>
   bif decide (s1<(x.1.length:Int))then
    za (geti x.1 s1) fun y2=>
    bif (y2.toNat:Int)==0 then
     some (LO.ret false)
    else
     some (LO.again (w64 (s1+1)))
   else
    some (LO.out ()):Int->Option (LO (Int) (Unit) _)) 0 fun o3=>
 some (decide ((x.1.length:Int)<=x.2))
def Mm(x:Str):Option Bool:=
 za (zA (!(x==[])) (Ku (x,64)) (default:Bool)) fun y1=>
 some (bif !(x==[])then y1 else false)
def Sm(x:Int):Option Int:=
 bif bif decide (x>=65)then decide (x<=90)else false then
  some (wu8 (wu8 (x - 65)+97))
 else
  some x
def QK(x:Str):Option Str:=
 need (decide (x.length<=maxLen))<|
 Zc (fun(s1:Int×List UInt8)=>
   bif decide (s1.1<(s1.2.length:Int))then
    need (decide (0<=s1.1)&&decide (s1.1<(s1.2.length:Int)))<|
    za s1.2[s1.1.toNat]? fun y2=>
    za (Sm (y2.toNat:Int)) fun y3=>
    need (decide (0<=s1.1)&&decide (s1.1<(s1.2.length:Int)))<|
    za s1.2[s1.1.toNat]? fun y4=>
    za (qE y3) fun y5=>
    some (LO.again (w64 (s1.1+1),List.set s1.2 s1.1.toNat y5))
   else
    some (LO.out s1.2):Int×List UInt8->Option (LO (Int×List UInt8) (List UInt8) _)) (0,x) fun o6=>
 some o6
def Lu(x:Str):Option Bool:=
 za (Mm x) fun y1=>
 za (zA y1 (QK x) (default:Str)) fun y2=>
 some (bif y1 then x==y2 else false)
def Rq(x:zx):Option QB:=
 some (⟨x.kind,x.name,x.op,x.value,x.fold,x.anb,x.of_⟩:QB)
def Pz(x:VAnb):Option Bool:=
 some (bif bif bif decide (x.a>=(-1000000000))then decide (x.a<=1000000000)else false then decide (x.b>=(-1000000000))else false then decide (x.b<=1000000000)else false)
def Jz(x:zX×Int):Option (zX×Bool):=
 bif bif x.1.deep==3 then true else bif x.2==14 then x.1.has else false then
  some (x.1,false)
 else
  some ((⟨w64 (x.1.deep+1),bif x.1.has then true else x.2==14⟩:zX),true)
def Pq(Zp:zg×zX×Bool->Option Bool)(x:List zg×zX×Int):Option Bool:=
 za (Jz (x.2.1,x.2.2)) fun y1=>
 bif !y1.2 then
  some false
 else
  Zc (fun(s2:Int)=>
    bif decide (s2<(x.1.length:Int))then
     za (geti x.1 s2) fun y3=>
     za (Zp ((⟨y3.lead,y3.parts,y3.combs⟩:zg),y1.1,x.2.2==14)) fun y4=>
     bif !y4 then
      some (LO.ret false)
     else
      some (LO.again (w64 (s2+1)))
    else
     some (LO.out ()):Int->Option (LO (Int) (Unit) _)) 0 fun o5=>
  some true
def Yu(Zp:zg×zX×Bool->Option Bool)(x:zx×zX):Option Bool:=
 za (Rq (⟨x.1.kind,x.1.name,x.1.op,x.1.value,x.1.fold,x.1.anb,x.1.of_,x.1.list⟩:zx)) fun y1=>
 zO (X:=Bool) (
   bif x.1.kind==1 then
    some (LX.out (x.1.kind==1))
   else
    some (LX.out (x.1.kind==2))) fun j2=>
 bif j2 then
  za (Mm x.1.name) fun y3=>
  some (bif bif y3 then y1.kind==x.1.kind&&(y1.name==x.1.name&&(y1.op==0&&(y1.value==[]&&(y1.fold==false&&(y1.anb.a==0&&(y1.anb.b==0&&(y1.of_==false&&true)))))))else false then(x.1.list.length:Int)==0 else false)
 else
  bif x.1.kind==3 then
   za (Lu x.1.name) fun y4=>
   za (zA (bif y4 then decide (x.1.op<=6)else false) (Ku (x.1.value,400)) (default:Bool)) fun y5=>
   some (bif bif bif bif bif y4 then decide (x.1.op<=6)else false then y5 else false then bif x.1.op != 0 then true else bif x.1.value==[]then !x.1.fold else false else false then y1.kind==x.1.kind&&(y1.name==x.1.name&&(y1.op==x.1.op&&(y1.value==x.1.value&&(y1.fold==x.1.fold&&(y1.anb.a==0&&(y1.anb.b==0&&(y1.of_==false&&true)))))))else false then(x.1.list.length:Int)==0 else false)
  else
   zO (X:=Bool) (
     bif x.1.kind==4 then
      some (LX.out (x.1.kind==4))
     else
      bif x.1.kind==5 then
       some (LX.out (x.1.kind==5))
      else
       bif x.1.kind==6 then
        some (LX.out (x.1.kind==6))
       else
        bif x.1.kind==7 then
         some (LX.out (x.1.kind==7))
        else
         some (LX.out (x.1.kind==8))) fun j6=>
   bif j6 then
    some (bif y1.kind==x.1.kind&&(y1.name==[]&&(y1.op==0&&(y1.value==[]&&(y1.fold==false&&(y1.anb.a==0&&(y1.anb.b==0&&(y1.of_==false&&true)))))))then(x.1.list.length:Int)==0 else false)
   else
    zO (X:=Bool) (
      bif x.1.kind==9 then
       some (LX.out (x.1.kind==9))
      else
       some (LX.out (x.1.kind==10))) fun j7=>
    bif j7 then
     za (Pz x.1.anb) fun y8=>
     bif bif !y8 then true else !(y1.kind==x.1.kind&&(y1.name==[]&&(y1.op==0&&(y1.value==[]&&(y1.fold==false&&(y1.anb.a==x.1.anb.a&&(y1.anb.b==x.1.anb.b&&(y1.of_==x.1.of_&&true))))))))then
      some false
     else
      bif !x.1.of_ then
       some ((x.1.list.length:Int)==0)
      else
       za (zA (decide ((x.1.list.length:Int)>0)) (Pq Zp (x.1.list,x.2,x.1.kind)) (default:Bool)) fun y9=>
       some (bif decide ((x.1.list.length:Int)>0)then y9 else false)
    else
     zO (X:=Bool) (
       bif x.1.kind==11 then
        some (LX.out (x.1.kind==11))
       else
        some (LX.out (x.1.kind==12))) fun j10=>
     bif j10 then
      za (zA (y1.kind==x.1.kind&&(y1.name==[]&&(y1.op==0&&(y1.value==[]&&(y1.fold==false&&(y1.anb.a==0&&(y1.anb.b==0&&(y1.of_==false&&true)))))))) (Pq Zp (x.1.list,x.2,x.1.kind)) (default:Bool)) fun y11=>
      some (bif y1.kind==x.1.kind&&(y1.name==[]&&(y1.op==0&&(y1.value==[]&&(y1.fold==false&&(y1.anb.a==0&&(y1.anb.b==0&&(y1.of_==false&&true)))))))then y11 else false)
     else
      zO (X:=Bool) (
        bif x.1.kind==13 then
         some (LX.out (x.1.kind==13))
        else
         some (LX.out (x.1.kind==14))) fun j12=>
      bif j12 then
       za (zA (bif y1.kind==x.1.kind&&(y1.name==[]&&(y1.op==0&&(y1.value==[]&&(y1.fold==false&&(y1.anb.a==0&&(y1.anb.b==0&&(y1.of_==false&&true)))))))then decide ((x.1.list.length:Int)>0)else false) (Pq Zp (x.1.list,x.2,x.1.kind)) (default:Bool)) fun y13=>
       some (bif bif y1.kind==x.1.kind&&(y1.name==[]&&(y1.op==0&&(y1.value==[]&&(y1.fold==false&&(y1.anb.a==0&&(y1.anb.b==0&&(y1.of_==false&&true)))))))then decide ((x.1.list.length:Int)>0)else false then y13 else false)
      else
       some false
def xu(Zp:zg×zX×Bool->Option Bool)(x:zy×zX):Option Bool:=
 za (zA (bif !(x.1.tag==[])then !(x.1.tag==[42])else false) (Lu x.1.tag) (default:Bool)) fun y1=>
 bif bif bif bif bif !(x.1.tag==[])then !(x.1.tag==[42])else false then !y1 else false then true else bif x.1.tag==[]then(x.1.simples.length:Int)==0 else false then true else decide ((x.1.simples.length:Int)>64)then
  some false
 else
  Zc (fun(s2:Int)=>
    bif decide (s2<(x.1.simples.length:Int))then
     za (geti x.1.simples s2) fun y3=>
     za (Yu Zp ((⟨y3.kind,y3.name,y3.op,y3.value,y3.fold,y3.anb,y3.of_,y3.list⟩:zx),x.2)) fun y4=>
     bif !y4 then
      some (LO.ret false)
     else
      some (LO.again (w64 (s2+1)))
    else
     some (LO.out ()):Int->Option (LO (Int) (Unit) _)) 0 fun o5=>
  some true
def bA(Zp:zg×zX×Bool->Option Bool)(x:zg×zX×Bool):Option Bool:=
 bif bif bif bif bif !((x.1.lead != 0)==x.2.2)then true else decide (x.1.lead>4)then true else(x.1.parts.length:Int)==0 then true else decide ((x.1.parts.length:Int)>64)then true else(x.1.combs.length:Int) != w64 ((x.1.parts.length:Int) - 1)then
  some false
 else
  Zc (fun(s1:Int)=>
    bif decide (s1<(x.1.parts.length:Int))then
     za (geti x.1.parts s1) fun y2=>
     za (xu Zp ((⟨y2.tag,y2.simples⟩:zy),x.2.1)) fun y3=>
     za (zA (decide (s1>0)&& !(!y3)) (geti x.1.combs (w64 (s1 - 1))) (default:UInt8)) fun y4=>
     za (zA (!(decide ((y4.toNat:Int)<1))&&(decide (s1>0)&& !(!y3))) (geti x.1.combs (w64 (s1 - 1))) (default:UInt8)) fun y5=>
     bif bif !y3 then true else bif decide (s1>0)then bif decide ((y4.toNat:Int)<1)then true else decide ((y5.toNat:Int)>4)else false then
      some (LO.ret false)
     else
      some (LO.again (w64 (s1+1)))
    else
     some (LO.out ()):Int->Option (LO (Int) (Unit) _)) 0 fun o6=>
  some true
def Zp:zg×zX×Bool->Option Bool:=recE (bA)
def Ty(x:List zg):Option Bool:=
 Zc (fun(s1:Int)=>
   bif decide (s1<(x.length:Int))then
    za (geti x s1) fun y2=>
    za (Zp ((⟨y2.lead,y2.parts,y2.combs⟩:zg),(⟨0,false⟩:zX),false)) fun y3=>
    bif !y3 then
     some (LO.ret false)
    else
     some (LO.again (w64 (s1+1)))
   else
    some (LO.out ()):Int->Option (LO (Int) (Unit) _)) 0 fun o4=>
 some (decide ((x.length:Int)>0))
def iB(Q7:List zg->Option Int)(x:List zg):Option Int:=
 Zc (fun(s1:Int×Int)=>
   bif decide (s1.2<(x.length:Int))then
    Zc (fun(s2:Int×Int)=>
      za (geti x s1.2) fun y3=>
      bif decide (s2.2<(y3.parts.length:Int))then
       za (geti x s1.2) fun y4=>
       za (geti y4.parts s2.2) fun y5=>
       Zc (fun(s6:Int×Int)=>
         bif decide (s6.2<(y5.simples.length:Int))then
          za (geti y5.simples s6.2) fun y7=>
          za (Q7 y7.list) fun y8=>
          some (LO.again (w64 (s6.1+y8),w64 (s6.2+1)))
         else
          some (LO.out s6.1):Int×Int->Option (LO (Int×Int) (Int) _)) (s2.1,0) fun o9=>
       some (LO.again (o9,w64 (s2.2+1)))
      else
       some (LO.out s2.1):Int×Int->Option (LO (Int×Int) (Int) _)) (s1.1,0) fun o10=>
    some (LO.again (o10,w64 (s1.2+1)))
   else
    some (LO.out s1.1):Int×Int->Option (LO (Int×Int) (Int) _)) ((x.length:Int),0) fun o11=>
 some o11
def Q7:List zg->Option Int:=recE (iB)
def Oz(x:List zg):Option Int:=
 za (Ty x) fun y1=>
 bif !y1 then
  some 8
 else
  za (Q7 x) fun y2=>
  bif decide (y2>64)then
   some 4
  else
   some 0
def au(Si:List ze×List ze->Option Bool)(x:List ze×List ze):Option Bool:=
 bif (x.1.length:Int) != (x.2.length:Int)then
  some false
 else
  Zc (fun(s1:Int)=>
    bif decide (s1<(x.1.length:Int))then
     za (geti x.1 s1) fun y2=>
     za (geti x.2 s1) fun y3=>
     za (zA (!(!(y2.token.kind==y3.token.kind&&(y2.token.text==y3.token.text&&(y2.token.num==y3.token.num&&(y2.token.unit==y3.token.unit&&(y2.token.flag==y3.token.flag&&true))))))) (geti x.1 s1) (default:ze)) fun y4=>
     za (zA (!(!(y2.token.kind==y3.token.kind&&(y2.token.text==y3.token.text&&(y2.token.num==y3.token.num&&(y2.token.unit==y3.token.unit&&(y2.token.flag==y3.token.flag&&true))))))) (geti x.2 s1) (default:ze)) fun y5=>
     za (zA (!(!(y2.token.kind==y3.token.kind&&(y2.token.text==y3.token.text&&(y2.token.num==y3.token.num&&(y2.token.unit==y3.token.unit&&(y2.token.flag==y3.token.flag&&true))))))) (Si (y4.list,y5.list)) (default:Bool)) fun y6=>
     bif bif !(y2.token.kind==y3.token.kind&&(y2.token.text==y3.token.text&&(y2.token.num==y3.token.num&&(y2.token.unit==y3.token.unit&&(y2.token.flag==y3.token.flag&&true)))))then true else !y6 then
      some (LO.ret false)
     else
      some (LO.again (w64 (s1+1)))
    else
     some (LO.out ()):Int->Option (LO (Int) (Unit) _)) 0 fun o7=>
  some true
def Si:List ze×List ze->Option Bool:=recE (au)
def Al(x:Za×Za):Option Bool:=
 za (zA (bif x.1.name==x.2.name then x.1.important==x.2.important else false) (Si (x.1.value,x.2.value)) (default:Bool)) fun y1=>
 some (bif bif x.1.name==x.2.name then x.1.important==x.2.important else false then y1 else false)
def Xu(QZ:zm×zm->Option Bool)(x:zm×zm):Option Bool:=
 za (zA (!(bif bif x.1.kind != x.2.kind then true else !(x.1.name==x.2.name)then true else x.1.num != x.2.num)) (Al (x.1.decl,x.2.decl)) (default:Bool)) fun y1=>
 bif bif bif bif bif x.1.kind != x.2.kind then true else !(x.1.name==x.2.name)then true else x.1.num != x.2.num then true else !y1 then true else(x.1.list.length:Int) != (x.2.list.length:Int)then
  some false
 else
  Zc (fun(s2:Int)=>
    bif decide (s2<(x.1.list.length:Int))then
     za (geti x.1.list s2) fun y3=>
     za (geti x.2.list s2) fun y4=>
     za (QZ ((⟨y3.kind,y3.name,y3.num,y3.decl,y3.list⟩:zm),(⟨y4.kind,y4.name,y4.num,y4.decl,y4.list⟩:zm))) fun y5=>
     bif !y5 then
      some (LO.ret false)
     else
      some (LO.again (w64 (s2+1)))
    else
     some (LO.out ()):Int->Option (LO (Int) (Unit) _)) 0 fun o6=>
  some true
def QZ:zm×zm->Option Bool:=recE (Xu)
def Wp(x:zm):Option Bool:=
 za (QZ ((⟨x.kind,x.name,x.num,x.decl,x.list⟩:zm),(⟨0,[],0,(⟨[],[],false⟩:Za),[]⟩:zm))) fun y1=>
 some y1
def Sz(x:Str):Option Bool:=
 bif bif decide ((x.length:Int)<1)then true else decide ((x.length:Int)>64)then
  some false
 else
  Zc (fun(s1:Int)=>
    bif decide (s1<(x.length:Int))then
     za (geti x s1) fun y2=>
     bif (y2.toNat:Int)==0 then
      some (LO.ret false)
     else
      some (LO.again (w64 (s1+1)))
    else
     some (LO.out ()):Int->Option (LO (Int) (Unit) _)) 0 fun o3=>
  need (decide (2<=(x.length:Int))|| !(decide ((x.length:Int)>=2)))<|
  bif bif decide ((x.length:Int)>=2)then List.take 2 x==[45,45]else false then
   some (decide ((x.length:Int)>2))
  else
   za (QK x) fun y4=>
   some (x==y4)
def LB(Qz:List ze->Option (List zk))(x:List ze):Option (List zk):=
 Zc (fun(s1:Int×List zk)=>
   bif decide (s1.1<(x.length:Int))then
    zO (X:=Int×List zk) (
      za (geti x s1.1) fun y2=>
      need (Zb s1.2.length 1 56)<|
      za (geti x s1.1) fun y3=>
      za (Tq y3.token.kind) fun y4=>
      bif y4 != 0 then
       za (geti x s1.1) fun y5=>
       za (Qz y5.list) fun y6=>
       need (Zb (s1.2++[y2.token]).length y6.length 56)<|
       need (Zb (s1.2++[y2.token]++y6).length 1 56)<|
       some (LX.out (s1.1,s1.2++[y2.token]++y6++[(⟨y4,[],0,[],false⟩:zk)]))
      else
       some (LX.out (s1.1,s1.2++[y2.token]))) fun j7=>
    some (LO.again (w64 (j7.1+1),j7.2))
   else
    some (LO.out s1.2):Int×List zk->Option (LO (Int×List zk) (List zk) _)) (0,[]) fun o8=>
 some o8
def Qz:List ze->Option (List zk):=recE (LB)
def JB(Q6:List ze×Int->Option Bool)(x:List ze×Int):Option Bool:=
 Zc (fun(s1:Int)=>
   bif decide (s1<(x.1.length:Int))then
    za (geti x.1 s1) fun y2=>
    za (Tq y2.token.kind) fun y3=>
    za (zA (y3==0) (geti x.1 s1) (default:ze)) fun y4=>
    za (zA (x.2 != 0&& !(bif y3==0 then decide ((y4.list.length:Int)>0)else false)) (geti x.1 s1) (default:ze)) fun y5=>
    za (zA (y3 != 0&& !(bif bif y3==0 then decide ((y4.list.length:Int)>0)else false then true else bif x.2 != 0 then y5.token.kind==x.2 else false)) (geti x.1 s1) (default:ze)) fun y6=>
    za (zA (y3 != 0&& !(bif bif y3==0 then decide ((y4.list.length:Int)>0)else false then true else bif x.2 != 0 then y5.token.kind==x.2 else false)) (Q6 (y6.list,y3)) (default:Bool)) fun y7=>
    bif bif bif bif y3==0 then decide ((y4.list.length:Int)>0)else false then true else bif x.2 != 0 then y5.token.kind==x.2 else false then true else bif y3 != 0 then !y7 else false then
     some (LO.ret false)
    else
     some (LO.again (w64 (s1+1)))
   else
    some (LO.out ()):Int->Option (LO (Int) (Unit) _)) 0 fun o8=>
 some true
def Q6:List ze×Int->Option Bool:=recE (JB)
def Tz(x:List ze):Option Int:=
 za (Qg x) fun y1=>
 bif decide (y1>16)then
  some 20
 else
  za (Qz x) fun y2=>
  bif decide ((y2.length:Int)>1500)then
   some 4
  else
   za (Q6 (x,0)) fun y3=>
   bif !y3 then
    some 8
   else
    some 0
def Pm(x:Str):Option Bool:=
 Zc (fun(s1:Int)=>
   bif decide (s1<(x.length:Int))then
    za (geti x s1) fun y2=>
    bif (y2.toNat:Int)==0 then
     some (LO.ret false)
    else
     some (LO.again (w64 (s1+1)))
   else
    some (LO.out ()):Int->Option (LO (Int) (Unit) _)) 0 fun o3=>
 some true
def ZT(x:Int):Option Bool:=
 some (bif decide (x>=48)then decide (x<=57)else false)
def Vy(x:Str):Option Bool:=
 bif x==[]then
  some false
 else
  za (geti x 0) fun y1=>
  za (ZT (y1.toNat:Int)) fun y2=>
  za (zA (!(bif y2 then true else x==[45])) (geti x 0) 0) fun y3=>
  za (zA ((y3.toNat:Int)==45&& !(bif y2 then true else x==[45])) (geti x 1) 0) fun y4=>
  za (zA ((y3.toNat:Int)==45&& !(bif y2 then true else x==[45])) (ZT (y4.toNat:Int)) (default:Bool)) fun y5=>
  some (bif bif y2 then true else x==[45]then true else bif (y3.toNat:Int)==45 then y5 else false)
def aj(x:Int):Option Bool:=
 some (bif bif x==10 then true else x==9 then true else x==32)
def Zw(x:Str×Int):Option Int:=
 bif decide (x.2<(x.1.length:Int))then
  za (geti x.1 x.2) fun y1=>
  some (y1.toNat:Int)
 else
  some 0
def Vm(x:Str×Int):Option Int:=
 Zc (fun(s1:Int)=>
   za (Zw (x.1,s1)) fun y2=>
   za (aj y2) fun y3=>
   bif y3 then
    some (LO.again (w64 (s1+1)))
   else
    some (LO.out s1):Int->Option (LO (Int) (Int) _)) x.2 fun o4=>
 some o4
def Xy(x:Unit):Option Str:=
 some [(239:UInt8),(191:UInt8),(189:UInt8)]
def Im(x:Int):Option Int:=
 za (ZT x) fun y1=>
 bif y1 then
  some (w64 (wu8 (x - 48)))
 else
  za (Sm x) fun y2=>
  bif bif decide (y2>=97)then decide (y2<=102)else false then
   some (w64 (w64 (wu8 (y2 - 97))+10))
  else
   some (-1)
def CG(x:Int):Option Str:=
 bif bif bif x==0 then true else bif decide (x>=55296)then decide (x<=57343)else false then true else decide (x>1114111)then
  za (Xy ()) fun y1=>
  some y1
 else
  bif decide (x<128)then
   za (qE (wu8 x)) fun y2=>
   some [y2]
  else
   bif decide (x<2048)then
    za (qE (wu8 (w64 (192+w64 (Int.tdiv x 64))))) fun y3=>
    za (qE (wu8 (w64 (128+Int.tmod x 64)))) fun y4=>
    some [y3,y4]
   else
    bif decide (x<65536)then
     za (qE (wu8 (w64 (224+w64 (Int.tdiv x 4096))))) fun y5=>
     za (qE (wu8 (w64 (128+Int.tmod (w64 (Int.tdiv x 64)) 64)))) fun y6=>
     za (qE (wu8 (w64 (128+Int.tmod x 64)))) fun y7=>
     some [y5,y6,y7]
    else
     za (qE (wu8 (w64 (240+w64 (Int.tdiv x 262144))))) fun y8=>
     za (qE (wu8 (w64 (128+Int.tmod (w64 (Int.tdiv x 4096)) 64)))) fun y9=>
     za (qE (wu8 (w64 (128+Int.tmod (w64 (Int.tdiv x 64)) 64)))) fun y10=>
     za (qE (wu8 (w64 (128+Int.tmod x 64)))) fun y11=>
     some [y8,y9,y10,y11]
def Ym(x:Str×Int):Option (Str×Int):=
 bif decide (w64 (x.2+1)>=(x.1.length:Int))then
  za (Xy ()) fun y1=>
  some (y1,w64 (x.2+1))
 else
  za (geti x.1 (w64 (x.2+1))) fun y2=>
  za (Im (y2.toNat:Int)) fun y3=>
  bif decide (y3<0)then
   need (decide (0<=w64 (x.2+1))&&(decide (w64 (x.2+1)<=w64 (w64 (x.2+1)+1))&&decide (w64 (w64 (x.2+1)+1)<=(x.1.length:Int))))<|
   some (List.drop (w64 (x.2+1)).toNat (List.take (w64 (w64 (x.2+1)+1)).toNat x.1),w64 (w64 (x.2+1)+1))
  else
   Zc (fun(s4:Int×Int)=>
     za (zA (bif decide (s4.2<(x.1.length:Int))then decide (s4.2<w64 (w64 (x.2+1)+6))else false) (geti x.1 s4.2) 0) fun y5=>
     za (zA (bif decide (s4.2<(x.1.length:Int))then decide (s4.2<w64 (w64 (x.2+1)+6))else false) (Im (y5.toNat:Int)) (default:Int)) fun y6=>
     bif bif bif decide (s4.2<(x.1.length:Int))then decide (s4.2<w64 (w64 (x.2+1)+6))else false then decide (y6>=0)else false then
      za (geti x.1 s4.2) fun y7=>
      za (Im (y7.toNat:Int)) fun y8=>
      some (LO.again (w64 (w64 (16*s4.1)+y8),w64 (s4.2+1)))
     else
      some (LO.out (s4.1,s4.2)):Int×Int->Option (LO (Int×Int) (Int×Int) _)) (0,w64 (x.2+1)) fun o9=>
   zO (X:=Int) (
     za (Zw (x.1,o9.2)) fun y10=>
     za (aj y10) fun y11=>
     bif y11 then
      some (LX.out (w64 (o9.2+1)))
     else
      some (LX.out o9.2)) fun j12=>
   za (CG o9.1) fun y13=>
   some (y13,j12)
def RA(x:Str×Int):Option (zk×Int):=
 za (geti x.1 x.2) fun y1=>
 Zc (fun(s2:Int×zk×zk)=>
   bif decide (s2.1<(x.1.length:Int))then
    za (geti x.1 s2.1) fun y3=>
    bif (y3.toNat:Int)==(y1.toNat:Int)then
     some (LO.ret (s2.2.2,w64 (s2.1+1)))
    else
     za (geti x.1 s2.1) fun y4=>
     bif (y4.toNat:Int)==10 then
      some (LO.ret ((⟨6,[],0,[],false⟩:zk),s2.1))
     else
      za (geti x.1 s2.1) fun y5=>
      bif bif (y5.toNat:Int)==92 then w64 (s2.1+1)==(x.1.length:Int)else false then
       some (LO.again (w64 (s2.1+1),s2.2.1,s2.2.2))
      else
       za (geti x.1 s2.1) fun y6=>
       za (zA ((y6.toNat:Int)==92) (geti x.1 (w64 (s2.1+1))) 0) fun y7=>
       bif bif (y6.toNat:Int)==92 then(y7.toNat:Int)==10 else false then
        some (LO.again (w64 (s2.1+2),s2.2.1,s2.2.2))
       else
        za (geti x.1 s2.1) fun y8=>
        bif (y8.toNat:Int)==92 then
         za (Ym (x.1,s2.1)) fun y9=>
         need (QV s2.2.2.text.length y9.1.length)<|
         some (LO.again (y9.2,s2.2.1,(⟨s2.2.2.kind,s2.2.2.text++y9.1,s2.2.2.num,s2.2.2.unit,s2.2.2.flag⟩:zk)))
        else
         need (decide (0<=s2.1)&&(decide (s2.1<=w64 (s2.1+1))&&decide (w64 (s2.1+1)<=(x.1.length:Int))))<|
         need (QV s2.2.2.text.length (List.drop s2.1.toNat (List.take (w64 (s2.1+1)).toNat x.1)).length)<|
         some (LO.again (w64 (s2.1+1),s2.2.1,(⟨s2.2.2.kind,s2.2.2.text++List.drop s2.1.toNat (List.take (w64 (s2.1+1)).toNat x.1),s2.2.2.num,s2.2.2.unit,s2.2.2.flag⟩:zk)))
   else
    some (LO.out (s2.1,s2.2.1,s2.2.2)):Int×zk×zk->Option (LO (Int×zk×zk) (Int×zk×zk) _)) (w64 (x.2+1),(⟨0,[],0,[],false⟩:zk),(⟨5,[],0,[],false⟩:zk)) fun o10=>
 some (o10.2.2,o10.1)
def SA(x:Int):Option Bool:=
 za (Sm x) fun y1=>
 some (bif bif bif decide (y1>=97)then decide (y1<=122)else false then true else x==95 then true else decide (x>=128))
def bu(x:Int):Option Bool:=
 za (SA x) fun y1=>
 za (zA (!y1) (ZT x) (default:Bool)) fun y2=>
 some (bif bif y1 then true else y2 then true else x==45)
def Qe(x:Str×Int):Option Bool:=
 za (Zw (x.1,x.2)) fun y1=>
 za (zA (y1==92) (Zw (x.1,w64 (x.2+1))) (default:Int)) fun y2=>
 some (bif y1==92 then y2 != 10 else false)
def Rm(x:Str×Int):Option (Str×Int):=
 Zc (fun(s1:Int×Str)=>
   za (zA (decide (s1.1<(x.1.length:Int))) (geti x.1 s1.1) 0) fun y2=>
   za (zA (decide (s1.1<(x.1.length:Int))) (bu (y2.toNat:Int)) (default:Bool)) fun y3=>
   bif bif decide (s1.1<(x.1.length:Int))then y3 else false then
    need (decide (0<=s1.1)&&(decide (s1.1<=w64 (s1.1+1))&&decide (w64 (s1.1+1)<=(x.1.length:Int))))<|
    need (QV s1.2.length (List.drop s1.1.toNat (List.take (w64 (s1.1+1)).toNat x.1)).length)<|
    some (LO.again (w64 (s1.1+1),s1.2++List.drop s1.1.toNat (List.take (w64 (s1.1+1)).toNat x.1)))
   else
    za (zA (decide (s1.1<(x.1.length:Int))) (Qe (x.1,s1.1)) (default:Bool)) fun y4=>
    bif bif decide (s1.1<(x.1.length:Int))then y4 else false then
     za (Ym (x.1,s1.1)) fun y5=>
     need (QV s1.2.length y5.1.length)<|
     some (LO.again (y5.2,s1.2++y5.1))
    else
     some (LO.ret (s1.2,s1.1)):Int×Str->Option (LO (Int×Str) (Unit) _)) (x.2,[]) fun o6=>
 none
def Q5(x:Str×Int):Option Bool:=
 za (Zw (x.1,x.2)) fun y1=>
 bif y1==45 then
  za (Zw (x.1,w64 (x.2+1))) fun y2=>
  za (SA y2) fun y3=>
  za (zA (!y3) (Zw (x.1,w64 (x.2+1))) (default:Int)) fun y4=>
  za (zA (!(bif y3 then true else y4==45)) (Qe (x.1,w64 (x.2+1))) (default:Bool)) fun y5=>
  some (bif bif y3 then true else y4==45 then true else y5)
 else
  za (Zw (x.1,x.2)) fun y6=>
  za (SA y6) fun y7=>
  za (zA (!y7) (Qe (x.1,x.2)) (default:Bool)) fun y8=>
  some (bif y7 then true else y8)
def WH(x:Str×Int):Option Bool:=
 zO (X:=Int) (
   za (Zw (x.1,x.2)) fun y1=>
   bif bif y1==43 then true else y1==45 then
    some (LX.out (w64 (x.2+1)))
   else
    some (LX.out x.2)) fun j2=>
 zO (X:=Int) (
   za (Zw (x.1,j2)) fun y3=>
   bif y3==46 then
    some (LX.out (w64 (j2+1)))
   else
    some (LX.out j2)) fun j4=>
 za (Zw (x.1,j4)) fun y5=>
 za (ZT y5) fun y6=>
 some y6
def Uq(x:Str×Int):Option Int:=
 Zc (fun(s1:Int)=>
   za (Zw (x.1,s1)) fun y2=>
   za (ZT y2) fun y3=>
   bif y3 then
    some (LO.again (w64 (s1+1)))
   else
    some (LO.out s1):Int->Option (LO (Int) (Int) _)) x.2 fun o4=>
 some o4
def FC(x:Str×Int):Option (Int×Bool):=
 zO (X:=Int) (
   za (Zw (x.1,x.2)) fun y1=>
   bif bif y1==43 then true else y1==45 then
    some (LX.out (w64 (x.2+1)))
   else
    some (LX.out x.2)) fun j2=>
 za (Uq (x.1,j2)) fun y3=>
 zO (X:=Int×Bool) (
   za (Zw (x.1,y3)) fun y4=>
   za (zA (y4==46) (Zw (x.1,w64 (y3+1))) (default:Int)) fun y5=>
   za (zA (y4==46) (ZT y5) (default:Bool)) fun y6=>
   bif bif y4==46 then y6 else false then
    za (Uq (x.1,w64 (y3+1))) fun y7=>
    some (LX.out (y7,false))
   else
    some (LX.out (y3,true))) fun j8=>
 zO (X:=Int×Bool) (
   za (Zw (x.1,j8.1)) fun y9=>
   bif bif y9==101 then true else y9==69 then
    zO (X:=Int×Bool×Int) (
      za (Zw (x.1,w64 (j8.1+1))) fun y10=>
      bif bif y10==43 then true else y10==45 then
       some (LX.out (j8.1,j8.2,w64 (w64 (j8.1+1)+1)))
      else
       some (LX.out (j8.1,j8.2,w64 (j8.1+1)))) fun j11=>
    za (Zw (x.1,j11.2.2)) fun y12=>
    za (ZT y12) fun y13=>
    bif y13 then
     za (Uq (x.1,j11.2.2)) fun y14=>
     some (LX.out (y14,false))
    else
     some (LX.out (j11.1,j11.2.1))
   else
    some (LX.out (j8.1,j8.2))) fun j15=>
 some (j15.1,j15.2)
def oC(x:Str):Option Int:=
 za (geti x 0) fun y1=>
 zO (X:=Str×Int×Int) (
   za (geti x 0) fun y2=>
   bif bif (y2.toNat:Int)==43 then true else(y1.toNat:Int)==45 then
    some (LX.out ([],3,1))
   else
    some (LX.out ([],3,0))) fun j3=>
 Zc (fun(s4:Str×Int)=>
   za (Zw (x,s4.2)) fun y5=>
   za (ZT y5) fun y6=>
   bif y6 then
    need (decide (0<=s4.2)&&(decide (s4.2<=w64 (s4.2+1))&&decide (w64 (s4.2+1)<=(x.length:Int))))<|
    need (QV s4.1.length (List.drop s4.2.toNat (List.take (w64 (s4.2+1)).toNat x)).length)<|
    some (LO.again (s4.1++List.drop s4.2.toNat (List.take (w64 (s4.2+1)).toNat x),w64 (s4.2+1)))
   else
    some (LO.out (s4.1,s4.2)):Str×Int->Option (LO (Str×Int) (Str×Int) _)) (j3.1,j3.2.2) fun o7=>
 zO (X:=Str×Int×Int) (
   za (Zw (x,o7.2)) fun y8=>
   bif y8==46 then
    Zc (fun(s9:Str×Int×Int)=>
      za (Zw (x,s9.2.2)) fun y10=>
      za (ZT y10) fun y11=>
      bif y11 then
       need (decide (0<=s9.2.2)&&(decide (s9.2.2<=w64 (s9.2.2+1))&&decide (w64 (s9.2.2+1)<=(x.length:Int))))<|
       need (QV s9.1.length (List.drop s9.2.2.toNat (List.take (w64 (s9.2.2+1)).toNat x)).length)<|
       some (LO.again (s9.1++List.drop s9.2.2.toNat (List.take (w64 (s9.2.2+1)).toNat x),w64 (s9.2.1 - 1),w64 (s9.2.2+1)))
      else
       some (LO.out (s9.1,s9.2.1,s9.2.2)):Str×Int×Int->Option (LO (Str×Int×Int) (Str×Int×Int) _)) (o7.1,j3.2.1,w64 (o7.2+1)) fun o12=>
    some (LX.out (o12.1,o12.2.1,o12.2.2))
   else
    some (LX.out (o7.1,j3.2.1,o7.2))) fun j13=>
 zO (X:=Int) (
   bif decide (j13.2.2<(x.length:Int))then
    za (geti x (w64 (j13.2.2+1))) fun y14=>
    zO (X:=Int×Int) (
      za (geti x (w64 (j13.2.2+1))) fun y15=>
      bif bif (y15.toNat:Int)==43 then true else(y14.toNat:Int)==45 then
       some (LX.out (j13.2.1,w64 (w64 (j13.2.2+1)+1)))
      else
       some (LX.out (j13.2.1,w64 (j13.2.2+1)))) fun j16=>
    Zc (fun(s17:Int×Int)=>
      bif decide (s17.1<(x.length:Int))then
       za (geti x s17.1) fun y18=>
       some (LO.again (w64 (s17.1+1),if w64 (w64 (10*s17.2)+w64 (wu8 ((y18.toNat:Int) - 48)))<10000 then w64 (w64 (10*s17.2)+w64 (wu8 ((y18.toNat:Int) - 48)))else 10000))
      else
       some (LO.out s17.2):Int×Int->Option (LO (Int×Int) (Int) _)) (j16.2,0) fun o19=>
    zO (X:=Int×Int) (
      bif (y14.toNat:Int)==45 then
       some (LX.out (j16.1,w64 (0 - o19)))
      else
       some (LX.out (j16.1,o19))) fun j20=>
    some (LX.out (w64 (j20.1+j20.2)))
   else
    some (LX.out j13.2.1)) fun j21=>
 Zc (fun(s22:Int×Int)=>
   bif bif decide (s22.2<w64 ((j13.1.length:Int)+j21))then decide (s22.2<(j13.1.length:Int))else false then
    za (geti j13.1 s22.2) fun y23=>
    some (LO.again (if w64 (w64 (10*s22.1)+w64 (wu8 ((y23.toNat:Int) - 48)))<1000000000000 then w64 (w64 (10*s22.1)+w64 (wu8 ((y23.toNat:Int) - 48)))else 1000000000000,w64 (s22.2+1)))
   else
    some (LO.out s22.1):Int×Int->Option (LO (Int×Int) (Int) _)) (0,0) fun o24=>
 Zc (fun(s25:Int×Int)=>
   bif bif bif decide (s25.1>0)then decide (s25.2>0)else false then decide (s25.2<1000000000000)else false then
    some (LO.again (w64 (s25.1 - 1),if w64 (10*s25.2)<1000000000000 then w64 (10*s25.2)else 1000000000000))
   else
    some (LO.out s25.2):Int×Int->Option (LO (Int×Int) (Int) _)) (j21,o24) fun o26=>
 bif (y1.toNat:Int)==45 then
  some (w64 (0 - o26))
 else
  some o26
def fA(x:Str×Int):Option (zk×Int):=
 za (FC (x.1,x.2)) fun y1=>
 need (decide (0<=x.2)&&(decide (x.2<=y1.1)&&decide (y1.1<=(x.1.length:Int))))<|
 za (oC (List.drop x.2.toNat (List.take y1.1.toNat x.1))) fun y2=>
 zO (X:=Int×zk×zk) (
   za (Q5 (x.1,y1.1)) fun y3=>
   bif y3 then
    za (Rm (x.1,y1.1)) fun y4=>
    some (LX.out (y4.2,(⟨0,[],0,[],false⟩:zk),(⟨12,[],y2,y4.1,y1.2⟩:zk)))
   else
    za (Zw (x.1,y1.1)) fun y5=>
    bif y5==37 then
     some (LX.out (w64 (y1.1+1),(⟨0,[],0,[],false⟩:zk),(⟨11,[],y2,[],false⟩:zk)))
    else
     some (LX.out (y1.1,(⟨0,[],0,[],false⟩:zk),(⟨10,[],y2,[],y1.2⟩:zk)))) fun j6=>
 some (j6.2.2,j6.1)
def Lt(x:Str×Int×Str):Option Bool:=
 need (decide (0<=x.2.1)&&(decide (x.2.1<=w64 (x.2.1+(x.2.2.length:Int)))&&decide (w64 (x.2.1+(x.2.2.length:Int))<=(x.1.length:Int)))|| !(decide (w64 ((x.1.length:Int) - x.2.1)>=(x.2.2.length:Int))))<|
 some (bif decide (w64 ((x.1.length:Int) - x.2.1)>=(x.2.2.length:Int))then List.drop x.2.1.toNat (List.take (w64 (x.2.1+(x.2.2.length:Int))).toNat x.1)==x.2.2 else false)
def sj(x:Str×Str):Option Bool:=
 za (QK x.1) fun y1=>
 za (QK x.2) fun y2=>
 some (y1==y2)
def Mt(x:Str×Int):Option (zk×Int):=
 Zc (fun(s1:Int)=>
   za (zA (decide (s1<(x.1.length:Int))) (geti x.1 s1) 0) fun y2=>
   bif bif decide (s1<(x.1.length:Int))then(y2.toNat:Int) != 41 else false then
    za (Qe (x.1,s1)) fun y3=>
    bif y3 then
     za (Ym (x.1,s1)) fun y4=>
     some (LO.again y4.2)
    else
     some (LO.again (w64 (s1+1)))
   else
    some (LO.out s1):Int->Option (LO (Int) (Int) _)) x.2 fun o5=>
 some ((⟨8,[],0,[],false⟩:zk),if w64 (o5+1)<(x.1.length:Int)then w64 (o5+1)else(x.1.length:Int))
def KI(x:Int):Option Bool:=
 some (bif bif bif decide (x<=8)then true else x==11 then true else bif decide (x>=14)then decide (x<=31)else false then true else x==127)
def Wx(x:Str×Int):Option (zk×Int):=
 za (Vm (x.1,x.2)) fun y1=>
 Zc (fun(s2:Int×zk×zk)=>
   za (zA (decide (s2.1<(x.1.length:Int))) (geti x.1 s2.1) 0) fun y3=>
   bif bif decide (s2.1<(x.1.length:Int))then(y3.toNat:Int) != 41 else false then
    za (geti x.1 s2.1) fun y4=>
    za (aj (y4.toNat:Int)) fun y5=>
    bif y5 then
     za (Vm (x.1,s2.1)) fun y6=>
     za (zA (decide (y6<(x.1.length:Int))) (geti x.1 y6) 0) fun y7=>
     bif bif decide (y6<(x.1.length:Int))then(y7.toNat:Int) != 41 else false then
      za (Mt (x.1,y6)) fun y8=>
      some (LO.ret (y8.1,y8.2))
     else
      some (LO.again (y6,s2.2.1,s2.2.2))
    else
     za (zA (!(bif bif (y4.toNat:Int)==34 then true else(y4.toNat:Int)==39 then true else(y4.toNat:Int)==40)) (KI (y4.toNat:Int)) (default:Bool)) fun y9=>
     za (zA ((y4.toNat:Int)==92&& !(bif bif bif (y4.toNat:Int)==34 then true else(y4.toNat:Int)==39 then true else(y4.toNat:Int)==40 then true else y9)) (Qe (x.1,s2.1)) (default:Bool)) fun y10=>
     bif bif bif bif bif (y4.toNat:Int)==34 then true else(y4.toNat:Int)==39 then true else(y4.toNat:Int)==40 then true else y9 then true else bif (y4.toNat:Int)==92 then !y10 else false then
      za (Mt (x.1,s2.1)) fun y11=>
      some (LO.ret (y11.1,y11.2))
     else
      bif (y4.toNat:Int)==92 then
       za (Ym (x.1,s2.1)) fun y12=>
       need (QV s2.2.2.text.length y12.1.length)<|
       some (LO.again (y12.2,s2.2.1,(⟨s2.2.2.kind,s2.2.2.text++y12.1,s2.2.2.num,s2.2.2.unit,s2.2.2.flag⟩:zk)))
      else
       need (decide (0<=s2.1)&&(decide (s2.1<=w64 (s2.1+1))&&decide (w64 (s2.1+1)<=(x.1.length:Int))))<|
       need (QV s2.2.2.text.length (List.drop s2.1.toNat (List.take (w64 (s2.1+1)).toNat x.1)).length)<|
       some (LO.again (w64 (s2.1+1),s2.2.1,(⟨s2.2.2.kind,s2.2.2.text++List.drop s2.1.toNat (List.take (w64 (s2.1+1)).toNat x.1),s2.2.2.num,s2.2.2.unit,s2.2.2.flag⟩:zk)))
   else
    some (LO.out (s2.1,s2.2.1,s2.2.2)):Int×zk×zk->Option (LO (Int×zk×zk) (Int×zk×zk) _)) (y1,(⟨0,[],0,[],false⟩:zk),(⟨7,[],0,[],false⟩:zk)) fun o13=>
 some (o13.2.2,if w64 (o13.1+1)<(x.1.length:Int)then w64 (o13.1+1)else(x.1.length:Int))
def Wy(x:Str×Int):Option (zk×Int):=
 za (Rm (x.1,x.2)) fun y1=>
 za (Zw (x.1,y1.2)) fun y2=>
 bif y2 != 40 then
  some ((⟨1,y1.1,0,[],false⟩:zk),y1.2)
 else
  zO (X:=zk) (
    za (sj (y1.1,[117,114,108])) fun y3=>
    bif y3 then
     za (Vm (x.1,w64 (y1.2+1))) fun y4=>
     za (Zw (x.1,y4)) fun y5=>
     bif bif y5 != 34 then y5 != 39 else false then
      za (Wx (x.1,w64 (y1.2+1))) fun y6=>
      some (LX.ret (y6.1,y6.2))
     else
      some (LX.out (⟨0,[],0,[],false⟩:zk))
    else
     some (LX.out (⟨0,[],0,[],false⟩:zk))) fun j7=>
  some ((⟨2,y1.1,0,[],false⟩:zk),w64 (y1.2+1))
def Cu(x:Int):Option Int:=
 bif x==58 then
  some 16
 else
  bif x==59 then
   some 17
  else
   bif x==44 then
    some 18
   else
    bif x==91 then
     some 19
    else
     bif x==93 then
      some 20
     else
      bif x==40 then
       some 21
      else
       bif x==41 then
        some 22
       else
        bif x==123 then
         some 23
        else
         bif x==125 then
          some 24
         else
          some 0
def Xx(x:Str×Int):Option (zk×Int):=
 za (geti x.1 x.2) fun y1=>
 za (aj (y1.toNat:Int)) fun y2=>
 bif y2 then
  za (Vm (x.1,x.2)) fun y3=>
  some ((⟨13,[],0,[],false⟩:zk),y3)
 else
  bif bif (y1.toNat:Int)==34 then true else(y1.toNat:Int)==39 then
   za (RA (x.1,x.2)) fun y4=>
   some (y4.1,y4.2)
  else
   za (zA (decide (w64 (x.2+1)<(x.1.length:Int))&&(y1.toNat:Int)==35) (geti x.1 (w64 (x.2+1))) 0) fun y5=>
   za (zA (decide (w64 (x.2+1)<(x.1.length:Int))&&(y1.toNat:Int)==35) (bu (y5.toNat:Int)) (default:Bool)) fun y6=>
   za (zA (!(bif decide (w64 (x.2+1)<(x.1.length:Int))then y6 else false)&&(y1.toNat:Int)==35) (Qe (x.1,w64 (x.2+1))) (default:Bool)) fun y7=>
   bif bif (y1.toNat:Int)==35 then bif bif decide (w64 (x.2+1)<(x.1.length:Int))then y6 else false then true else y7 else false then
    za (Rm (x.1,w64 (x.2+1))) fun y8=>
    za (Q5 (x.1,w64 (x.2+1))) fun y9=>
    some ((⟨4,y8.1,0,[],y9⟩:zk),y8.2)
   else
    za (WH (x.1,x.2)) fun y10=>
    bif y10 then
     za (fA (x.1,x.2)) fun y11=>
     some (y11.1,y11.2)
    else
     za (Lt (x.1,x.2,[45,45,62])) fun y12=>
     bif y12 then
      some ((⟨15,[],0,[],false⟩:zk),w64 (x.2+3))
     else
      za (Lt (x.1,x.2,[60,33,45,45])) fun y13=>
      bif y13 then
       some ((⟨14,[],0,[],false⟩:zk),w64 (x.2+4))
      else
       za (zA ((y1.toNat:Int)==64) (Q5 (x.1,w64 (x.2+1))) (default:Bool)) fun y14=>
       bif bif (y1.toNat:Int)==64 then y14 else false then
        za (Rm (x.1,w64 (x.2+1))) fun y15=>
        some ((⟨3,y15.1,0,[],false⟩:zk),y15.2)
       else
        za (Q5 (x.1,x.2)) fun y16=>
        bif y16 then
         za (Wy (x.1,x.2)) fun y17=>
         some (y17.1,y17.2)
        else
         za (Cu (y1.toNat:Int)) fun y18=>
         bif y18 != 0 then
          za (Cu (y1.toNat:Int)) fun y19=>
          some ((⟨y19,[],0,[],false⟩:zk),w64 (x.2+1))
         else
          need (decide (0<=x.2)&&(decide (x.2<=w64 (x.2+1))&&decide (w64 (x.2+1)<=(x.1.length:Int))))<|
          some ((⟨9,List.drop x.2.toNat (List.take (w64 (x.2+1)).toNat x.1),0,[],false⟩:zk),w64 (x.2+1))
def Ui(x:Int):Option Bool:=
 za (qE x) fun y1=>
 za (Xx ([y1,(10:UInt8)],0)) fun y2=>
 some (bif bif bif bif decide (x>=1)then decide (x<=127)else false then x != 12 else false then x != 13 else false then y2.1.kind==9 else false)
def Uy(x:zk):Option Bool:=
 zO (X:=Bool×zk) (
   bif x.kind==1 then
    some (LX.out (x.kind==1,x))
   else
    bif x.kind==2 then
     some (LX.out (x.kind==2,x))
    else
     some (LX.out (x.kind==3,x))) fun j1=>
 bif j1.1 then
  za (zA (!(x.text==[])) (Pm x.text) (default:Bool)) fun y2=>
  some (bif bif !(x.text==[])then y2 else false then j1.2.kind==x.kind&&(([]:Str)==[]&&(j1.2.num==0&&(j1.2.unit==[]&&(j1.2.flag==false&&true))))else false)
 else
  bif x.kind==4 then
   za (zA (!(x.text==[])) (Pm x.text) (default:Bool)) fun y3=>
   za (zA (!x.flag&&(bif !(x.text==[])then y3 else false)) (Vy x.text) (default:Bool)) fun y4=>
   some (bif bif bif !(x.text==[])then y3 else false then bif x.flag then true else y4 else false then j1.2.kind==x.kind&&(([]:Str)==[]&&(j1.2.num==0&&(j1.2.unit==[]&&(false==false&&true))))else false)
  else
   zO (X:=Bool×zk) (
     bif x.kind==5 then
      some (LX.out (x.kind==5,j1.2))
     else
      some (LX.out (x.kind==7,j1.2))) fun j5=>
   bif j5.1 then
    za (Pm x.text) fun y6=>
    some (bif y6 then j5.2.kind==x.kind&&(([]:Str)==[]&&(j5.2.num==0&&(j5.2.unit==[]&&(j5.2.flag==false&&true))))else false)
   else
    bif x.kind==9 then
     za (zA ((x.text.length:Int)==1) (geti x.text 0) 0) fun y7=>
     za (zA ((x.text.length:Int)==1) (Ui (y7.toNat:Int)) (default:Bool)) fun y8=>
     some (bif bif (x.text.length:Int)==1 then y8 else false then j5.2.kind==x.kind&&(([]:Str)==[]&&(j5.2.num==0&&(j5.2.unit==[]&&(j5.2.flag==false&&true))))else false)
    else
     zO (X:=Bool×zk) (
       bif x.kind==10 then
        some (LX.out (x.kind==10,j5.2))
       else
        bif x.kind==11 then
         some (LX.out (x.kind==11,j5.2))
        else
         some (LX.out (x.kind==12,j5.2))) fun j9=>
     bif j9.1 then
      za (zA ((!(x.unit==[]))==(x.kind==12)) (Pm x.unit) (default:Bool)) fun y10=>
      some (bif bif bif bif bif decide (x.num>=(-1000000000000))then decide (x.num<=1000000000000)else false then bif !x.flag then true else Int.tmod x.num 1000==0 else false then bif (!(x.unit==[]))==(x.kind==12)then y10 else false else false then bif x.kind != 11 then true else !x.flag else false then j9.2.kind==x.kind&&(j9.2.text==[]&&(0==0&&(([]:Str)==[]&&(false==false&&true))))else false)
     else
      zO (X:=Bool) (
        bif x.kind==6 then
         some (LX.out (x.kind==6))
        else
         some (LX.out (x.kind==8))) fun j11=>
      bif j11 then
       some false
      else
       some (bif bif decide (x.kind>=1)then decide (x.kind<=24)else false then x.kind==x.kind&&(x.text==[]&&(x.num==0&&(x.unit==[]&&(x.flag==false&&true))))else false)
def Fq(x:List zk):Option Int:=
 bif decide ((x.length:Int)>1500)then
  some 4
 else
  Zc (fun(s1:Int)=>
    bif decide (s1<(x.length:Int))then
     za (geti x s1) fun y2=>
     za (Uy y2) fun y3=>
     bif !y3 then
      some (LO.ret 8)
     else
      zO (X:=Unit) (
        za (geti x s1) fun y4=>
        za (zA (y4.kind==2) (geti x s1) (default:zk)) fun y5=>
        za (zA (y4.kind==2) (sj (y5.text,[117,114,108])) (default:Bool)) fun y6=>
        bif bif y4.kind==2 then y6 else false then
         zO (X:=Int) (
           za (zA (decide (w64 (s1+1)<(x.length:Int))) (geti x (w64 (s1+1))) (default:zk)) fun y7=>
           bif bif decide (w64 (s1+1)<(x.length:Int))then y7.kind==13 else false then
            some (LX.out (w64 (w64 (s1+1)+1)))
           else
            some (LX.out (w64 (s1+1)))) fun j8=>
         za (zA (!(decide (j8>=(x.length:Int)))) (geti x j8) (default:zk)) fun y9=>
         bif bif decide (j8>=(x.length:Int))then true else y9.kind != 5 then
          some (LX.ret (LO.ret 8))
         else
          some (LX.out ())
        else
         some (LX.out ())) fun j10=>
      za (geti x s1) fun y11=>
      za (zA (y11.kind==9) (geti x s1) (default:zk)) fun y12=>
      za (zA (!(w64 (s1+1)==(x.length:Int))&&(bif y11.kind==9 then y12.text==[92]else false)) (geti x (w64 (s1+1))) (default:zk)) fun y13=>
      bif bif bif y11.kind==9 then y12.text==[92]else false then bif w64 (s1+1)==(x.length:Int)then true else y13.kind != 13 else false then
       some (LO.ret 8)
      else
       some (LO.again (w64 (s1+1)))
    else
     some (LO.out ()):Int->Option (LO (Int) (Unit) _)) 0 fun o14=>
  some 0
def EC(Qu:List ze->Option Bool)(x:List ze):Option Bool:=
 Zc (fun(s1:Int)=>
   bif decide (s1<(x.length:Int))then
    za (geti x s1) fun y2=>
    za (zA (!(bif bif y2.token.kind==20 then true else y2.token.kind==22 then true else y2.token.kind==24)) (geti x s1) (default:ze)) fun y3=>
    za (zA (!(bif bif y2.token.kind==20 then true else y2.token.kind==22 then true else y2.token.kind==24)) (Qu y3.list) (default:Bool)) fun y4=>
    bif bif bif bif y2.token.kind==20 then true else y2.token.kind==22 then true else y2.token.kind==24 then true else y4 then
     some (LO.ret true)
    else
     some (LO.again (w64 (s1+1)))
   else
    some (LO.out ()):Int->Option (LO (Int) (Unit) _)) 0 fun o5=>
 some false
def Qu:List ze->Option Bool:=recE (EC)
def dA(x:List ze):Option (List ze):=
 Zc (fun(s1:List ze)=>
   za (zA (decide ((s1.length:Int)>0)) (geti s1 0) (default:ze)) fun y2=>
   bif bif decide ((s1.length:Int)>0)then y2.token.kind==13 else false then
    need (decide (1<=(s1.length:Int)))<|
    some (LO.again (List.drop 1 s1))
   else
    some (LO.out s1):List ze->Option (LO (List ze) (List ze) _)) x fun o3=>
 Zc (fun(s4:List ze)=>
   za (zA (decide ((s4.length:Int)>0)) (geti s4 (w64 ((s4.length:Int) - 1))) (default:ze)) fun y5=>
   bif bif decide ((s4.length:Int)>0)then y5.token.kind==13 else false then
    need (decide (0<=w64 ((s4.length:Int) - 1))&&decide (w64 ((s4.length:Int) - 1)<=(s4.length:Int)))<|
    some (LO.again (List.take (w64 ((s4.length:Int) - 1)).toNat s4))
   else
    some (LO.out s4):List ze->Option (LO (List ze) (List ze) _)) o3 fun o6=>
 some o6
def NA(x:Str):Option Bool:=
 need (decide (2<=(x.length:Int))|| !(decide ((x.length:Int)>2)))<|
 some (bif decide ((x.length:Int)>2)then List.take 2 x==[45,45]else false)
def LA(x:Str×List ze):Option Bool:=
 za (Tz x.2) fun y1=>
 za (zA (!(y1 != 0)) (Qz x.2) (default:List zk)) fun y2=>
 za (zA (!(y1 != 0)) (Fq y2) (default:Int)) fun y3=>
 za (zA (!(bif y1 != 0 then true else y3 != 0)) (Qu x.2) (default:Bool)) fun y4=>
 bif bif bif y1 != 0 then true else y3 != 0 then true else y4 then
  some false
 else
  za (dA x.2) fun y5=>
  za (zA ((x.2.length:Int)==0&& !((y5.length:Int) != (x.2.length:Int))) (NA x.1) (default:Bool)) fun y6=>
  bif bif (y5.length:Int) != (x.2.length:Int)then true else bif (x.2.length:Int)==0 then !y6 else false then
   some false
  else
   Zc (fun(s7:Int)=>
     bif decide (s7<(x.2.length:Int))then
      za (geti x.2 s7) fun y8=>
      bif bif y8.token.kind==17 then true else bif y8.token.kind==9 then y8.token.text==[33]else false then
       some (LO.ret false)
      else
       some (LO.again (w64 (s7+1)))
     else
      some (LO.out ()):Int->Option (LO (Int) (Unit) _)) 0 fun o9=>
   some true
def Om(x:Za):Option Int:=
 za (Sz x.name) fun y1=>
 za (zA (!(!y1)) (LA (x.name,x.value)) (default:Bool)) fun y2=>
 bif bif !y1 then true else !y2 then
  some 8
 else
  some 0
def Cq(x:Za):Option Bool:=
 some (bif bif x.name==[]then(x.value.length:Int)==0 else false then !x.important else false)
def Q8(x:zm):Option Bool:=
 za (zA (bif x.name==[]then x.num==0 else false) (Cq x.decl) (default:Bool)) fun y1=>
 some (bif bif x.name==[]then x.num==0 else false then y1 else false)
def Wu(x:Str):Option Bool:=
 za (zA (!(bif x==[]then true else decide ((x.length:Int)>64))) (QK x) (default:Str)) fun y1=>
 bif bif bif bif bif bif bif x==[]then true else decide ((x.length:Int)>64)then true else !(x==y1)then true else x==[97,110,100]then true else x==[111,114]then true else x==[110,111,116]then true else x==[111,110,108,121]then
  some false
 else
  Zc (fun(s2:Int)=>
    bif decide (s2<(x.length:Int))then
     za (geti x s2) fun y3=>
     bif (y3.toNat:Int)==0 then
      some (LO.ret false)
     else
      some (LO.again (w64 (s2+1)))
    else
     some (LO.out ()):Int->Option (LO (Int) (Unit) _)) 0 fun o4=>
  some true
def Ps(x:Int):Option Bool:=
 some (bif decide (x>=(-1000000000000))then decide (x<=1000000000000)else false)
def Jt(x:zm):Option (Bool×Bool):=
 za (zA (!(x.kind != 1)) (Q8 (⟨x.kind,x.name,x.num,x.decl,x.list⟩:zm)) (default:Bool)) fun y1=>
 bif bif bif x.kind != 1 then true else !y1 then true else(x.list.length:Int)==0 then
  some (false,false)
 else
  Zc (fun(s2:Int)=>
    bif decide (s2<(x.list.length:Int))then
     zO (X:=Int) (
       za (geti x.list s2) fun y3=>
       za (zA (!(decide ((y3.list.length:Int)>0))) (Cq y3.decl) (default:Bool)) fun y4=>
       bif bif decide ((y3.list.length:Int)>0)then true else !y4 then
        some (LX.ret (LO.ret (false,false)))
       else
        za (zA (bif bif s2==0 then y3.kind==4 else false then y3.num==0 else false) (Wu y3.name) (default:Bool)) fun y5=>
        bif bif bif bif s2==0 then y3.kind==4 else false then y3.num==0 else false then y5 else false then
         some (LX.out s2)
        else
         za (zA (!(bif bif bif y3.kind != 5 then y3.kind != 6 else false then true else !(y3.name==[])then true else decide (y3.num<0))) (Ps y3.num) (default:Bool)) fun y6=>
         bif bif bif bif bif y3.kind != 5 then y3.kind != 6 else false then true else !(y3.name==[])then true else decide (y3.num<0)then true else !y6 then
          some (LX.ret (LO.ret (false,false)))
         else
          some (LX.out s2)) fun j7=>
     some (LO.again (w64 (j7+1)))
    else
     some (LO.out ()):Int->Option (LO (Int) (Unit) _)) 0 fun o8=>
  za (geti x.list 0) fun y9=>
  some (true,y9.kind==4)
def Ju(x:zm):Option Bool:=
 bif x.kind==3 then
  za (Q8 (⟨x.kind,x.name,x.num,x.decl,x.list⟩:zm)) fun y1=>
  bif bif !y1 then true else(x.list.length:Int) != 1 then
   some false
  else
   za (geti x.list 0) fun y2=>
   za (Jt (⟨y2.kind,y2.name,y2.num,y2.decl,y2.list⟩:zm)) fun y3=>
   some (bif y3.1 then y3.2 else false)
 else
  za (Jt (⟨x.kind,x.name,x.num,x.decl,x.list⟩:zm)) fun y4=>
  some y4.1
def dz(x:zm):Option Bool:=
 za (Q8 (⟨x.kind,x.name,x.num,x.decl,x.list⟩:zm)) fun y1=>
 bif !y1 then
  some false
 else
  bif x.kind==1 then
   some ((x.list.length:Int)==0)
  else
   bif bif bif x.kind != 2 then true else decide ((x.list.length:Int)<1)then true else decide ((x.list.length:Int)>64)then
    some false
   else
    Zc (fun(s2:Int)=>
      bif decide (s2<(x.list.length:Int))then
       za (geti x.list s2) fun y3=>
       za (Ju (⟨y3.kind,y3.name,y3.num,y3.decl,y3.list⟩:zm)) fun y4=>
       bif !y4 then
        some (LO.ret false)
       else
        some (LO.again (w64 (s2+1)))
      else
       some (LO.out ()):Int->Option (LO (Int) (Unit) _)) 0 fun o5=>
    some true
def gz(Ri:zm->Option Int)(x:zm):Option Int:=
 bif x.kind==7 then
  za (Qg x.decl.value) fun y1=>
  some (w64 (1+y1))
 else
  bif x.kind==8 then
   some 1
  else
   Zc (fun(s2:Int×Int)=>
     bif decide (s2.2<(x.list.length:Int))then
      za (geti x.list s2.2) fun y3=>
      zO (X:=Int×Int) (
        bif bif y3.kind==7 then true else y3.kind==8 then
         some (LX.out (s2.1,0))
        else
         some (LX.out (s2.1,1))) fun j4=>
      za (geti x.list s2.2) fun y5=>
      za (Ri (⟨y5.kind,y5.name,y5.num,y5.decl,y5.list⟩:zm)) fun y6=>
      some (LO.again (if w64 (j4.2+y6)>j4.1 then w64 (j4.2+y6)else j4.1,w64 (s2.2+1)))
     else
      some (LO.out s2.1):Int×Int->Option (LO (Int×Int) (Int) _)) (0,0) fun o7=>
   some o7
def Ri:zm->Option Int:=recE (gz)
def ED(qg:zm->Option Bool)(x:zm):Option Bool:=
 bif x.kind==7 then
  za (zA (bif bif x.name==[]then x.num==0 else false then(x.list.length:Int)==0 else false) (Om x.decl) (default:Int)) fun y1=>
  some (bif bif bif x.name==[]then x.num==0 else false then(x.list.length:Int)==0 else false then y1==0 else false)
 else
  bif x.kind==8 then
   za (Q8 (⟨x.kind,x.name,x.num,x.decl,x.list⟩:zm)) fun y2=>
   some (bif y2 then(x.list.length:Int)==0 else false)
  else
   bif x.kind==3 then
    za (Q8 (⟨x.kind,x.name,x.num,x.decl,x.list⟩:zm)) fun y3=>
    za (zA (bif y3 then(x.list.length:Int)==1 else false) (geti x.list 0) (default:zm)) fun y4=>
    za (zA (bif y3 then(x.list.length:Int)==1 else false) (qg (⟨y4.kind,y4.name,y4.num,y4.decl,y4.list⟩:zm)) (default:Bool)) fun y5=>
    some (bif bif y3 then(x.list.length:Int)==1 else false then y5 else false)
   else
    zO (X:=Bool) (
      bif x.kind==1 then
       some (LX.out (x.kind==1))
      else
       some (LX.out (x.kind==2))) fun j6=>
    bif j6 then
     za (Q8 (⟨x.kind,x.name,x.num,x.decl,x.list⟩:zm)) fun y7=>
     bif bif !y7 then true else decide ((x.list.length:Int)<2)then
      some false
     else
      Zc (fun(s8:Int)=>
        bif decide (s8<(x.list.length:Int))then
         za (geti x.list s8) fun y9=>
         za (qg (⟨y9.kind,y9.name,y9.num,y9.decl,y9.list⟩:zm)) fun y10=>
         bif !y10 then
          some (LO.ret false)
         else
          some (LO.again (w64 (s8+1)))
        else
         some (LO.out ()):Int->Option (LO (Int) (Unit) _)) 0 fun o11=>
      some true
    else
     some false
def qg:zm->Option Bool:=recE (ED)
def SC(x:zm):Option Bool:=
 za (Qh ((⟨x.kind,x.name,x.num,x.decl,x.list⟩:zm),1500)) fun y1=>
 za (zA (decide (y1<=1500)) (Ri (⟨x.kind,x.name,x.num,x.decl,x.list⟩:zm)) (default:Int)) fun y2=>
 za (zA (bif decide (y1<=1500)then decide (y2<=16)else false) (qg (⟨x.kind,x.name,x.num,x.decl,x.list⟩:zm)) (default:Bool)) fun y3=>
 some (bif bif decide (y1<=1500)then decide (y2<=16)else false then y3 else false)
def Kq(x:List Str):Option Bool:=
 bif bif decide ((x.length:Int)<1)then true else decide ((x.length:Int)>16)then
  some false
 else
  Zc (fun(s1:Int)=>
    bif decide (s1<(x.length:Int))then
     za (geti x s1) fun y2=>
     za (Mm y2) fun y3=>
     bif !y3 then
      some (LO.ret false)
     else
      some (LO.again (w64 (s1+1)))
    else
     some (LO.out ()):Int->Option (LO (Int) (Unit) _)) 0 fun o4=>
  some true
def fB(Q9:zC->Option Bool)(x:zC):Option Bool:=
 zO (X:=Unit) (
   bif x.kind==1 then
    za (Oz x.selectors) fun y1=>
    za (zA (!(bif y1 != 0 then true else decide ((x.decls.length:Int)>32))) (Wp (⟨x.cond.kind,x.cond.name,x.cond.num,x.cond.decl,x.cond.list⟩:zm)) (default:Bool)) fun y2=>
    bif bif bif bif bif y1 != 0 then true else decide ((x.decls.length:Int)>32)then true else !y2 then true else decide ((x.names.length:Int)>0)then true else decide ((x.rules.length:Int)>0)then
     some (LX.ret false)
    else
     Zc (fun(s3:Int)=>
       bif decide (s3<(x.decls.length:Int))then
        za (geti x.decls s3) fun y4=>
        za (Om y4) fun y5=>
        bif y5 != 0 then
         some (LO.ret (LX.ret false))
        else
         some (LO.again (w64 (s3+1)))
       else
        some (LO.out ()):Int->Option (LO (Int) (Unit) _)) 0 fun o6=>
     some (LX.ret true)
   else
    bif x.kind==2 then
     za (zA (!(bif !(bif (x.selectors.length:Int)==0 then(x.decls.length:Int)==0 else false)then true else decide ((x.names.length:Int)>0))) (dz (⟨x.cond.kind,x.cond.name,x.cond.num,x.cond.decl,x.cond.list⟩:zm)) (default:Bool)) fun y7=>
     bif bif bif !(bif (x.selectors.length:Int)==0 then(x.decls.length:Int)==0 else false)then true else decide ((x.names.length:Int)>0)then true else !y7 then
      some (LX.ret false)
     else
      some (LX.out ())
    else
     bif x.kind==3 then
      za (zA (!(bif !(bif (x.selectors.length:Int)==0 then(x.decls.length:Int)==0 else false)then true else decide ((x.names.length:Int)>0))) (SC (⟨x.cond.kind,x.cond.name,x.cond.num,x.cond.decl,x.cond.list⟩:zm)) (default:Bool)) fun y8=>
      bif bif bif !(bif (x.selectors.length:Int)==0 then(x.decls.length:Int)==0 else false)then true else decide ((x.names.length:Int)>0)then true else !y8 then
       some (LX.ret false)
      else
       some (LX.out ())
     else
      bif x.kind==4 then
       za (zA (!(!(bif (x.selectors.length:Int)==0 then(x.decls.length:Int)==0 else false))) (Wp (⟨x.cond.kind,x.cond.name,x.cond.num,x.cond.decl,x.cond.list⟩:zm)) (default:Bool)) fun y9=>
       bif bif bif !(bif (x.selectors.length:Int)==0 then(x.decls.length:Int)==0 else false)then true else !y9 then true else decide ((x.names.length:Int)>1)then
        some (LX.ret false)
       else
        some (LX.out ())
      else
       bif x.kind==5 then
        za (zA (!(!(bif (x.selectors.length:Int)==0 then(x.decls.length:Int)==0 else false))) (Wp (⟨x.cond.kind,x.cond.name,x.cond.num,x.cond.decl,x.cond.list⟩:zm)) (default:Bool)) fun y10=>
        bif bif bif bif bif !(bif (x.selectors.length:Int)==0 then(x.decls.length:Int)==0 else false)then true else !y10 then true else decide ((x.names.length:Int)<1)then true else decide ((x.names.length:Int)>64)then true else decide ((x.rules.length:Int)>0)then
         some (LX.ret false)
        else
         some (LX.out ())
       else
        some (LX.ret false)) fun j11=>
 Zc (fun(s12:Int)=>
   bif decide (s12<(x.names.length:Int))then
    za (geti x.names s12) fun y13=>
    za (Kq y13) fun y14=>
    bif !y14 then
     some (LO.ret false)
    else
     some (LO.again (w64 (s12+1)))
   else
    some (LO.out ()):Int->Option (LO (Int) (Unit) _)) 0 fun o15=>
 Zc (fun(s16:Int)=>
   bif decide (s16<(x.rules.length:Int))then
    za (geti x.rules s16) fun y17=>
    za (Q9 (⟨y17.kind,y17.selectors,y17.decls,(⟨y17.cond.kind,y17.cond.name,y17.cond.num,y17.cond.decl,y17.cond.list⟩:zm),y17.names,y17.rules⟩:zC)) fun y18=>
    bif !y18 then
     some (LO.ret false)
    else
     some (LO.again (w64 (s16+1)))
   else
    some (LO.out ()):Int->Option (LO (Int) (Unit) _)) 0 fun o19=>
 some true
def Q9:zC->Option Bool:=recE (fB)
def JG(x:zx):Option Bool:=
 some (bif bif bif x.kind==9 then true else x.kind==10 then !x.of_ else false then x.anb.a==0&&(x.anb.b==1&&true)else false)
def OC(qV:List zg->Option Int)(x:List zg):Option Int:=
 Zc (fun(s1:Int×Int)=>
   bif decide (s1.2<(x.length:Int))then
    Zc (fun(s2:Int×Int)=>
      za (geti x s1.2) fun y3=>
      bif decide (s2.2<(y3.parts.length:Int))then
       za (geti x s1.2) fun y4=>
       za (geti y4.parts s2.2) fun y5=>
       Zc (fun(s6:Int×Int)=>
         bif decide (s6.2<(y5.simples.length:Int))then
          zO (X:=Int×Int) (
            za (geti y5.simples s6.2) fun y7=>
            za (zA (!(y7.kind==3)) (geti y5.simples s6.2) (default:zx)) fun y8=>
            za (zA (decide (y8.kind>=9)&& !(y7.kind==3)) (geti y5.simples s6.2) (default:zx)) fun y9=>
            za (zA (decide (y8.kind>=9)&& !(y7.kind==3)) (JG (⟨y9.kind,y9.name,y9.op,y9.value,y9.fold,y9.anb,y9.of_,y9.list⟩:zx)) (default:Bool)) fun y10=>
            bif bif y7.kind==3 then true else bif decide (y8.kind>=9)then !y10 else false then
             za (geti y5.simples s6.2) fun y11=>
             za (qV y11.list) fun y12=>
             some (LX.out (if w64 (1+y12)>s6.1 then w64 (1+y12)else s6.1,s6.2))
            else
             some (LX.out (s6.1,s6.2))) fun j13=>
          some (LO.again (j13.1,w64 (j13.2+1)))
         else
          some (LO.out s6.1):Int×Int->Option (LO (Int×Int) (Int) _)) (s2.1,0) fun o14=>
       some (LO.again (o14,w64 (s2.2+1)))
      else
       some (LO.out s2.1):Int×Int->Option (LO (Int×Int) (Int) _)) (s1.1,0) fun o15=>
    some (LO.again (o15,w64 (s1.2+1)))
   else
    some (LO.out s1.1):Int×Int->Option (LO (Int×Int) (Int) _)) (0,0) fun o16=>
 some o16
def qV:List zg->Option Int:=recE (OC)
def DD(x:zC):Option Int:=
 bif x.kind==3 then
  za (Ri (⟨x.cond.kind,x.cond.name,x.cond.num,x.cond.decl,x.cond.list⟩:zm)) fun y1=>
  some y1
 else
  Zc (fun(s2:Int×Int)=>
    bif decide (s2.2<(x.cond.list.length:Int))then
     za (geti x.cond.list s2.2) fun y3=>
     zO (X:=Int×zm) (
       bif bif y3.kind==3 then(y3.list.length:Int)==1 else false then
        za (geti y3.list 0) fun y4=>
        some (LX.out (s2.1,(⟨y4.kind,y4.name,y4.num,y4.decl,y4.list⟩:zm)))
       else
        some (LX.out (s2.1,(⟨y3.kind,y3.name,y3.num,y3.decl,y3.list⟩:zm)))) fun j5=>
     Zc (fun(s6:Int×Int)=>
       bif decide (s6.2<(j5.2.list.length:Int))then
        zO (X:=Int×Int) (
          za (geti j5.2.list s6.2) fun y7=>
          bif y7.kind != 4 then
           some (LX.out (1,s6.2))
          else
           some (LX.out (s6.1,s6.2))) fun j8=>
        some (LO.again (j8.1,w64 (j8.2+1)))
       else
        some (LO.out s6.1):Int×Int->Option (LO (Int×Int) (Int) _)) (j5.1,0) fun o9=>
     some (LO.again (o9,w64 (s2.2+1)))
    else
     some (LO.out s2.1):Int×Int->Option (LO (Int×Int) (Int) _)) (0,0) fun o10=>
  some o10
def cz(Wj:List zC->Option Int)(x:List zC):Option Int:=
 Zc (fun(s1:Int×Int)=>
   bif decide (s1.2<(x.length:Int))then
    zO (X:=Int×Int) (
      za (geti x s1.2) fun y2=>
      bif y2.kind==5 then
       some (LX.out (s1.1,s1.2))
      else
       za (geti x s1.2) fun y3=>
       za (Wj y3.rules) fun y4=>
       Zc (fun(s5:Int×Int)=>
         za (geti x s1.2) fun y6=>
         bif decide (s5.2<(y6.decls.length:Int))then
          za (geti x s1.2) fun y7=>
          za (geti y7.decls s5.2) fun y8=>
          za (Qg y8.value) fun y9=>
          some (LO.again (if y9>s5.1 then y9 else s5.1,w64 (s5.2+1)))
         else
          some (LO.out s5.1):Int×Int->Option (LO (Int×Int) (Int) _)) (y4,0) fun o10=>
       za (geti x s1.2) fun y11=>
       za (qV y11.selectors) fun y12=>
       za (geti x s1.2) fun y13=>
       za (DD (⟨y13.kind,y13.selectors,y13.decls,(⟨y13.cond.kind,y13.cond.name,y13.cond.num,y13.cond.decl,y13.cond.list⟩:zm),y13.names,y13.rules⟩:zC)) fun y14=>
       some (LX.out (if y14>(if y12>(if w64 (1+o10)>s1.1 then w64 (1+o10)else s1.1)then y12 else if w64 (1+o10)>s1.1 then w64 (1+o10)else s1.1)then y14 else if y12>(if w64 (1+o10)>s1.1 then w64 (1+o10)else s1.1)then y12 else if w64 (1+o10)>s1.1 then w64 (1+o10)else s1.1,s1.2))) fun j15=>
    some (LO.again (j15.1,w64 (j15.2+1)))
   else
    some (LO.out s1.1):Int×Int->Option (LO (Int×Int) (Int) _)) (0,0) fun o16=>
 some o16
def Wj:List zC->Option Int:=recE (cz)
def Hz(x:List zC):Option Bool:=
 za (qN x) fun y1=>
 bif decide (y1>64)then
  some false
 else
  Zc (fun(s2:Int)=>
    bif decide (s2<(x.length:Int))then
     za (geti x s2) fun y3=>
     za (Q9 (⟨y3.kind,y3.selectors,y3.decls,(⟨y3.cond.kind,y3.cond.name,y3.cond.num,y3.cond.decl,y3.cond.list⟩:zm),y3.names,y3.rules⟩:zC)) fun y4=>
     bif !y4 then
      some (LO.ret false)
     else
      some (LO.again (w64 (s2+1)))
    else
     some (LO.out ()):Int->Option (LO (Int) (Unit) _)) 0 fun o5=>
  za (Wj x) fun y6=>
  some (decide (y6<=16))
def Bq(x:ZN):Option Int:=
 za (Hz x.rules) fun y1=>
 bif !y1 then
  some 8
 else
  some 0
def DC(x:zC):Option Int:=
 za (Bq (⟨[(⟨x.kind,x.selectors,x.decls,(⟨x.cond.kind,x.cond.name,x.cond.num,x.cond.decl,x.cond.list⟩:zm),x.names,x.rules⟩:zC)]⟩:ZN)) fun y1=>
 some y1
def stringslite_HasPrefix(x:Str×Str):Option Bool:=
 need (decide (0<=(x.2.length:Int))&&decide ((x.2.length:Int)<=(x.1.length:Int))|| !(decide ((x.1.length:Int)>=(x.2.length:Int))))<|
 some (bif decide ((x.1.length:Int)>=(x.2.length:Int))then List.take x.2.length x.1==x.2 else false)
def strings_HasPrefix(x:Str×Str):Option Bool:=
 za (stringslite_HasPrefix (x.1,x.2)) fun y1=>
 some y1
def DJ(fu:Nat)(x:zb):Option zb:=
 ZG fu (fun(s1:zb)=>
   need (decide (0<=s1.at_)&&decide (s1.at_<=(s1.s.length:Int)))<|
   za (strings_HasPrefix (List.drop s1.at_.toNat s1.s,[47,42])) fun y2=>
   bif y2 then
    need (decide (0<=w64 (s1.at_+2))&&decide (w64 (s1.at_+2)<=(s1.s.length:Int)))<|
    za (Dn (List.drop (w64 (s1.at_+2)).toNat s1.s,[42,47])) fun y3=>
    bif decide (y3<0)then
     some (LO.ret (⟨s1.s,(s1.s.length:Int)⟩:zb))
    else
     some (LO.again (⟨s1.s,w64 (s1.at_+w64 (y3+4))⟩:zb))
   else
    some (LO.out s1):zb->Option (LO (zb) (zb) _)) x fun o4=>
 some o4
def zF(x:Int×zb):Option Int:=
 bif decide (w64 (x.2.at_+x.1)<(x.2.s.length:Int))then
  za (geti x.2.s (w64 (x.2.at_+x.1))) fun y1=>
  some (w64 (y1.toNat:Int))
 else
  some (-1)
def Hq(x:Int):Option Bool:=
 some (bif bif x==32 then true else x==9 then true else x==10)
def Qp(fu:Nat)(x:zb):Option zb:=
 ZG fu (fun(s1:zb)=>
   za (zF (0,s1)) fun y2=>
   za (Hq y2) fun y3=>
   bif y3 then
    some (LO.again (⟨s1.s,w64 (s1.at_+1)⟩:zb))
   else
    some (LO.out s1):zb->Option (LO (zb) (zb) _)) x fun o4=>
 some o4
def KR(x:Int):Option (List UInt8):=
 bif decide (wu32 x<=2047)then
  za (qE (ibOr IntKind.u8 192 (wu8 (Mh IntKind.i32 x 6)))) fun y1=>
  za (qE (ibOr IntKind.u8 128 (Nh IntKind.u8 (wu8 x) 63))) fun y2=>
  need (Zb 0 2 1)<|
  some [y1,y2]
 else
  zO (X:=Bool) (
    bif decide (wu32 x<55296)then
     some (LX.out (decide (wu32 x<55296)))
    else
     some (LX.out (bif decide (57343<wu32 x)then decide (wu32 x<=65535)else false))) fun j3=>
  bif j3 then
   za (qE (ibOr IntKind.u8 224 (wu8 (Mh IntKind.i32 x 12)))) fun y4=>
   za (qE (ibOr IntKind.u8 128 (Nh IntKind.u8 (wu8 (Mh IntKind.i32 x 6)) 63))) fun y5=>
   za (qE (ibOr IntKind.u8 128 (Nh IntKind.u8 (wu8 x) 63))) fun y6=>
   need (Zb 0 3 1)<|
   some [y4,y5,y6]
  else
   bif bif decide (wu32 x>65535)then decide (wu32 x<=1114111)else false then
    za (qE (ibOr IntKind.u8 240 (wu8 (Mh IntKind.i32 x 18)))) fun y7=>
    za (qE (ibOr IntKind.u8 128 (Nh IntKind.u8 (wu8 (Mh IntKind.i32 x 12)) 63))) fun y8=>
    za (qE (ibOr IntKind.u8 128 (Nh IntKind.u8 (wu8 (Mh IntKind.i32 x 6)) 63))) fun y9=>
    za (qE (ibOr IntKind.u8 128 (Nh IntKind.u8 (wu8 x) 63))) fun y10=>
    need (Zb 0 4 1)<|
    some [y7,y8,y9,y10]
   else
    need (Zb 0 3 1)<|
    some [(239:UInt8),(191:UInt8),(189:UInt8)]
def OI(x:Int):Option (List UInt8):=
 bif decide (wu32 x<=127)then
  za (qE (wu8 x)) fun y1=>
  need (Zb 0 1 1)<|
  some [y1]
 else
  za (KR x) fun y2=>
  some y2
def Vu(x:Int×Int×Int):Option Bool:=
 some (bif decide (x.2.1<=x.1)then decide (x.1<=x.2.2)else false)
def Tm(x:Int):Option Bool:=
 za (Vu (x,48,57)) fun y1=>
 some y1
def Et(x:Int):Option Int:=
 za (Tm x) fun y1=>
 bif y1 then
  some (w64 (x - 48))
 else
  za (zA (x != (-1)) (Vu (ibOr IntKind.i64 x 32,97,102)) (default:Bool)) fun y2=>
  bif bif bif bif x != (-1)then y2 else false then decide (x>64)else false then decide (x<128)else false then
   some (w64 (w64 (ibOr IntKind.i64 x 32 - 97)+10))
  else
   some (-1)
def wQ(fu:Nat)(x:zb):Option (zb×List UInt8):=
 za (zF (0,(⟨x.s,w64 (x.at_+1)⟩:zb))) fun y1=>
 bif y1==(-1)then
  za (OI 65533) fun y2=>
  some ((⟨x.s,w64 (x.at_+1)⟩:zb),y2)
 else
  za (Et y1) fun y3=>
  bif decide (y3<0)then
   za (qE (wu8 y1)) fun y4=>
   need (Zb 0 1 1)<|
   some ((⟨x.s,w64 (w64 (x.at_+1)+1)⟩:zb),[y4])
  else
   ZG fu (fun(s5:(Int×Int)×zb)=>
     bif decide (s5.1.2<6)then
      za (zF (0,s5.2)) fun y6=>
      za (Et y6) fun y7=>
      bif decide (y7<0)then
       some (LO.out (s5.1.1,s5.2))
      else
       some (LO.again ((ibOr IntKind.i64 (NS IntKind.i64 s5.1.1 4) y7,w64 (s5.1.2+1)),(⟨s5.2.s,w64 (s5.2.at_+1)⟩:zb)))
     else
      some (LO.out (s5.1.1,s5.2)):(Int×Int)×zb->Option (LO ((Int×Int)×zb) (Int×zb) _)) ((0,0),(⟨x.s,w64 (x.at_+1)⟩:zb)) fun o8=>
   zO (X:=Int×zb) (
     za (zF (0,o8.2)) fun y9=>
     za (Hq y9) fun y10=>
     bif y10 then
      some (LX.out (o8.1,(⟨o8.2.s,w64 (o8.2.at_+1)⟩:zb)))
     else
      some (LX.out (o8.1,o8.2))) fun j11=>
   zO (X:=Int) (
     bif j11.1==0 then
      some (LX.out 65533)
     else
      some (LX.out j11.1)) fun j12=>
   za (OI (w32 j12)) fun y13=>
   some (j11.2,y13)
def aR(x:Int×List UInt8):Option (List UInt8):=
 bif decide (wu32 x.1<=2047)then
  za (qE (ibOr IntKind.u8 192 (wu8 (Mh IntKind.i32 x.1 6)))) fun y1=>
  za (qE (ibOr IntKind.u8 128 (Nh IntKind.u8 (wu8 x.1) 63))) fun y2=>
  need (Zb x.2.length 2 1)<|
  some (x.2++[y1,y2])
 else
  zO (X:=Bool×List UInt8) (
    bif decide (wu32 x.1<55296)then
     some (LX.out (decide (wu32 x.1<55296),x.2))
    else
     some (LX.out (bif decide (57343<wu32 x.1)then decide (wu32 x.1<=65535)else false,x.2))) fun j3=>
  bif j3.1 then
   za (qE (ibOr IntKind.u8 224 (wu8 (Mh IntKind.i32 x.1 12)))) fun y4=>
   za (qE (ibOr IntKind.u8 128 (Nh IntKind.u8 (wu8 (Mh IntKind.i32 x.1 6)) 63))) fun y5=>
   za (qE (ibOr IntKind.u8 128 (Nh IntKind.u8 (wu8 x.1) 63))) fun y6=>
   need (Zb j3.2.length 3 1)<|
   some (j3.2++[y4,y5,y6])
  else
   bif bif decide (wu32 x.1>65535)then decide (wu32 x.1<=1114111)else false then
    za (qE (ibOr IntKind.u8 240 (wu8 (Mh IntKind.i32 x.1 18)))) fun y7=>
    za (qE (ibOr IntKind.u8 128 (Nh IntKind.u8 (wu8 (Mh IntKind.i32 x.1 12)) 63))) fun y8=>
    za (qE (ibOr IntKind.u8 128 (Nh IntKind.u8 (wu8 (Mh IntKind.i32 x.1 6)) 63))) fun y9=>
    za (qE (ibOr IntKind.u8 128 (Nh IntKind.u8 (wu8 x.1) 63))) fun y10=>
    need (Zb j3.2.length 4 1)<|
    some (j3.2++[y7,y8,y9,y10])
   else
    need (Zb j3.2.length 3 1)<|
    some (j3.2++[(239:UInt8),(191:UInt8),(189:UInt8)])
def NI(x:Int×List UInt8):Option (List UInt8):=
 bif decide (wu32 x.1<=127)then
  za (qE (wu8 x.1)) fun y1=>
  need (Zb x.2.length 1 1)<|
  some (x.2++[y1])
 else
  za (aR (x.1,x.2)) fun y2=>
  some y2
def Qj(fu:Nat)(x:zb×List UInt8):Option (zb×List UInt8):=
 za (zF (0,(⟨x.1.s,w64 (x.1.at_+1)⟩:zb))) fun y1=>
 bif y1==(-1)then
  za (NI (65533,x.2)) fun y2=>
  some ((⟨x.1.s,w64 (x.1.at_+1)⟩:zb),y2)
 else
  za (Et y1) fun y3=>
  bif decide (y3<0)then
   za (qE (wu8 y1)) fun y4=>
   need (Zb x.2.length 1 1)<|
   some ((⟨x.1.s,w64 (w64 (x.1.at_+1)+1)⟩:zb),x.2++[y4])
  else
   ZG fu (fun(s5:(Int×Int)×zb)=>
     bif decide (s5.1.2<6)then
      za (zF (0,s5.2)) fun y6=>
      za (Et y6) fun y7=>
      bif decide (y7<0)then
       some (LO.out (s5.1.1,s5.2))
      else
       some (LO.again ((ibOr IntKind.i64 (NS IntKind.i64 s5.1.1 4) y7,w64 (s5.1.2+1)),(⟨s5.2.s,w64 (s5.2.at_+1)⟩:zb)))
     else
      some (LO.out (s5.1.1,s5.2)):(Int×Int)×zb->Option (LO ((Int×Int)×zb) (Int×zb) _)) ((0,0),(⟨x.1.s,w64 (x.1.at_+1)⟩:zb)) fun o8=>
   zO (X:=Int×zb×List UInt8) (
     za (zF (0,o8.2)) fun y9=>
     za (Hq y9) fun y10=>
     bif y10 then
      some (LX.out (o8.1,(⟨o8.2.s,w64 (o8.2.at_+1)⟩:zb),x.2))
     else
      some (LX.out (o8.1,o8.2,x.2))) fun j11=>
   zO (X:=Int×List UInt8) (
     bif j11.1==0 then
      some (LX.out (65533,j11.2.2))
     else
      some (LX.out (j11.1,j11.2.2))) fun j12=>
   za (NI (w32 j12.1,j12.2)) fun y13=>
   some (j11.2.1,y13)
def fQ(fu:Nat)(x:zb):Option (zk×zb):=
 za (zF (0,x)) fun y1=>
 ZG fu (fun(s2:zb×zk×List UInt8)=>
   za (zF (0,s2.1)) fun y3=>
   bif y3==(-1)then
    some (LO.out (s2.1,s2.2.1,s2.2.2))
   else
    bif y3==y1 then
     some (LO.out ((⟨s2.1.s,w64 (s2.1.at_+1)⟩:zb),s2.2.1,s2.2.2))
    else
     bif y3==10 then
      some (LO.ret ((⟨6,[],0,[],false⟩:zk),s2.1))
     else
      za (zA (y3==92) (zF (1,s2.1)) (default:Int)) fun y4=>
      za (zA (!(y4==(-1))&&y3==92) (zF (1,s2.1)) (default:Int)) fun y5=>
      bif bif y3==92 then bif y4==(-1)then true else y5==10 else false then
       some (LO.again ((⟨s2.1.s,if(s2.1.s.length:Int)<w64 (s2.1.at_+2)then(s2.1.s.length:Int)else w64 (s2.1.at_+2)⟩:zb),s2.2.1,s2.2.2))
      else
       bif y3==92 then
        za (Qj fu (s2.1,s2.2.2)) fun y6=>
        some (LO.again (y6.1,s2.2.1,y6.2))
       else
        za (qE (wu8 y3)) fun y7=>
        need (Zb s2.2.2.length 1 1)<|
        some (LO.again ((⟨s2.1.s,w64 (s2.1.at_+1)⟩:zb),s2.2.1,s2.2.2++[y7])):zb×zk×List UInt8->Option (LO (zb×zk×List UInt8) (zb×zk×List UInt8) _)) ((⟨x.s,w64 (x.at_+1)⟩:zb),(⟨0,[],0,[],false⟩:zk),[]) fun o8=>
 some ((⟨5,o8.2.2,0,[],false⟩:zk),o8.1)
def Ez(x:Int):Option Bool:=
 za (Vu (ibOr IntKind.i64 x 32,97,122)) fun y1=>
 some (bif bif bif bif y1 then decide (x<128)else false then decide (x>64)else false then true else x==95 then true else decide (x>=128))
def nG(x:Int):Option Bool:=
 za (Ez x) fun y1=>
 za (zA (!y1) (Tm x) (default:Bool)) fun y2=>
 some (bif bif y1 then true else y2 then true else x==45)
def qc(x:Int×zb):Option Bool:=
 za (zF (x.1,x.2)) fun y1=>
 za (zA (y1==92) (zF (w64 (x.1+1),x.2)) (default:Int)) fun y2=>
 some (bif y1==92 then y2 != 10 else false)
def Gv(x:Int×zb):Option Bool:=
 za (zF (x.1,x.2)) fun y1=>
 bif y1 != 45 then
  za (zF (x.1,x.2)) fun y2=>
  za (Ez y2) fun y3=>
  za (zA (!y3) (qc (x.1,x.2)) (default:Bool)) fun y4=>
  some (bif y3 then true else y4)
 else
  za (zF (w64 (x.1+1),x.2)) fun y5=>
  za (Ez y5) fun y6=>
  za (zA (!y6) (zF (w64 (x.1+1),x.2)) (default:Int)) fun y7=>
  za (zA (!(bif y6 then true else y7==45)) (qc (w64 (x.1+1),x.2)) (default:Bool)) fun y8=>
  some (bif bif y6 then true else y7==45 then true else y8)
def QN(fu:Nat)(x:zb):Option (Str×zb):=
 ZG fu (fun(s1:zb×List UInt8)=>
   za (zF (0,s1.1)) fun y2=>
   za (nG y2) fun y3=>
   bif y3 then
    za (qE (wu8 y2)) fun y4=>
    need (Zb s1.2.length 1 1)<|
    some (LO.again ((⟨s1.1.s,w64 (s1.1.at_+1)⟩:zb),s1.2++[y4]))
   else
    za (zA (y2 != (-1)) (qc (0,s1.1)) (default:Bool)) fun y5=>
    bif bif y2 != (-1)then y5 else false then
     za (Qj fu (s1.1,s1.2)) fun y6=>
     some (LO.again (y6.1,y6.2))
    else
     some (LO.ret (s1.2,s1.1)):zb×List UInt8->Option (LO (zb×List UInt8) (Unit) _)) (x,[]) fun o7=>
 none
def lQ(x:zb):Option Bool:=
 zO (X:=Int) (
   za (zF (0,x)) fun y1=>
   bif bif y1==43 then true else y1==45 then
    some (LX.out 1)
   else
    some (LX.out 0)) fun j2=>
 zO (X:=Int) (
   za (zF (j2,x)) fun y3=>
   bif y3==46 then
    some (LX.out (w64 (j2+1)))
   else
    some (LX.out j2)) fun j4=>
 za (zF (j4,x)) fun y5=>
 za (Tm y5) fun y6=>
 some y6
def QQ(fu:Nat)(x:zb):Option zb:=
 ZG fu (fun(s1:zb)=>
   za (zF (0,s1)) fun y2=>
   za (Tm y2) fun y3=>
   bif y3 then
    some (LO.again (⟨s1.s,w64 (s1.at_+1)⟩:zb))
   else
    some (LO.out s1):zb->Option (LO (zb) (zb) _)) x fun o4=>
 some o4
def tQ(fu:Nat)(x:zb):Option (Bool×zb):=
 zO (X:=zb) (
   za (zF (0,x)) fun y1=>
   bif bif y1==43 then true else y1==45 then
    some (LX.out (⟨x.s,w64 (x.at_+1)⟩:zb))
   else
    some (LX.out x)) fun j2=>
 za (QQ fu j2) fun y3=>
 zO (X:=Bool×zb) (
   za (zF (0,y3)) fun y4=>
   za (zA (y4==46) (zF (1,y3)) (default:Int)) fun y5=>
   za (zA (y4==46) (Tm y5) (default:Bool)) fun y6=>
   bif bif y4==46 then y6 else false then
    za (QQ fu (⟨y3.s,w64 (y3.at_+1)⟩:zb)) fun y7=>
    some (LX.out (false,y7))
   else
    some (LX.out (true,y3))) fun j8=>
 zO (X:=Bool×zb) (
   za (zF (0,j8.2)) fun y9=>
   za (zA (!(y9==101)) (zF (0,j8.2)) (default:Int)) fun y10=>
   bif bif y9==101 then true else y10==69 then
    zO (X:=(Bool×Int)×zb) (
      za (zF (1,j8.2)) fun y11=>
      bif bif y11==43 then true else y11==45 then
       some (LX.out ((j8.1,2),j8.2))
      else
       some (LX.out ((j8.1,1),j8.2))) fun j12=>
    za (zF (j12.1.2,j12.2)) fun y13=>
    za (Tm y13) fun y14=>
    bif y14 then
     za (QQ fu (⟨j12.2.s,w64 (j12.2.at_+j12.1.2)⟩:zb)) fun y15=>
     some (LX.out (false,y15))
    else
     some (LX.out (j12.1.1,j12.2))
   else
    some (LX.out (j8.1,j8.2))) fun j16=>
 some (j16.1,j16.2)
def PQ(fu:Nat)(x:Str):Option Int:=
 za (geti x 0) fun y1=>
 za (mD (x,[43,45])) fun y2=>
 zO (X:=Str×Int) (
   za (UF (y2,[101,69])) fun y3=>
   bif decide (y3>=0)then
    need (decide (0<=w64 (y3+1))&&decide (w64 (y3+1)<=(y2.length:Int)))<|
    za (mD (List.drop (w64 (y3+1)).toNat y2,[43,45])) fun y4=>
    need (decide (y4.length<=maxLen))<|
    ZG fu (fun(s5:Int×Int)=>
      bif decide (s5.2<(y4.length:Int))then
       need (decide (0<=s5.2)&&decide (s5.2<(y4.length:Int)))<|
       za y4[s5.2.toNat]? fun y6=>
       some (LO.again (if 1048576<w64 (w64 (10*s5.1)+w64 (wu8 ((y6.toNat:Int) - 48)))then 1048576 else w64 (w64 (10*s5.1)+w64 (wu8 ((y6.toNat:Int) - 48))),w64 (s5.2+1)))
      else
       some (LO.out s5.1):Int×Int->Option (LO (Int×Int) (Int) _)) (0,0) fun o7=>
    zO (X:=Str×Int×Int) (
      za (geti y2 (w64 (y3+1))) fun y8=>
      bif (y8.toNat:Int)==45 then
       some (LX.out (y2,3,w64 (0 - o7)))
      else
       some (LX.out (y2,3,o7))) fun j9=>
    need (decide (0<=y3)&&decide (y3<=(j9.1.length:Int)))<|
    some (LX.out (List.take y3.toNat j9.1,w64 (j9.2.1+j9.2.2)))
   else
    some (LX.out (y2,3))) fun j10=>
 za (cutF (j10.1,[46])) fun y11=>
 need (QV y11.1.length y11.2.1.length)<|
 zO (X:=Str×Int) (
   bif decide (w64 (j10.2 - (y11.2.1.length:Int))<0)then
    need (decide (0<=(if w64 (((y11.1++y11.2.1).length:Int)+w64 (j10.2 - (y11.2.1.length:Int)))>0 then w64 (((y11.1++y11.2.1).length:Int)+w64 (j10.2 - (y11.2.1.length:Int)))else 0))&&decide ((if w64 (((y11.1++y11.2.1).length:Int)+w64 (j10.2 - (y11.2.1.length:Int)))>0 then w64 (((y11.1++y11.2.1).length:Int)+w64 (j10.2 - (y11.2.1.length:Int)))else 0)<=((y11.1++y11.2.1).length:Int)))<|
    some (LX.out (List.take (if w64 (((y11.1++y11.2.1).length:Int)+w64 (j10.2 - (y11.2.1.length:Int)))>0 then w64 (((y11.1++y11.2.1).length:Int)+w64 (j10.2 - (y11.2.1.length:Int)))else 0).toNat (y11.1++y11.2.1),w64 (j10.2 - (y11.2.1.length:Int))))
   else
    some (LX.out (y11.1++y11.2.1,w64 (j10.2 - (y11.2.1.length:Int))))) fun j12=>
 need (decide (j12.1.length<=maxLen))<|
 ZG fu (fun(s13:Int×Int)=>
   bif decide (s13.2<(j12.1.length:Int))then
    need (decide (0<=s13.2)&&decide (s13.2<(j12.1.length:Int)))<|
    za j12.1[s13.2.toNat]? fun y14=>
    some (LO.again (if 1000000000000<w64 (w64 (10*s13.1)+w64 (wu8 ((y14.toNat:Int) - 48)))then 1000000000000 else w64 (w64 (10*s13.1)+w64 (wu8 ((y14.toNat:Int) - 48))),w64 (s13.2+1)))
   else
    some (LO.out s13.1):Int×Int->Option (LO (Int×Int) (Int) _)) (0,0) fun o15=>
 ZG fu (fun(s16:Int×Int)=>
   bif bif bif decide (s16.1>0)then decide (s16.2>0)else false then decide (s16.2<1000000000000)else false then
    some (LO.again (w64 (s16.1 - 1),if 1000000000000<w64 (10*s16.2)then 1000000000000 else w64 (10*s16.2)))
   else
    some (LO.out s16.2):Int×Int->Option (LO (Int×Int) (Int) _)) (j12.2,o15) fun o17=>
 zO (X:=Int) (
   bif (y1.toNat:Int)==45 then
    some (LX.out (w64 (0 - o17)))
   else
    some (LX.out o17)) fun j18=>
 some j18
def sQ(fu:Nat)(x:zb):Option (zk×zb):=
 za (tQ fu x) fun y1=>
 need (decide (0<=x.at_)&&(decide (x.at_<=y1.2.at_)&&decide (y1.2.at_<=(y1.2.s.length:Int))))<|
 za (PQ fu (List.drop x.at_.toNat (List.take y1.2.at_.toNat y1.2.s))) fun y2=>
 zO (X:=zb×zk×zk) (
   za (Gv (0,y1.2)) fun y3=>
   bif y3 then
    za (QN fu y1.2) fun y4=>
    some (LX.out (y4.2,(⟨0,[],0,[],false⟩:zk),(⟨12,[],y2,y4.1,y1.1⟩:zk)))
   else
    za (zF (0,y1.2)) fun y5=>
    bif y5==37 then
     some (LX.out ((⟨y1.2.s,w64 (y1.2.at_+1)⟩:zb),(⟨0,[],0,[],false⟩:zk),(⟨11,[],y2,[],false⟩:zk)))
    else
     some (LX.out (y1.2,(⟨0,[],0,[],false⟩:zk),(⟨10,[],y2,[],y1.1⟩:zk)))) fun j6=>
 some (j6.2.2,j6.1)
def qd(fu:Nat)(x:Str):Option Str:=
 need (decide (x.length<=maxLen))<|
 ZG fu (fun(s1:Int×List UInt8)=>
   bif decide (s1.1<(x.length:Int))then
    zO (X:=Int×List UInt8) (
      need (decide (0<=s1.1)&&decide (s1.1<(s1.2.length:Int)))<|
      za s1.2[s1.1.toNat]? fun y2=>
      bif bif decide (65<=(y2.toNat:Int))then decide ((y2.toNat:Int)<=90)else false then
       need (decide (0<=s1.1)&&decide (s1.1<(s1.2.length:Int)))<|
       za s1.2[s1.1.toNat]? fun y3=>
       need (decide (0<=s1.1)&&decide (s1.1<(s1.2.length:Int)))<|
       za s1.2[s1.1.toNat]? fun y4=>
       za (qE (ibOr IntKind.u8 (y3.toNat:Int) 32)) fun y5=>
       some (LX.out (s1.1,List.set s1.2 s1.1.toNat y5))
      else
       some (LX.out (s1.1,s1.2))) fun j6=>
    some (LO.again (w64 (j6.1+1),j6.2))
   else
    some (LO.out s1.2):Int×List UInt8->Option (LO (Int×List UInt8) (List UInt8) _)) (0,x) fun o7=>
 some o7
def Q3(fu:Nat)(x:Str×Str):Option Bool:=
 za (qd fu x.1) fun y1=>
 za (qd fu x.2) fun y2=>
 some (y1==y2)
def kC(fu:Nat)(x:zb):Option (zk×zb):=
 ZG fu (fun(s1:zb×zk)=>
   za (zF (0,s1.1)) fun y2=>
   bif y2==(-1)then
    some (LO.ret ((⟨8,[],0,[],false⟩:zk),s1.1))
   else
    za (qc (0,s1.1)) fun y3=>
    bif y3 then
     za (wQ fu s1.1) fun y4=>
     some (LO.again (y4.1,s1.2))
    else
     za (geti s1.1.s (w64 (w64 (s1.1.at_+1) - 1))) fun y5=>
     bif (y5.toNat:Int)==41 then
      some (LO.ret ((⟨8,[],0,[],false⟩:zk),(⟨s1.1.s,w64 (s1.1.at_+1)⟩:zb)))
     else
      some (LO.again ((⟨s1.1.s,w64 (s1.1.at_+1)⟩:zb),s1.2)):zb×zk->Option (LO (zb×zk) (Unit) _)) (x,(⟨0,[],0,[],false⟩:zk)) fun o6=>
 none
def RQ(fu:Nat)(x:zb):Option (zk×zb):=
 za (Qp fu x) fun y1=>
 ZG fu (fun(s2:zb×zk×List UInt8)=>
   za (zF (0,s2.1)) fun y3=>
   zO (X:=Int×zb×zk×List UInt8) (
     za (Hq y3) fun y4=>
     bif y4 then
      za (Qp fu s2.1) fun y5=>
      za (zF (0,y5)) fun y6=>
      bif bif y6 != 41 then y6 != (-1)else false then
       za (kC fu y5) fun y7=>
       some (LX.ret (LO.ret (y7.1,y7.2)))
      else
       some (LX.out (y6,y5,s2.2.1,s2.2.2))
     else
      some (LX.out (y3,s2.1,s2.2.1,s2.2.2))) fun j8=>
   bif j8.1==(-1)then
    some (LO.ret ((⟨7,j8.2.2.2,0,[],false⟩:zk),j8.2.1))
   else
    bif j8.1==41 then
     some (LO.ret ((⟨7,j8.2.2.2,0,[],false⟩:zk),(⟨j8.2.1.s,w64 (j8.2.1.at_+1)⟩:zb)))
    else
     za (zA (!(bif bif bif bif j8.1==34 then true else j8.1==39 then true else j8.1==40 then true else decide (j8.1<=8)then true else j8.1==11)) (Vu (j8.1,14,31)) (default:Bool)) fun y9=>
     bif bif bif bif bif bif bif j8.1==34 then true else j8.1==39 then true else j8.1==40 then true else decide (j8.1<=8)then true else j8.1==11 then true else y9 then true else j8.1==127 then
      za (kC fu j8.2.1) fun y10=>
      some (LO.ret (y10.1,y10.2))
     else
      bif j8.1 != 92 then
       za (qE (wu8 j8.1)) fun y11=>
       need (Zb j8.2.2.2.length 1 1)<|
       some (LO.again ((⟨j8.2.1.s,w64 (j8.2.1.at_+1)⟩:zb),j8.2.2.1,j8.2.2.2++[y11]))
      else
       za (qc (0,j8.2.1)) fun y12=>
       bif y12 then
        za (Qj fu (j8.2.1,j8.2.2.2)) fun y13=>
        some (LO.again (y13.1,j8.2.2.1,y13.2))
       else
        za (kC fu j8.2.1) fun y14=>
        some (LO.ret (y14.1,y14.2)):zb×zk×List UInt8->Option (LO (zb×zk×List UInt8) (Unit) _)) (y1,(⟨0,[],0,[],false⟩:zk),[]) fun o15=>
 none
def mQ(fu:Nat)(x:zb):Option (zk×zb):=
 za (QN fu x) fun y1=>
 za (zF (0,y1.2)) fun y2=>
 bif y2 != 40 then
  some ((⟨1,y1.1,0,[],false⟩:zk),y1.2)
 else
  zO (X:=zb×zk) (
    za (Q3 fu (y1.1,[117,114,108])) fun y3=>
    bif y3 then
     za (Qp fu (⟨y1.2.s,w64 (y1.2.at_+1)⟩:zb)) fun y4=>
     za (zF (0,y4)) fun y5=>
     bif bif y5 != 34 then y5 != 39 else false then
      za (RQ fu (⟨y1.2.s,w64 (y1.2.at_+1)⟩:zb)) fun y6=>
      some (LX.ret (y6.1,y6.2))
     else
      some (LX.out ((⟨y1.2.s,w64 (y1.2.at_+1)⟩:zb),(⟨0,[],0,[],false⟩:zk)))
    else
     some (LX.out ((⟨y1.2.s,w64 (y1.2.at_+1)⟩:zb),(⟨0,[],0,[],false⟩:zk)))) fun j7=>
  some ((⟨2,y1.1,0,[],false⟩:zk),j7.1)
def strings_IndexByte(x:Str×Int):Option Int:=
 za (fE (x.1,x.2)) fun y1=>
 some y1
def WQ(fu:Nat)(x:zb):Option (zk×zb):=
 za (zF (0,x)) fun y1=>
 need (decide (0<=x.at_)&&decide (x.at_<=(x.s.length:Int)))<|
 za (Hq y1) fun y2=>
 bif y2 then
  za (Qp fu x) fun y3=>
  some ((⟨13,[],0,[],false⟩:zk),y3)
 else
  bif bif y1==34 then true else y1==39 then
   za (fQ fu x) fun y4=>
   some (y4.1,y4.2)
  else
   za (zA (y1==35) (zF (1,x)) (default:Int)) fun y5=>
   za (zA (y1==35) (nG y5) (default:Bool)) fun y6=>
   za (zA (!y6&&y1==35) (qc (1,x)) (default:Bool)) fun y7=>
   bif bif y1==35 then bif y6 then true else y7 else false then
    za (Gv (1,x)) fun y8=>
    za (QN fu (⟨x.s,w64 (x.at_+1)⟩:zb)) fun y9=>
    some ((⟨4,y9.1,0,[],y8⟩:zk),y9.2)
   else
    za (lQ x) fun y10=>
    bif y10 then
     za (sQ fu x) fun y11=>
     some (y11.1,y11.2)
    else
     za (strings_HasPrefix (List.drop x.at_.toNat x.s,[45,45,62])) fun y12=>
     bif y12 then
      some ((⟨15,[],0,[],false⟩:zk),(⟨x.s,w64 (x.at_+3)⟩:zb))
     else
      za (strings_HasPrefix (List.drop x.at_.toNat x.s,[60,33,45,45])) fun y13=>
      bif y13 then
       some ((⟨14,[],0,[],false⟩:zk),(⟨x.s,w64 (x.at_+4)⟩:zb))
      else
       za (zA (y1==64) (Gv (1,x)) (default:Bool)) fun y14=>
       bif bif y1==64 then y14 else false then
        za (QN fu (⟨x.s,w64 (x.at_+1)⟩:zb)) fun y15=>
        some ((⟨3,y15.1,0,[],false⟩:zk),y15.2)
       else
        za (Gv (0,x)) fun y16=>
        bif y16 then
         za (mQ fu x) fun y17=>
         some (y17.1,y17.2)
        else
         za (strings_IndexByte ([58,59,44,91,93,40,41,123,125],wu8 y1)) fun y18=>
         bif decide (y18>=0)then
          some ((⟨wu8 (16+wu8 y18),[],0,[],false⟩:zk),(⟨x.s,w64 (x.at_+1)⟩:zb))
         else
          need (decide (1<=((List.drop x.at_.toNat x.s).length:Int)))<|
          some ((⟨9,List.take 1 (List.drop x.at_.toNat x.s),0,[],false⟩:zk),(⟨x.s,w64 (x.at_+1)⟩:zb))
def sP(x:(zk×Int×Int)×List zk):Option (List zk):=
 need (Zb x.2.length 1 56)<|
 some (x.2++[x.1.1])
def tN(fu:Nat)(x:Str):Option (Int×List zk):=
 za (vD x) fun y1=>
 bif y1.2 != 0 then
  some (y1.2,[])
 else
  za (DJ fu (⟨y1.1,0⟩:zb)) fun y2=>
  ZG fu (fun(s3:Int×List zk×zb)=>
    bif decide (s3.2.2.at_<(y1.1.length:Int))then
     bif decide (w64 (s3.1+1)>1500)then
      some (LO.ret (4,s3.2.1))
     else
      za (WQ fu s3.2.2) fun y4=>
      za (sP ((y4.1,s3.2.2.at_,y4.2.at_),s3.2.1)) fun y5=>
      za (DJ fu y4.2) fun y6=>
      some (LO.again (w64 (s3.1+1),y5,y6))
    else
     some (LO.out (s3.2.1,s3.2.2)):Int×List zk×zb->Option (LO (Int×List zk×zb) (List zk×zb) _)) (0,[],y2) fun o7=>
  some (0,o7.1)
def nu(fu:Nat)(x:Str):Option (List zk×Int):=
 za (tN fu x) fun y1=>
 bif y1.1 != 0 then
  some ([],y1.1)
 else
  some (y1.2,0)
def wF(x:List ze):Option Int:=
 bif (x.length:Int)==0 then
  some 0
 else
  za (geti x 0) fun y1=>
  some y1.token.kind
def YQ(fu:Nat)(x:Int×List UInt8):Option Int:=
 ZG fu (fun(s1:Int)=>
   bif decide (s1<(x.2.length:Int))then
    need (decide (0<=s1)&&decide (s1<(x.2.length:Int)))<|
    za x.2[s1.toNat]? fun y2=>
    bif x.1==(y2.toNat:Int)then
     some (LO.ret s1)
    else
     some (LO.again (w64 (s1+1)))
   else
    some (LO.out ()):Int->Option (LO (Int) (Unit) _)) 0 fun o3=>
 some (-1)
def FR(fu:Nat)(x:Int×List UInt8):Option Bool:=
 za (YQ fu (x.1,x.2)) fun y1=>
 some (decide (y1>=0))
def aO(fu:Nat)(x:ze×List UInt8):Option Bool:=
 za (FR fu (x.1.token.kind,x.2)) fun y1=>
 some y1
def CR(fu:Nat)(x:List ze×List UInt8):Option Int:=
 ZG fu (fun(s1:Int)=>
   bif decide (s1<(x.1.length:Int))then
    za (geti x.1 s1) fun y2=>
    za (aO fu ((⟨y2.token,y2.list⟩:ze),x.2)) fun y3=>
    bif y3 then
     some (LO.ret s1)
    else
     some (LO.again (w64 (s1+1)))
   else
    some (LO.out ()):Int->Option (LO (Int) (Unit) _)) 0 fun o4=>
 some (-1)
def rM(fu:Nat)(x:List ze×List UInt8):Option (List ze×List ze):=
 za (CR fu (x.1,x.2)) fun y1=>
 bif decide (y1<0)then
  some (x.1,[])
 else
  need (decide (0<=y1)&&decide (y1<=(x.1.length:Int)))<|
  need (decide (0<=y1)&&decide (y1<=(x.1.length:Int)))<|
  some (List.take y1.toNat x.1,List.drop y1.toNat x.1)
def yj(x:Int):Option Int:=
 bif x==2 then
  some 22
 else
  zO (X:=Bool) (
    bif x==19 then
     some (LX.out (x==19))
    else
     bif x==21 then
      some (LX.out (x==21))
     else
      some (LX.out (x==23))) fun j1=>
  bif j1 then
   some (wu8 (x+1))
  else
   some 0
def sG(fu:Nat)(Tj:List ze×Int->Option zU)(x:List ze×Int):Option zU:=
 ZG fu (fun(s1:Int×zU)=>
   bif decide (s1.1<(x.1.length:Int))then
    zO (X:=Int×zU) (
      za (geti x.1 s1.1) fun y2=>
      za (yj y2.token.kind) fun y3=>
      zO (X:=zU) (
        bif bif bif x.2 != 0 then y2.token.kind==x.2 else false then true else bif y3==0 then decide ((y2.list.length:Int)>0)else false then
         some (LX.out (⟨s1.2.depth,w64 (s1.2.tokens+1),true⟩:zU))
        else
         some (LX.out (⟨s1.2.depth,w64 (s1.2.tokens+1),s1.2.bad⟩:zU))) fun j4=>
      bif y3==0 then
       some (LX.out (s1.1,j4))
      else
       za (Tj (y2.list,y3)) fun y5=>
       some (LX.out (s1.1,(⟨if w64 (y5.depth+1)>j4.depth then w64 (y5.depth+1)else j4.depth,w64 (w64 (j4.tokens+y5.tokens)+1),bif j4.bad then true else y5.bad⟩:zU)))) fun j6=>
    some (LO.again (w64 (j6.1+1),j6.2))
   else
    some (LO.out s1.2):Int×zU->Option (LO (Int×zU) (zU) _)) (0,(⟨0,0,false⟩:zU)) fun o7=>
 some o7
def Tj(fu:Nat):List ze×Int->Option zU:=Ue (sG fu) fu
def Ak(fu:Nat)(x:List ze):Option Int:=
 za (Tj fu (x,0)) fun y1=>
 bif decide (y1.depth>16)then
  some 20
 else
  bif decide (y1.tokens>1500)then
   some 4
  else
   bif y1.bad then
    some 8
   else
    some 0
def ZE(x:Int×zw):Option zk:=
 bif decide (w64 (x.2.at_+x.1)<(x.2.v.length:Int))then
  za (geti x.2.v (w64 (x.2.at_+x.1))) fun y1=>
  some y1.token
 else
  some (⟨0,[],0,[],false⟩:zk)
def ZF(fu:Nat)(x:zw):Option (Bool×zw):=
 ZG fu (fun(s1:zw)=>
   za (ZE (0,s1)) fun y2=>
   bif y2.kind==13 then
    some (LO.again (⟨s1.v,w64 (s1.at_+1)⟩:zw))
   else
    some (LO.out s1):zw->Option (LO (zw) (zw) _)) x fun o3=>
 some (decide (o3.at_>x.at_),o3)
def QL(x:Str×zw):Option (Bool×zw):=
 za (ZE (0,x.2)) fun y1=>
 bif bif y1.kind != 9 then true else !(y1.text==x.1)then
  some (false,x.2)
 else
  some (true,(⟨x.2.v,w64 (x.2.at_+1)⟩:zw))
def XI(fu:Nat)(x:zw):Option (Int×zw):=
 ZG fu (fun(s1:Int×zw)=>
   bif decide (s1.1<3)then
    need (decide (0<=s1.1)&&(decide (s1.1<=w64 (s1.1+1))&&decide (w64 (s1.1+1)<=3)))<|
    za (QL (List.drop s1.1.toNat (List.take (w64 (s1.1+1)).toNat ([62,43,126]:Str)),s1.2)) fun y2=>
    bif y2.1 then
     za (ZF fu y2.2) fun y3=>
     some (LO.ret (wu8 (2+wu8 s1.1),y3.2))
    else
     some (LO.again (w64 (s1.1+1),y2.2))
   else
    some (LO.out s1.2):Int×zw->Option (LO (Int×zw) (zw) _)) (0,x) fun o4=>
 some (0,o4)
def bI(x:Int×zw):Option (List ze):=
 za (geti x.2.v (w64 (x.2.at_+x.1))) fun y1=>
 some y1.list
def QM(x:zw):Option Bool:=
 some (x.at_==(x.v.length:Int))
def xN(fu:Nat)(x:List ze):Option (zx×Bool):=
 za (ZF fu (⟨x,0⟩:zw)) fun y1=>
 za (ZE (0,y1.2)) fun y2=>
 za (qd fu y2.text) fun y3=>
 za (ZE (0,y1.2)) fun y4=>
 bif y4.kind != 1 then
  some ((⟨3,y3,0,[],false,(⟨0,0⟩:VAnb),false,[]⟩:zx),false)
 else
  za (ZF fu (⟨y1.2.v,w64 (y1.2.at_+1)⟩:zw)) fun y5=>
  za (QM y5.2) fun y6=>
  bif y6 then
   some ((⟨3,y3,0,[],false,(⟨0,0⟩:VAnb),false,[]⟩:zx),true)
  else
   zO (X:=(Int×Str×Int×Str×Bool×Int×Int×Bool)×zw×(Int×Str×Int×Str×Bool×Int×Int×Bool)) (
     za (QL ([61],y5.2)) fun y7=>
     bif y7.1 then
      some (LX.out ((0,[],0,[],false,0,0,false),y7.2,(3,y3,1,[],false,0,0,false)))
     else
      za (ZE (0,y7.2)) fun y8=>
      za (Dn ([126,124,94,36,42],y8.text)) fun y9=>
      bif bif y8.kind != 9 then true else decide (y9<0)then
       some (LX.ret ((⟨3,y3,0,[],false,(⟨0,0⟩:VAnb),false,[]⟩:zx),false))
      else
       za (QL ([61],(⟨y7.2.v,w64 (y7.2.at_+1)⟩:zw))) fun y10=>
       bif !y10.1 then
        some (LX.ret ((⟨3,y3,0,[],false,(⟨0,0⟩:VAnb),false,[]⟩:zx),false))
       else
        some (LX.out ((0,[],0,[],false,0,0,false),y10.2,(3,y3,wu8 (2+wu8 y9),[],false,0,0,false)))) fun j11=>
   za (ZF fu j11.2.1) fun y12=>
   za (ZE (0,y12.2)) fun y13=>
   bif bif y13.kind != 1 then y13.kind != 5 else false then
    some ((⟨j11.2.2.1,j11.2.2.2.1,j11.2.2.2.2.1,j11.2.2.2.2.2.1,j11.2.2.2.2.2.2.1,(⟨j11.2.2.2.2.2.2.2.1,j11.2.2.2.2.2.2.2.2.1⟩:VAnb),j11.2.2.2.2.2.2.2.2.2,[]⟩:zx),false)
   else
    za (ZF fu (⟨y12.2.v,w64 (y12.2.at_+1)⟩:zw)) fun y14=>
    za (ZE (0,y14.2)) fun y15=>
    bif y15.kind==1 then
     za (ZF fu (⟨y14.2.v,w64 (y14.2.at_+1)⟩:zw)) fun y16=>
     za (Q3 fu (y15.text,[105])) fun y17=>
     za (QM y16.2) fun y18=>
     za (zA (!y17&&y18) (Q3 fu (y15.text,[115])) (default:Bool)) fun y19=>
     some ((⟨j11.2.2.1,j11.2.2.2.1,j11.2.2.2.2.1,y13.text,y17,(⟨j11.2.2.2.2.2.2.2.1,j11.2.2.2.2.2.2.2.2.1⟩:VAnb),j11.2.2.2.2.2.2.2.2.2,[]⟩:zx),bif y18 then bif y17 then true else y19 else false)
    else
     za (QM y14.2) fun y20=>
     some ((⟨j11.2.2.1,j11.2.2.2.1,j11.2.2.2.2.1,y13.text,j11.2.2.2.2.2.2.1,(⟨j11.2.2.2.2.2.2.2.1,j11.2.2.2.2.2.2.2.2.1⟩:VAnb),j11.2.2.2.2.2.2.2.2.2,[]⟩:zx),y20)
def WA(x:Unit):Option (List Str):=
 some [[108,105,110,107],[118,105,115,105,116,101,100],[97,110,121,45,108,105,110,107],[114,111,111,116],[101,109,112,116,121],[110,116,104,45,99,104,105,108,100],[110,116,104,45,108,97,115,116,45,99,104,105,108,100],[105,115],[119,104,101,114,101],[110,111,116],[104,97,115]]
def FD(fu:Nat)(x:List Str×Str):Option Int:=
 ZG fu (fun(s1:Int)=>
   bif decide (s1<(x.1.length:Int))then
    za (geti x.1 s1) fun y2=>
    bif x.2==y2 then
     some (LO.ret s1)
    else
     some (LO.again (w64 (s1+1)))
   else
    some (LO.out ()):Int->Option (LO (Int) (Unit) _)) 0 fun o3=>
 some (-1)
def wN(fu:Nat)(x:Str):Option (zx×Bool):=
 za (qd fu x) fun y1=>
 bif y1==[102,105,114,115,116,45,99,104,105,108,100]then
  some ((⟨9,[],0,[],false,(⟨0,1⟩:VAnb),false,[]⟩:zx),true)
 else
  bif y1==[108,97,115,116,45,99,104,105,108,100]then
   some ((⟨10,[],0,[],false,(⟨0,1⟩:VAnb),false,[]⟩:zx),true)
  else
   za (WA ()) fun y2=>
   za (qd fu x) fun y3=>
   za (FD fu (y2,y3)) fun y4=>
   some ((⟨wu8 (4+wu8 (if 0>y4 then 0 else y4)),[],0,[],false,(⟨0,0⟩:VAnb),false,[]⟩:zx),bif decide (y4>=0)then decide (y4<5)else false)
def dO(fu:Nat)(x:ze):Option Bool:=
 za (zA (x.token.kind==1) (Q3 fu (x.token.text,[111,102])) (default:Bool)) fun y1=>
 some (bif x.token.kind==1 then y1 else false)
def PR(fu:Nat)(x:List ze):Option Int:=
 ZG fu (fun(s1:Int)=>
   bif decide (s1<(x.length:Int))then
    za (geti x s1) fun y2=>
    za (dO fu (⟨y2.token,y2.list⟩:ze)) fun y3=>
    bif y3 then
     some (LO.ret s1)
    else
     some (LO.again (w64 (s1+1)))
   else
    some (LO.out ()):Int->Option (LO (Int) (Unit) _)) 0 fun o4=>
 some (-1)
def Ql(x:zh×Int):Option (zh×Bool):=
 bif bif x.1.deep==3 then true else bif x.1.has then x.2==14 else false then
  some ((⟨0,false⟩:zh),false)
 else
  some ((⟨w64 (x.1.deep+1),bif x.1.has then true else x.2==14⟩:zh),true)
def fH(fu:Nat)(Kl:List ze×List zk->Option (List zk))(x:List ze×List zk):Option (List zk):=
 ZG fu (fun(s1:Int×List zk)=>
   bif decide (s1.1<(x.1.length:Int))then
    zO (X:=Int×List zk) (
      za (geti x.1 s1.1) fun y2=>
      need (Zb s1.2.length 1 56)<|
      za (yj y2.token.kind) fun y3=>
      bif y3 != 0 then
       za (Kl (y2.list,s1.2++[y2.token])) fun y4=>
       need (Zb y4.length 1 56)<|
       some (LX.out (s1.1,y4++[(⟨y3,[],0,[],false⟩:zk)]))
      else
       some (LX.out (s1.1,s1.2++[y2.token]))) fun j5=>
    some (LO.again (w64 (j5.1+1),j5.2))
   else
    some (LO.out s1.2):Int×List zk->Option (LO (Int×List zk) (List zk) _)) (0,x.2) fun o6=>
 some o6
def Kl(fu:Nat):List ze×List zk->Option (List zk):=Ue (fH fu) fu
def TA(fu:Nat)(x:List ze):Option (List zk):=
 ZG fu (fun(s1:Int×List zk)=>
   bif decide (s1.1<(x.length:Int))then
    zO (X:=Int×List zk) (
      za (geti x s1.1) fun y2=>
      need (Zb s1.2.length 1 56)<|
      za (yj y2.token.kind) fun y3=>
      bif y3 != 0 then
       za (Kl fu (y2.list,s1.2++[y2.token])) fun y4=>
       need (Zb y4.length 1 56)<|
       some (LX.out (s1.1,y4++[(⟨y3,[],0,[],false⟩:zk)]))
      else
       some (LX.out (s1.1,s1.2++[y2.token]))) fun j5=>
    some (LO.again (w64 (j5.1+1),j5.2))
   else
    some (LO.out s1.2):Int×List zk->Option (LO (Int×List zk) (List zk) _)) (0,[]) fun o6=>
 some o6
def iF(fu:Nat)(x:List ze):Option (List zk×Int):=
 za (Ak fu x) fun y1=>
 bif y1 != 0 then
  some ([],y1)
 else
  za (TA fu x) fun y2=>
  some (y2,0)
def Um(x:Str×Int):Option Bool:=
 za (zA (!(decide ((x.1.length:Int)>x.2))) (strings_IndexByte (x.1,0)) (default:Int)) fun y1=>
 some (bif decide ((x.1.length:Int)>x.2)then true else decide (y1>=0))
def Hl(x:Str):Option Bool:=
 za (zA (!(x==[])) (Um (x,64)) (default:Bool)) fun y1=>
 some (bif !(x==[])then !y1 else false)
def kH(fu:Nat)(x:Str):Option Bool:=
 za (Hl x) fun y1=>
 za (zA y1 (qd fu x) (default:Str)) fun y2=>
 some (bif y1 then y2==x else false)
def ou(x:zx):Option (Bool×Bool):=
 zO (X:=Bool) (
   bif x.kind==9 then
    some (LX.out (x.kind==9))
   else
    some (LX.out (x.kind==10))) fun j1=>
 bif j1 then
  some (x.of_,false)
 else
  zO (X:=Bool) (
    bif x.kind==11 then
     some (LX.out (x.kind==11))
    else
     some (LX.out (x.kind==12))) fun j2=>
  bif j2 then
   some (true,true)
  else
   zO (X:=Bool) (
     bif x.kind==13 then
      some (LX.out (x.kind==13))
     else
      some (LX.out (x.kind==14))) fun j3=>
   bif j3 then
    some (true,false)
   else
    some (false,true)
def ry(x:Int):Option Bool:=
 some (bif decide ((-1000000000)<=x)then decide (x<=1000000000)else false)
def Jm(x:VAnb):Option Int:=
 za (ry x.a) fun y1=>
 za (zA (!(!y1)) (ry x.b) (default:Bool)) fun y2=>
 bif bif !y1 then true else !y2 then
  some 8
 else
  some 0
def uP(fu:Nat)(zt:zy×zh->Option Bool)(x:zy×zh):Option Bool:=
 za (zt ((⟨x.1.tag,x.1.simples⟩:zy),x.2)) fun y1=>
 some (!y1)
def XR(fu:Nat)(zt:zy×zh->Option Bool)(x:List zy×zh):Option Int:=
 ZG fu (fun(s1:Int)=>
   bif decide (s1<(x.1.length:Int))then
    za (geti x.1 s1) fun y2=>
    za (uP fu zt ((⟨y2.tag,y2.simples⟩:zy),x.2)) fun y3=>
    bif y3 then
     some (LO.ret s1)
    else
     some (LO.again (w64 (s1+1)))
   else
    some (LO.out ()):Int->Option (LO (Int) (Unit) _)) 0 fun o4=>
 some (-1)
def uR(fu:Nat)(zt:zy×zh->Option Bool)(x:List zy×zh):Option Bool:=
 za (XR fu zt (x.1,x.2)) fun y1=>
 some (decide (y1>=0))
def jH(fu:Nat)(zt:zy×zh->Option Bool)(x:zg×zh×Bool):Option Bool:=
 bif bif bif bif !(x.2.2==(x.1.lead != 0))then true else decide (x.1.lead>4)then true else w64 ((x.1.combs.length:Int)+1) != (x.1.parts.length:Int)then true else decide ((x.1.parts.length:Int)>64)then
  some false
 else
  ZG fu (fun(s1:Int)=>
    bif decide (s1<(x.1.combs.length:Int))then
     za (geti x.1.combs s1) fun y2=>
     bif bif decide ((y2.toNat:Int)<1)then true else decide ((y2.toNat:Int)>4)then
      some (LO.ret false)
     else
      some (LO.again (w64 (s1+1)))
    else
     some (LO.out ()):Int->Option (LO (Int) (Unit) _)) 0 fun o3=>
  za (uR fu zt (x.1.parts,x.2.1)) fun y4=>
  some (!y4)
def IQ(fu:Nat)(zt:zy×zh->Option Bool)(x:zg×zh×zx):Option Bool:=
 za (jH fu zt ((⟨x.1.lead,x.1.parts,x.1.combs⟩:zg),x.2.1,x.2.2.kind==14)) fun y1=>
 some (!y1)
def TR(fu:Nat)(zt:zy×zh->Option Bool)(x:List zg×zh×zx):Option Int:=
 ZG fu (fun(s1:Int)=>
   bif decide (s1<(x.1.length:Int))then
    za (geti x.1 s1) fun y2=>
    za (IQ fu zt ((⟨y2.lead,y2.parts,y2.combs⟩:zg),x.2.1,(⟨x.2.2.kind,x.2.2.name,x.2.2.op,x.2.2.value,x.2.2.fold,x.2.2.anb,x.2.2.of_,x.2.2.list⟩:zx))) fun y3=>
    bif y3 then
     some (LO.ret s1)
    else
     some (LO.again (w64 (s1+1)))
   else
    some (LO.out ()):Int->Option (LO (Int) (Unit) _)) 0 fun o4=>
 some (-1)
def dR(fu:Nat)(zt:zy×zh->Option Bool)(x:List zg×zh×zx):Option Bool:=
 za (TR fu zt (x.1,x.2.1,(⟨x.2.2.kind,x.2.2.name,x.2.2.op,x.2.2.value,x.2.2.fold,x.2.2.anb,x.2.2.of_,x.2.2.list⟩:zx))) fun y1=>
 some (decide (y1>=0))
def mP(fu:Nat)(zt:zy×zh->Option Bool)(x:zx×zh):Option Bool:=
 za (ou (⟨x.1.kind,x.1.name,x.1.op,x.1.value,x.1.fold,x.1.anb,x.1.of_,x.1.list⟩:zx)) fun y1=>
 zO (X:=Unit) (
   bif y1.1 then
    za (Ql (x.2,x.1.kind)) fun y2=>
    za (zA (!(bif !y2.2 then true else bif !y1.2 then(x.1.list.length:Int)==0 else false)) (dR fu zt (x.1.list,y2.1,(⟨x.1.kind,x.1.name,x.1.op,x.1.value,x.1.fold,x.1.anb,x.1.of_,x.1.list⟩:zx))) (default:Bool)) fun y3=>
    bif bif bif !y2.2 then true else bif !y1.2 then(x.1.list.length:Int)==0 else false then true else y3 then
     some (LX.ret false)
    else
     some (LX.out ())
   else
    bif decide ((x.1.list.length:Int)>0)then
     some (LX.ret false)
    else
     some (LX.out ())) fun j4=>
 bif bif bif !(x.1.kind==3)then bif bif x.1.op != 0 then true else !(x.1.value==[])then true else x.1.fold else false then true else bif !(bif x.1.kind==9 then true else x.1.kind==10)then bif x.1.of_ then true else !(x.1.anb.a==0&&(x.1.anb.b==0&&true))else false then
  some false
 else
  zO (X:=Bool) (
    bif x.1.kind==1 then
     some (LX.out (x.1.kind==1))
    else
     some (LX.out (x.1.kind==2))) fun j5=>
  bif j5 then
   za (Hl x.1.name) fun y6=>
   some y6
  else
   bif x.1.kind==3 then
    za (kH fu x.1.name) fun y7=>
    za (zA (bif y7 then decide (x.1.op<=6)else false) (Um (x.1.value,400)) (default:Bool)) fun y8=>
    some (bif bif bif y7 then decide (x.1.op<=6)else false then !y8 else false then bif x.1.op != 0 then true else bif x.1.value==[]then !x.1.fold else false else false)
   else
    za (zA (!(!(bif x.1.kind==9 then true else x.1.kind==10))&&(bif bif x.1.name==[]then decide (x.1.kind>=4)else false then decide (x.1.kind<=14)else false)) (Jm x.1.anb) (default:Int)) fun y9=>
    some (bif bif bif x.1.name==[]then decide (x.1.kind>=4)else false then decide (x.1.kind<=14)else false then bif !(bif x.1.kind==9 then true else x.1.kind==10)then true else y9==0 else false)
def dI(fu:Nat)(zt:zy×zh->Option Bool)(x:zy×zh):Option Bool:=
 za (zA (bif !(x.1.tag==[])then !(x.1.tag==[42])else false) (kH fu x.1.tag) (default:Bool)) fun y1=>
 bif bif bif bif !(x.1.tag==[])then !(x.1.tag==[42])else false then !y1 else false then true else decide ((x.1.simples.length:Int)>64)then
  some false
 else
  ZG fu (fun(s2:Int)=>
    bif decide (s2<(x.1.simples.length:Int))then
     za (geti x.1.simples s2) fun y3=>
     za (mP fu zt ((⟨y3.kind,y3.name,y3.op,y3.value,y3.fold,y3.anb,y3.of_,y3.list⟩:zx),x.2)) fun y4=>
     bif !y4 then
      some (LO.ret false)
     else
      some (LO.again (w64 (s2+1)))
    else
     some (LO.out ()):Int->Option (LO (Int) (Unit) _)) 0 fun o5=>
  some (bif !(x.1.tag==[])then true else decide ((x.1.simples.length:Int)>0))
def zt(fu:Nat):zy×zh->Option Bool:=Ue (dI fu) fu
def xM(fu:Nat)(zR:List ze×zh×Bool×Bool->Option (List zg×Bool))(x:zx×List ze×zh):Option (zx×Bool):=
 za (PR fu x.2.1) fun y1=>
 zO (X:=List ze×zx×(Int×Str×Int×Str×Bool×Int×Int×Bool)) (
   bif decide (y1>=0)then
    za (Ql (x.2.2,x.1.kind)) fun y2=>
    need (decide (0<=w64 (y1+1))&&decide (w64 (y1+1)<=(x.2.1.length:Int)))<|
    za (zR (List.drop (w64 (y1+1)).toNat x.2.1,y2.1,false,false)) fun y3=>
    bif bif !y2.2 then true else !y3.2 then
     some (LX.ret ((⟨x.1.kind,x.1.name,x.1.op,x.1.value,x.1.fold,x.1.anb,x.1.of_,x.1.list⟩:zx),false))
    else
     need (decide (0<=y1)&&decide (y1<=(x.2.1.length:Int)))<|
     some (LX.out (List.take y1.toNat x.2.1,(⟨x.1.kind,x.1.name,x.1.op,x.1.value,x.1.fold,x.1.anb,true,y3.1⟩:zx),(0,[],0,[],false,0,0,false)))
   else
    some (LX.out (x.2.1,(⟨x.1.kind,x.1.name,x.1.op,x.1.value,x.1.fold,x.1.anb,x.1.of_,x.1.list⟩:zx),(0,[],0,[],false,0,0,false)))) fun j4=>
 za (iF fu j4.1) fun y5=>
 bif y5.2 != 0 then
  some ((⟨j4.2.1.kind,j4.2.1.name,j4.2.1.op,j4.2.1.value,j4.2.1.fold,j4.2.1.anb,j4.2.1.of_,j4.2.1.list⟩:zx),false)
 else
  za (VU y5.1) fun y6=>
  some ((⟨j4.2.1.kind,j4.2.1.name,j4.2.1.op,j4.2.1.value,j4.2.1.fold,y6.1,j4.2.1.of_,j4.2.1.list⟩:zx),y6.2==0)
def JQ(fu:Nat)(zR:List ze×zh×Bool×Bool->Option (List zg×Bool))(x:Str×List ze×zh):Option (zx×Bool):=
 za (WA ()) fun y1=>
 za (qd fu x.1) fun y2=>
 za (FD fu (y1,y2)) fun y3=>
 bif decide (y3<5)then
  some ((⟨0,[],0,[],false,(⟨0,0⟩:VAnb),false,[]⟩:zx),false)
 else
  bif decide (wu8 (4+wu8 y3)<=10)then
   za (xM fu zR ((⟨wu8 (4+wu8 y3),[],0,[],false,(⟨0,0⟩:VAnb),false,[]⟩:zx),x.2.1,x.2.2)) fun y4=>
   some ((⟨y4.1.kind,y4.1.name,y4.1.op,y4.1.value,y4.1.fold,y4.1.anb,y4.1.of_,y4.1.list⟩:zx),y4.2)
  else
   za (Ql (x.2.2,wu8 (4+wu8 y3))) fun y5=>
   bif !y5.2 then
    some ((⟨wu8 (4+wu8 y3),[],0,[],false,(⟨0,0⟩:VAnb),false,[]⟩:zx),false)
   else
    za (zR (x.2.1,y5.1,wu8 (4+wu8 y3)==14,decide (wu8 (4+wu8 y3)<=12))) fun y6=>
    some ((⟨wu8 (4+wu8 y3),[],0,[],false,(⟨0,0⟩:VAnb),false,y6.1⟩:zx),y6.2)
def ER(fu:Nat)(zR:List ze×zh×Bool×Bool->Option (List zg×Bool))(x:zh×zw):Option ((List zx×Bool)×zw):=
 ZG fu (fun(s1:zw×List zx)=>
   za (ZE (1,s1.1)) fun y2=>
   zO (X:=Bool×zw×List zx×zx) (
     za (ZE (0,s1.1)) fun y3=>
     bif y3.kind==4 then
      some (LX.out (y3.flag,(⟨s1.1.v,w64 (s1.1.at_+1)⟩:zw),s1.2,(⟨1,y3.text,0,[],false,(⟨0,0⟩:VAnb),false,[]⟩:zx)))
     else
      bif bif y3.kind==9 then y3.text==[46]else false then
       some (LX.out (y2.kind==1,(⟨s1.1.v,w64 (s1.1.at_+2)⟩:zw),s1.2,(⟨2,y2.text,0,[],false,(⟨0,0⟩:VAnb),false,[]⟩:zx)))
      else
       bif y3.kind==19 then
        za (bI (0,s1.1)) fun y4=>
        za (xN fu y4) fun y5=>
        some (LX.out (y5.2,(⟨s1.1.v,w64 (s1.1.at_+1)⟩:zw),s1.2,(⟨y5.1.kind,y5.1.name,y5.1.op,y5.1.value,y5.1.fold,y5.1.anb,y5.1.of_,y5.1.list⟩:zx)))
       else
        bif y3.kind==16 then
         zO (X:=Bool×zw×zx) (
           bif y2.kind==1 then
            za (wN fu y2.text) fun y6=>
            some (LX.out (y6.2,s1.1,(⟨y6.1.kind,y6.1.name,y6.1.op,y6.1.value,y6.1.fold,y6.1.anb,y6.1.of_,y6.1.list⟩:zx)))
           else
            bif y2.kind==2 then
             za (bI (1,s1.1)) fun y7=>
             za (JQ fu zR (y2.text,y7,x.1)) fun y8=>
             some (LX.out (y8.2,s1.1,(⟨y8.1.kind,y8.1.name,y8.1.op,y8.1.value,y8.1.fold,y8.1.anb,y8.1.of_,y8.1.list⟩:zx)))
            else
             some (LX.out (false,s1.1,(⟨0,[],0,[],false,(⟨0,0⟩:VAnb),false,[]⟩:zx)))) fun j9=>
         some (LX.out (j9.1,(⟨j9.2.1.v,w64 (j9.2.1.at_+2)⟩:zw),s1.2,(⟨j9.2.2.kind,j9.2.2.name,j9.2.2.op,j9.2.2.value,j9.2.2.fold,j9.2.2.anb,j9.2.2.of_,j9.2.2.list⟩:zx)))
        else
         some (LX.ret (LO.ret ((s1.2,true),s1.1)))) fun j10=>
   bif !j10.1 then
    some (LO.ret (([],false),j10.2.1))
   else
    need (Zb j10.2.2.1.length 1 104)<|
    some (LO.again (j10.2.1,j10.2.2.1++[(⟨j10.2.2.2.kind,j10.2.2.2.name,j10.2.2.2.op,j10.2.2.2.value,j10.2.2.2.fold,j10.2.2.2.anb,j10.2.2.2.of_,j10.2.2.2.list⟩:zx)])):zw×List zx->Option (LO (zw×List zx) (Unit) _)) (x.2,[]) fun o11=>
 none
def TQ(fu:Nat)(zR:List ze×zh×Bool×Bool->Option (List zg×Bool))(x:List ze×zh×Bool):Option (zg×Bool):=
 za (ZF fu (⟨x.1,0⟩:zw)) fun y1=>
 zO (X:=Int×zw×Int) (
   bif x.2.2 then
    za (XI fu y1.2) fun y2=>
    bif y2.1==0 then
     some (LX.out (0,y2.2,1))
    else
     some (LX.out (0,y2.2,y2.1))
   else
    some (LX.out (0,y1.2,0))) fun j3=>
 zO (X:=Int×zw×Int) (
   some (LX.out (j3.1,j3.2.1,j3.2.2))) fun j4=>
 ZG fu (fun(s5:Int×zw×Int×List zy×List UInt8)=>
   zO (X:=Int×zw×Int×List zy×List UInt8×Str) (
     za (ZE (0,s5.2.1)) fun y6=>
     bif y6.kind==1 then
      za (qd fu y6.text) fun y7=>
      some (LX.out (s5.1,(⟨s5.2.1.v,w64 (s5.2.1.at_+1)⟩:zw),s5.2.2.1,s5.2.2.2.1,s5.2.2.2.2,y7))
     else
      za (QL ([42],s5.2.1)) fun y8=>
      bif y8.1 then
       some (LX.out (s5.1,y8.2,s5.2.2.1,s5.2.2.2.1,s5.2.2.2.2,[42]))
      else
       some (LX.out (s5.1,y8.2,s5.2.2.1,s5.2.2.2.1,s5.2.2.2.2,[]))) fun j9=>
   za (ER fu zR (x.2.1,j9.2.1)) fun y10=>
   za (zA (!(!y10.1.2)) (zt fu ((⟨j9.2.2.2.2.2,y10.1.1⟩:zy),x.2.1)) (default:Bool)) fun y11=>
   bif bif !y10.1.2 then true else !y11 then
    some (LO.ret ((⟨j9.2.2.1,j9.2.2.2.1,j9.2.2.2.2.1⟩:zg),false))
   else
    need (Zb j9.2.2.2.1.length 1 40)<|
    za (ZF fu y10.2) fun y12=>
    za (QM y12.2) fun y13=>
    bif y13 then
     some (LO.out (j9.1,y12.2,j9.2.2.1,j9.2.2.2.1++[(⟨j9.2.2.2.2.2,y10.1.1⟩:zy)],j9.2.2.2.2.1))
    else
     za (XI fu y12.2) fun y14=>
     zO (X:=Int×Int×Int×List zy×List UInt8) (
       bif bif y14.1==0 then !y12.1 else false then
        some (LX.ret (LO.ret ((⟨j9.2.2.1,j9.2.2.2.1++[(⟨j9.2.2.2.2.2,y10.1.1⟩:zy)],j9.2.2.2.2.1⟩:zg),false)))
       else
        bif y14.1==0 then
         some (LX.out (1,j9.1,j9.2.2.1,j9.2.2.2.1++[(⟨j9.2.2.2.2.2,y10.1.1⟩:zy)],j9.2.2.2.2.1))
        else
         some (LX.out (y14.1,j9.1,j9.2.2.1,j9.2.2.2.1++[(⟨j9.2.2.2.2.2,y10.1.1⟩:zy)],j9.2.2.2.2.1))) fun j15=>
     za (qE j15.1) fun y16=>
     need (Zb j15.2.2.2.2.length 1 1)<|
     some (LO.again (j15.2.1,y14.2,j15.2.2.1,j15.2.2.2.1,j15.2.2.2.2++[y16])):Int×zw×Int×List zy×List UInt8->Option (LO (Int×zw×Int×List zy×List UInt8) (Int×zw×Int×List zy×List UInt8) _)) (j4.1,j4.2.1,j4.2.2,[],[]) fun o17=>
 some ((⟨o17.2.2.1,o17.2.2.2.1,o17.2.2.2.2⟩:zg),decide ((o17.2.2.2.1.length:Int)<=64))
def EI(fu:Nat)(zR:List ze×zh×Bool×Bool->Option (List zg×Bool))(x:List ze×zh×Bool×Bool):Option (List zg×Bool):=
 ZG fu (fun(s1:(Int×Int)×List zg)=>
   bif decide (s1.1.2<w64 ((x.1.length:Int)+1))then
    zO (X:=(Int×Int)×List zg) (
      za (zA (decide (s1.1.2<(x.1.length:Int))) (geti x.1 s1.1.2) (default:ze)) fun y2=>
      bif bif decide (s1.1.2<(x.1.length:Int))then y2.token.kind != 18 else false then
       some (LX.out ((s1.1.1,s1.1.2),s1.2))
      else
       zO (X:=List zg) (
         need (decide (0<=s1.1.1)&&(decide (s1.1.1<=s1.1.2)&&decide (s1.1.2<=(x.1.length:Int))))<|
         za (TQ fu zR (List.drop s1.1.1.toNat (List.take s1.1.2.toNat x.1),x.2.1,x.2.2.1)) fun y3=>
         bif y3.2 then
          need (Zb s1.2.length 1 56)<|
          some (LX.out (s1.2++[(⟨y3.1.lead,y3.1.parts,y3.1.combs⟩:zg)]))
         else
          bif !x.2.2.2 then
           some (LX.ret (LX.ret (LO.ret ([],false))))
          else
           some (LX.out s1.2)) fun j4=>
       some (LX.out ((w64 (s1.1.2+1),s1.1.2),j4))) fun j5=>
    some (LO.again ((j5.1.1,w64 (j5.1.2+1)),j5.2))
   else
    some (LO.out s1.2):(Int×Int)×List zg->Option (LO ((Int×Int)×List zg) (List zg) _)) ((0,0),[]) fun o6=>
 some (o6,true)
def zR(fu:Nat):List ze×zh×Bool×Bool->Option (List zg×Bool):=Ue (EI fu) fu
def FI(fu:Nat)(qW:List zg->Option Int)(x:List zg):Option Int:=
 ZG fu (fun(s1:Int×Int)=>
   bif decide (s1.2<(x.length:Int))then
    za (geti x s1.2) fun y2=>
    ZG fu (fun(s3:Int×Int)=>
      bif decide (s3.2<(y2.parts.length:Int))then
       za (geti y2.parts s3.2) fun y4=>
       ZG fu (fun(s5:Int×Int)=>
         bif decide (s5.2<(y4.simples.length:Int))then
          za (geti y4.simples s5.2) fun y6=>
          za (qW y6.list) fun y7=>
          some (LO.again (w64 (s5.1+y7),w64 (s5.2+1)))
         else
          some (LO.out s5.1):Int×Int->Option (LO (Int×Int) (Int) _)) (s3.1,0) fun o8=>
       some (LO.again (o8,w64 (s3.2+1)))
      else
       some (LO.out s3.1):Int×Int->Option (LO (Int×Int) (Int) _)) (s1.1,0) fun o9=>
    some (LO.again (o9,w64 (s1.2+1)))
   else
    some (LO.out s1.1):Int×Int->Option (LO (Int×Int) (Int) _)) ((x.length:Int),0) fun o10=>
 some o10
def qW(fu:Nat):List zg->Option Int:=Ue (FI fu) fu
def YM(fu:Nat)(x:List ze):Option (List zg×Int):=
 za (Ak fu x) fun y1=>
 bif y1 != 0 then
  some ([],y1)
 else
  za (zR fu (x,(⟨0,false⟩:zh),false,false)) fun y2=>
  bif !y2.2 then
   some ([],12)
  else
   za (qW fu y2.1) fun y3=>
   bif decide (y3>64)then
    some ([],4)
   else
    some (y2.1,0)
def iQ(fu:Nat)(x:List ze):Option (List ze):=
 bif x.isEmpty then
  both (
    some []) (
    need (Zb 0 x.length 80)<|
    some x)
 else
  need (Zb 0 x.length 80)<|
  some x
def jI(fu:Nat)(x:List ze):Option (List ze):=need (Zb 0 x.length 80) (some x)
theorem zlp(fu:Nat)(x):Le (jI fu x) (iQ fu x):=by
 cases x with
 |nil=> intro y hy;show both (some []) (some [])=some y;unfold both;rw[aa rfl];exact hy
 |cons a r=>exact .rfl
def iG(fu:Nat)(Xi:List ze->Option (List ze))(x:List ze):Option (List ze):=
 za (jI fu x) fun y1=>
 ZG fu (fun(s2:Int×List ze)=>
   bif decide (s2.1<(y1.length:Int))then
    need (decide (0<=s2.1)&&decide (s2.1<(s2.2.length:Int)))<|
    za s2.2[s2.1.toNat]? fun y3=>
    za (Xi y3.list) fun y4=>
    need (decide (0<=s2.1)&&decide (s2.1<(s2.2.length:Int)))<|
    za s2.2[s2.1.toNat]? fun y5=>
    some (LO.again (w64 (s2.1+1),List.set s2.2 s2.1.toNat (⟨y5.token,y4⟩:ze)))
   else
    some (LO.out s2.2):Int×List ze->Option (LO (Int×List ze) (List ze) _)) (0,y1) fun o6=>
 some o6
def Xi(fu:Nat):List ze->Option (List ze):=Ue (iG fu) fu
def xy(fu:Nat)(x:List ze×Int):Option (List (List ze)×Int):=
 za (Ak fu x.1) fun y1=>
 bif y1 != 0 then
  some ([],y1)
 else
  bif bif decide (x.2<1)then true else decide (x.2>24)then
   some ([],2)
  else
   ZG fu (fun(s2:(Int×Int)×List (List ze))=>
     bif decide (s2.1.2<(x.1.length:Int))then
      zO (X:=(Int×Int)×List (List ze)) (
        za (geti x.1 s2.1.2) fun y3=>
        bif y3.token.kind==x.2 then
         need (decide (0<=s2.1.1)&&(decide (s2.1.1<=s2.1.2)&&(decide (s2.1.2<=s2.1.2)&&decide (s2.1.2<=(x.1.length:Int))))&&decide (s2.1.2=s2.1.2))<|
         za (Xi fu (List.drop s2.1.1.toNat (List.take s2.1.2.toNat x.1))) fun y4=>
         need (Zb s2.2.length 1 24)<|
         some (LX.out ((w64 (s2.1.2+1),s2.1.2),s2.2++[y4]))
        else
         some (LX.out ((s2.1.1,s2.1.2),s2.2))) fun j5=>
      some (LO.again ((j5.1.1,w64 (j5.1.2+1)),j5.2))
     else
      some (LO.out (s2.1.1,s2.2)):(Int×Int)×List (List ze)->Option (LO ((Int×Int)×List (List ze)) (Int×List (List ze)) _)) ((0,0),[]) fun o6=>
   need (decide (0<=o6.1)&&decide (o6.1<=(x.1.length:Int)))<|
   za (Xi fu (List.drop o6.1.toNat x.1)) fun y7=>
   need (Zb o6.2.length 1 24)<|
   some (o6.2++[y7],0)
def QE(x:ze×Int):Option Bool:=
 some (x.1.token.kind==x.2)
def jy(fu:Nat)(x:List ze):Option (List ze):=
 ZG fu (fun(s1:List ze)=>
   za (zA (decide ((s1.length:Int)>0)) (geti s1 0) (default:ze)) fun y2=>
   za (zA (decide ((s1.length:Int)>0)) (QE ((⟨y2.token,y2.list⟩:ze),13)) (default:Bool)) fun y3=>
   bif bif decide ((s1.length:Int)>0)then y3 else false then
    need (decide (1<=(s1.length:Int)))<|
    some (LO.again (List.drop 1 s1))
   else
    some (LO.out s1):List ze->Option (LO (List ze) (List ze) _)) x fun o4=>
 some o4
def Dz(fu:Nat)(x:List ze):Option (List ze):=
 ZG fu (fun(s1:List ze)=>
   za (zA (decide ((s1.length:Int)>0)) (geti s1 (w64 ((s1.length:Int) - 1))) (default:ze)) fun y2=>
   za (zA (decide ((s1.length:Int)>0)) (QE ((⟨y2.token,y2.list⟩:ze),13)) (default:Bool)) fun y3=>
   bif bif decide ((s1.length:Int)>0)then y3 else false then
    need (decide (0<=w64 ((s1.length:Int) - 1))&&decide (w64 ((s1.length:Int) - 1)<=(s1.length:Int)))<|
    some (LO.again (List.take (w64 ((s1.length:Int) - 1)).toNat s1))
   else
    some (LO.out s1):List ze->Option (LO (List ze) (List ze) _)) x fun o4=>
 some o4
def Py(x:ze):Option Bool:=
 za (QE ((⟨x.token,x.list⟩:ze),9)) fun y1=>
 some (bif y1 then x.token.text==[33]else false)
def dG(x:Int×List ze):Option Bool:=
 za (geti x.2 x.1) fun y1=>
 some (y1.token.kind==13)
def Yy(fu:Nat)(x:List ze):Option (List ze×Int):=
 za (Ak fu x) fun y1=>
 bif y1 != 0 then
  some ([],y1)
 else
  ZG fu (fun(s2:Int)=>
    za (zA (decide (s2<(x.length:Int))) (dG (s2,x)) (default:Bool)) fun y3=>
    bif bif decide (s2<(x.length:Int))then y3 else false then
     some (LO.again (w64 (s2+1)))
    else
     some (LO.out s2):Int->Option (LO (Int) (Int) _)) 0 fun o4=>
  ZG fu (fun(s5:Int)=>
    za (zA (decide (o4<s5)) (dG (w64 (s5 - 1),x)) (default:Bool)) fun y6=>
    bif bif decide (o4<s5)then y6 else false then
     some (LO.again (w64 (s5 - 1)))
    else
     some (LO.out s5):Int->Option (LO (Int) (Int) _)) (x.length:Int) fun o7=>
  need (decide (0<=o4)&&(decide (o4<=o7)&&(decide (o7<=o7)&&decide (o7<=(x.length:Int))))&&decide (o7=o7))<|
  za (Xi fu (List.drop o4.toNat (List.take o7.toNat x))) fun y8=>
  some (y8,0)
def gM(fu:Nat)(x:Str):Option Bool:=
 za (zA (!(bif x==[]then true else decide ((x.length:Int)>64))) (strings_IndexByte (x,0)) (default:Int)) fun y1=>
 bif bif bif x==[]then true else decide ((x.length:Int)>64)then true else decide (y1>=0)then
  some false
 else
  za (strings_HasPrefix (x,[45,45])) fun y2=>
  bif y2 then
   some (!(x==[45,45]))
  else
   za (qd fu x) fun y3=>
   some (x==y3)
def stringslite_TrimPrefix(x:Str×Str):Option Str:=
 za (stringslite_HasPrefix (x.1,x.2)) fun y1=>
 bif y1 then
  need (decide (0<=(x.2.length:Int))&&decide ((x.2.length:Int)<=(x.1.length:Int)))<|
  some (List.drop x.2.length x.1)
 else
  some x.1
def strings_TrimPrefix(x:Str×Str):Option Str:=
 za (stringslite_TrimPrefix (x.1,x.2)) fun y1=>
 some y1
def Uj(x:Int):Option Bool:=
 some (bif decide (48<=x)then decide (x<=57)else false)
def Wq(x:Str):Option Bool:=
 za (strings_TrimPrefix (x,[45])) fun y1=>
 za (zA (!(y1==[])) (geti y1 0) 0) fun y2=>
 za (zA (!(y1==[])) (Uj (y2.toNat:Int)) (default:Bool)) fun y3=>
 some (bif !(y1==[])then y3 else false)
def TG(x:Int):Option Bool:=
 some (bif bif decide (97<=ibOr IntKind.u8 x 32)then decide (ibOr IntKind.u8 x 32<=122)else false then decide (x<128)else false)
def Yp(x:Int):Option Bool:=
 za (TG x) fun y1=>
 za (zA (!y1) (Uj x) (default:Bool)) fun y2=>
 some (bif bif bif bif y1 then true else y2 then true else x==95 then true else x==45 then true else decide (x>=128))
def strings_Contains(x:Str×Str):Option Bool:=
 za (Dn (x.1,x.2)) fun y1=>
 some (decide (y1>=0))
def Np(x:zk):Option Bool:=
 need (QV x.text.length x.unit.length)<|
 za (strings_IndexByte (x.text++x.unit,0)) fun y1=>
 zO (X:=Bool×Bool×Bool×Bool×Bool) (
   zO (X:=Bool×Bool×Bool×Bool×Bool×Bool) (
     bif x.kind==1 then
      some (LX.out (false,false,false,false,decide (y1<0),x.kind==1))
     else
      bif x.kind==2 then
       some (LX.out (false,false,false,false,decide (y1<0),x.kind==2))
      else
       some (LX.out (false,false,false,false,decide (y1<0),x.kind==3))) fun j2=>
   bif j2.2.2.2.2.2 then
    some (LX.out (true,j2.2.1,j2.2.2.1,j2.2.2.2.1,bif j2.2.2.2.2.1 then !(x.text==[])else false))
   else
    bif x.kind==4 then
     za (zA (!x.flag&&(bif j2.2.2.2.2.1 then !(x.text==[])else false)) (Wq x.text) (default:Bool)) fun y3=>
     za (zA (y3&&(!x.flag&&(bif j2.2.2.2.2.1 then !(x.text==[])else false))) (strings_HasPrefix (x.text,[45,45])) (default:Bool)) fun y4=>
     some (LX.out (true,j2.2.1,j2.2.2.1,true,bif bif j2.2.2.2.2.1 then !(x.text==[])else false then bif bif x.flag then true else bif y3 then !y4 else false then true else x.text==[45]else false))
    else
     zO (X:=Bool×Bool×Bool×Bool×Bool×Bool) (
       bif x.kind==5 then
        some (LX.out (j2.1,j2.2.1,j2.2.2.1,j2.2.2.2.1,j2.2.2.2.2.1,x.kind==5))
       else
        some (LX.out (j2.1,j2.2.1,j2.2.2.1,j2.2.2.2.1,j2.2.2.2.2.1,x.kind==7))) fun j5=>
     bif j5.2.2.2.2.2 then
      some (LX.out (true,j5.2.1,j5.2.2.1,j5.2.2.2.1,j5.2.2.2.2.1))
     else
      bif x.kind==9 then
       za (zA (bif j5.2.2.2.2.1 then(x.text.length:Int)==1 else false) (geti x.text 0) 0) fun y6=>
       za (zA (bif j5.2.2.2.2.1 then(x.text.length:Int)==1 else false) (Yp (y6.toNat:Int)) (default:Bool)) fun y7=>
       za (zA (bif bif bif j5.2.2.2.2.1 then(x.text.length:Int)==1 else false then !y7 else false then true else x.text==[45]) (strings_Contains ([32,9,10,12,13,34,39,58,59,44,91,93,40,41,123,125],x.text)) (default:Bool)) fun y8=>
       some (LX.out (true,j5.2.1,j5.2.2.1,j5.2.2.2.1,bif bif bif bif j5.2.2.2.2.1 then(x.text.length:Int)==1 else false then !y7 else false then true else x.text==[45]then !y8 else false))
      else
       zO (X:=Bool×Bool×Bool×Bool×Bool) (
         bif x.kind==10 then
          some (LX.out (j5.2.1,j5.2.2.1,j5.2.2.2.1,j5.2.2.2.2.1,x.kind==10))
         else
          bif x.kind==11 then
           some (LX.out (j5.2.1,j5.2.2.1,j5.2.2.2.1,j5.2.2.2.2.1,x.kind==11))
          else
           some (LX.out (j5.2.1,j5.2.2.1,j5.2.2.2.1,j5.2.2.2.2.1,x.kind==12))) fun j9=>
       bif j9.2.2.2.2 then
        some (LX.out (j5.1,x.kind==12,true,x.kind != 11,bif bif bif bif j9.2.2.2.1 then decide (x.num>=(-1000000000000))else false then decide (x.num<=1000000000000)else false then bif !x.flag then true else Int.tmod x.num 1000==0 else false then bif !(x.kind==12)then true else !(x.unit==[])else false))
       else
        some (LX.out (j5.1,j9.1,j9.2.1,j9.2.2.1,bif decide (x.kind>=13)then decide (x.kind<=24)else false))) fun j10=>
 some (bif bif bif bif j10.2.2.2.2 then bif j10.1 then true else x.text==[]else false then bif j10.2.1 then true else x.unit==[]else false then bif j10.2.2.1 then true else x.num==0 else false then bif j10.2.2.2.1 then true else !x.flag else false)
def Qc(x:(Int×Int)×List zk):Option Bool:=
 za (zA (decide (x.1.1<(x.2.length:Int))) (geti x.2 x.1.1) (default:zk)) fun y1=>
 some (bif decide (x.1.1<(x.2.length:Int))then y1.kind==x.1.2 else false)
def SG(fu:Nat)(x:List zk):Option Int:=
 za (geti x 0) fun y1=>
 bif bif y1.kind==9 then y1.text==[92]else false then
  za (Qc ((1,13),x)) fun y2=>
  bif !y2 then
   some 0
  else
   some 2
 else
  za (zA (y1.kind==2) (Q3 fu (y1.text,[117,114,108])) (default:Bool)) fun y3=>
  bif bif y1.kind==2 then y3 else false then
   zO (X:=Int) (
     za (Qc ((1,13),x)) fun y4=>
     bif y4 then
      some (LX.out 2)
     else
      some (LX.out 1)) fun j5=>
   za (Qc ((j5,5),x)) fun y6=>
   bif !y6 then
    some 0
   else
    some (w64 (j5+1))
  else
   some 1
def UG(fu:Nat)(x:List zk):Option Int:=
 bif decide ((x.length:Int)>1500)then
  some 4
 else
  ZG fu (fun(s1:Int)=>
    bif decide (s1<(x.length:Int))then
     za (geti x s1) fun y2=>
     za (Np y2) fun y3=>
     need (decide (0<=s1)&&decide (s1<=(x.length:Int))|| !(!(!y3)))<|
     za (zA (!(!y3)) (SG fu (List.drop s1.toNat x)) (default:Int)) fun y4=>
     bif bif !y3 then true else y4==0 then
      some (LO.ret 8)
     else
      some (LO.again (w64 (s1+1)))
    else
     some (LO.out ()):Int->Option (LO (Int) (Unit) _)) 0 fun o5=>
  some 0
def yP(fu:Nat)(Zj:List ze->Option Bool)(x:ze):Option Bool:=
 za (QE ((⟨x.token,x.list⟩:ze),20)) fun y1=>
 za (zA (!y1) (QE ((⟨x.token,x.list⟩:ze),22)) (default:Bool)) fun y2=>
 za (zA (!(bif y1 then true else y2)) (QE ((⟨x.token,x.list⟩:ze),24)) (default:Bool)) fun y3=>
 za (zA (!(bif bif y1 then true else y2 then true else y3)) (Zj x.list) (default:Bool)) fun y4=>
 some (bif bif bif y1 then true else y2 then true else y3 then true else y4)
def NR(fu:Nat)(Zj:List ze->Option Bool)(x:List ze):Option Int:=
 ZG fu (fun(s1:Int)=>
   bif decide (s1<(x.length:Int))then
    za (geti x s1) fun y2=>
    za (yP fu Zj (⟨y2.token,y2.list⟩:ze)) fun y3=>
    bif y3 then
     some (LO.ret s1)
    else
     some (LO.again (w64 (s1+1)))
   else
    some (LO.out ()):Int->Option (LO (Int) (Unit) _)) 0 fun o4=>
 some (-1)
def YR(fu:Nat)(Zj:List ze->Option Bool)(x:List ze):Option Bool:=
 za (NR fu Zj x) fun y1=>
 some (decide (y1>=0))
def sH(fu:Nat)(Zj:List ze->Option Bool)(x:List ze):Option Bool:=
 za (YR fu Zj x) fun y1=>
 some y1
def Zj(fu:Nat):List ze->Option Bool:=Ue (sH fu) fu
def gu(x:ze):Option Bool:=
 za (QE ((⟨x.token,x.list⟩:ze),17)) fun y1=>
 za (zA (!y1) (Py (⟨x.token,x.list⟩:ze)) (default:Bool)) fun y2=>
 some (bif y1 then true else y2)
def MR(fu:Nat)(x:List ze):Option Int:=
 ZG fu (fun(s1:Int)=>
   bif decide (s1<(x.length:Int))then
    za (geti x s1) fun y2=>
    za (gu (⟨y2.token,y2.list⟩:ze)) fun y3=>
    bif y3 then
     some (LO.ret s1)
    else
     some (LO.again (w64 (s1+1)))
   else
    some (LO.out ()):Int->Option (LO (Int) (Unit) _)) 0 fun o4=>
 some (-1)
def bR(fu:Nat)(x:List ze):Option Bool:=
 za (MR fu x) fun y1=>
 some (decide (y1>=0))
def Ru(fu:Nat)(x:Za):Option Int:=
 za (iF fu x.value) fun y1=>
 za (gM fu x.name) fun y2=>
 za (zA (!(bif !y2 then true else y1.2 != 0)) (UG fu y1.1) (default:Int)) fun y3=>
 za (zA (!(bif bif !y2 then true else y1.2 != 0 then true else y3 != 0)) (Zj fu x.value) (default:Bool)) fun y4=>
 bif bif bif bif !y2 then true else y1.2 != 0 then true else y3 != 0 then true else y4 then
  some 8
 else
  za (bR fu x.value) fun y5=>
  bif y5 then
   some 8
  else
   za (zA ((x.value.length:Int)==0) (strings_HasPrefix (x.name,[45,45])) (default:Bool)) fun y6=>
   za (zA (decide ((x.value.length:Int)>0)&& !(bif (x.value.length:Int)==0 then !y6 else false)) (geti x.value 0) (default:ze)) fun y7=>
   za (zA (decide ((x.value.length:Int)>0)&& !(bif (x.value.length:Int)==0 then !y6 else false)) (QE ((⟨y7.token,y7.list⟩:ze),13)) (default:Bool)) fun y8=>
   za (zA (!y8&&(decide ((x.value.length:Int)>0)&& !(bif (x.value.length:Int)==0 then !y6 else false))) (geti x.value (w64 ((x.value.length:Int) - 1))) (default:ze)) fun y9=>
   za (zA (!y8&&(decide ((x.value.length:Int)>0)&& !(bif (x.value.length:Int)==0 then !y6 else false))) (QE ((⟨y9.token,y9.list⟩:ze),13)) (default:Bool)) fun y10=>
   bif bif bif (x.value.length:Int)==0 then !y6 else false then true else bif decide ((x.value.length:Int)>0)then bif y8 then true else y10 else false then
    some 8
   else
    some 0
def wE(fu:Nat)(x:List ze):Option (Za×Bool):=
 za (jy fu x) fun y1=>
 za (Dz fu y1) fun y2=>
 za (zA (!((y2.length:Int)==0)) (geti y2 0) (default:ze)) fun y3=>
 za (zA (!((y2.length:Int)==0)) (QE ((⟨y3.token,y3.list⟩:ze),1)) (default:Bool)) fun y4=>
 bif bif (y2.length:Int)==0 then true else !y4 then
  some ((⟨[],[],false⟩:Za),false)
 else
  za (geti y2 0) fun y5=>
  zO (X:=List ze×(Str×Bool)×(Str×Bool)) (
    za (strings_HasPrefix (y5.token.text,[45,45])) fun y6=>
    bif !y6 then
     za (qd fu y5.token.text) fun y7=>
     some (LX.out (y2,([],false),(y7,false)))
    else
     some (LX.out (y2,([],false),(y5.token.text,false)))) fun j8=>
  need (decide (1<=(j8.1.length:Int)))<|
  za (jy fu (List.drop 1 j8.1)) fun y9=>
  za (zA (!((y9.length:Int)==0)) (geti y9 0) (default:ze)) fun y10=>
  za (zA (!((y9.length:Int)==0)) (QE ((⟨y10.token,y10.list⟩:ze),16)) (default:Bool)) fun y11=>
  bif bif (y9.length:Int)==0 then true else !y11 then
   some ((⟨[],[],false⟩:Za),false)
  else
   need (decide (1<=(y9.length:Int)))<|
   za (jy fu (List.drop 1 y9)) fun y12=>
   zO (X:=List ze×(Str×Bool)×(Str×Bool)) (
     za (zA (decide (w64 ((y12.length:Int) - 1)>0)) (geti y12 (w64 ((y12.length:Int) - 1))) (default:ze)) fun y13=>
     za (zA (decide (w64 ((y12.length:Int) - 1)>0)) (QE ((⟨y13.token,y13.list⟩:ze),1)) (default:Bool)) fun y14=>
     za (zA (bif decide (w64 ((y12.length:Int) - 1)>0)then y14 else false) (geti y12 (w64 ((y12.length:Int) - 1))) (default:ze)) fun y15=>
     za (zA (bif decide (w64 ((y12.length:Int) - 1)>0)then y14 else false) (Q3 fu (y15.token.text,[105,109,112,111,114,116,97,110,116])) (default:Bool)) fun y16=>
     bif bif bif decide (w64 ((y12.length:Int) - 1)>0)then y14 else false then y16 else false then
      need (decide (0<=w64 ((y12.length:Int) - 1))&&decide (w64 ((y12.length:Int) - 1)<=(y12.length:Int)))<|
      za (Dz fu (List.take (w64 ((y12.length:Int) - 1)).toNat y12)) fun y17=>
      za (zA (decide ((y17.length:Int)>0)) (geti y17 (w64 ((y17.length:Int) - 1))) (default:ze)) fun y18=>
      za (zA (decide ((y17.length:Int)>0)) (Py (⟨y18.token,y18.list⟩:ze)) (default:Bool)) fun y19=>
      bif bif decide ((y17.length:Int)>0)then y19 else false then
       need (decide (0<=w64 ((y17.length:Int) - 1))&&decide (w64 ((y17.length:Int) - 1)<=(y17.length:Int)))<|
       za (Dz fu (List.take (w64 ((y17.length:Int) - 1)).toNat y17)) fun y20=>
       some (LX.out (y20,(j8.2.1.1,j8.2.1.2),(j8.2.2.1,true)))
      else
       some (LX.out (y12,(j8.2.1.1,j8.2.1.2),(j8.2.2.1,j8.2.2.2)))
     else
      some (LX.out (y12,(j8.2.1.1,j8.2.1.2),(j8.2.2.1,j8.2.2.2)))) fun j21=>
   za (Yy fu j21.1) fun y22=>
   za (zA (!(y22.2 != 0)) (Ru fu (⟨j21.2.2.1,y22.1,j21.2.2.2⟩:Za)) (default:Int)) fun y23=>
   bif bif y22.2 != 0 then true else y23 != 0 then
    some ((⟨[],[],false⟩:Za),false)
   else
    some ((⟨j21.2.2.1,y22.1,j21.2.2.2⟩:Za),true)
def BV(fu:Nat)(x:List ze):Option (List Za×Int):=
 za (xy fu (x,17)) fun y1=>
 bif y1.2 != 0 then
  some ([],y1.2)
 else
  ZG fu (fun(s2:Int×List Za)=>
    bif decide (s2.1<(y1.1.length:Int))then
     zO (X:=Int×List Za) (
       za (geti y1.1 s2.1) fun y3=>
       za (wE fu y3) fun y4=>
       bif bif y4.2 then decide ((s2.2.length:Int)<32)else false then
        need (Zb s2.2.length 1 48)<|
        some (LX.out (s2.1,s2.2++[y4.1]))
       else
        some (LX.out (s2.1,s2.2))) fun j5=>
     some (LO.again (w64 (j5.1+1),j5.2))
    else
     some (LO.out s2.2):Int×List Za->Option (LO (Int×List Za) (List Za) _)) (0,[]) fun o6=>
  some (o6,0)
def sM(fu:Nat)(x:List ze×List ze):Option (zC×Bool):=
 za (YM fu x.1) fun y1=>
 bif y1.2 != 0 then
  some ((⟨0,[],[],(⟨0,[],0,(⟨[],[],false⟩:Za),[]⟩:zm),[],[]⟩:zC),false)
 else
  za (BV fu x.2) fun y2=>
  some ((⟨1,y1.1,y2.1,(⟨0,[],0,(⟨[],[],false⟩:Za),[]⟩:zm),[],[]⟩:zC),y2.2==0)
def iq(x:Str):Option Bool:=
 za (zA (!(bif x==[]then true else decide ((x.length:Int)>64))) (strings_IndexByte (x,0)) (default:Int)) fun y1=>
 some (bif bif x==[]then true else decide ((x.length:Int)>64)then true else decide (y1>=0))
def xQ(fu:Nat)(x:List Str):Option Int:=
 ZG fu (fun(s1:Int)=>
   bif decide (s1<(x.length:Int))then
    need (decide (0<=s1)&&decide (s1<(x.length:Int)))<|
    za x[s1.toNat]? fun y2=>
    za (iq y2) fun y3=>
    bif y3 then
     some (LO.ret s1)
    else
     some (LO.again (w64 (s1+1)))
   else
    some (LO.out ()):Int->Option (LO (Int) (Unit) _)) 0 fun o4=>
 some (-1)
def jR(fu:Nat)(x:List Str):Option Bool:=
 za (xQ fu x) fun y1=>
 some (decide (y1>=0))
def uM(fu:Nat)(x:List Str):Option Bool:=
 za (zA (bif decide ((x.length:Int)>0)then decide ((x.length:Int)<=16)else false) (jR fu x) (default:Bool)) fun y1=>
 some (bif bif decide ((x.length:Int)>0)then decide ((x.length:Int)<=16)else false then !y1 else false)
def XM(fu:Nat)(x:List ze):Option (List Str×Bool):=
 za (Yy fu x) fun y1=>
 bif bif y1.2 != 0 then true else Int.tmod (y1.1.length:Int) 2==0 then
  some ([],false)
 else
  ZG fu (fun(s2:Int×List Str)=>
    bif decide (s2.1<(y1.1.length:Int))then
     zO (X:=Int×List Str) (
       za (geti y1.1 s2.1) fun y3=>
       bif Int.tmod s2.1 2==1 then
        bif bif y3.token.kind != 9 then true else !(y3.token.text==[46])then
         some (LX.ret (LO.ret ([],false)))
        else
         some (LX.out (s2.1,s2.2))
       else
        bif y3.token.kind != 1 then
         some (LX.ret (LO.ret ([],false)))
        else
         need (Zb s2.2.length 1 16)<|
         some (LX.out (s2.1,s2.2++[y3.token.text]))) fun j4=>
     some (LO.again (w64 (j4.1+1),j4.2))
    else
     some (LO.out s2.2):Int×List Str->Option (LO (Int×List Str) (List Str) _)) (0,[]) fun o5=>
  za (uM fu o5) fun y6=>
  some (o5,y6)
def jG(fu:Nat)(x:List ze×Bool):Option (zC×Bool):=
 za (xy fu (x.1,18)) fun y1=>
 bif bif y1.2 != 0 then true else decide ((y1.1.length:Int)>64)then
  some ((⟨0,[],[],(⟨0,[],0,(⟨[],[],false⟩:Za),[]⟩:zm),[],[]⟩:zC),false)
 else
  zO (X:=(Int×Int×Str×Int×Str×Bool)×(Int×Int×Str×Int×Str×Bool)) (
    bif x.2 then
     za (Yy fu x.1) fun y2=>
     bif (y2.1.length:Int)==0 then
      some (LX.ret ((⟨4,[],[],(⟨0,[],0,(⟨[],[],false⟩:Za),[]⟩:zm),[],[]⟩:zC),true))
     else
      some (LX.out ((0,0,[],0,[],false),(4,0,[],0,[],false)))
    else
     some (LX.out ((0,0,[],0,[],false),(5,0,[],0,[],false)))) fun j3=>
  ZG fu (fun(s4:Int×(Int×Int×Str×Int×Str×Bool)×(Int×Int×Str×Int×Str×Bool)×List (List Str))=>
    bif decide (s4.1<(y1.1.length:Int))then
     za (geti y1.1 s4.1) fun y5=>
     za (XM fu y5) fun y6=>
     bif !y6.2 then
      some (LO.ret ((⟨0,[],[],(⟨0,[],0,(⟨[],[],false⟩:Za),[]⟩:zm),[],[]⟩:zC),false))
     else
      need (Zb s4.2.2.2.length 1 24)<|
      some (LO.again (w64 (s4.1+1),(s4.2.1.1,s4.2.1.2.1,s4.2.1.2.2.1,s4.2.1.2.2.2.1,s4.2.1.2.2.2.2.1,s4.2.1.2.2.2.2.2),(s4.2.2.1.1,s4.2.2.1.2.1,s4.2.2.1.2.2.1,s4.2.2.1.2.2.2.1,s4.2.2.1.2.2.2.2.1,s4.2.2.1.2.2.2.2.2),s4.2.2.2++[y6.1]))
    else
     some (LO.out ((s4.2.1.1,s4.2.1.2.1,s4.2.1.2.2.1,s4.2.1.2.2.2.1,s4.2.1.2.2.2.2.1,s4.2.1.2.2.2.2.2),(s4.2.2.1.1,s4.2.2.1.2.1,s4.2.2.1.2.2.1,s4.2.2.1.2.2.2.1,s4.2.2.1.2.2.2.2.1,s4.2.2.1.2.2.2.2.2),s4.2.2.2)):Int×(Int×Int×Str×Int×Str×Bool)×(Int×Int×Str×Int×Str×Bool)×List (List Str)->Option (LO (Int×(Int×Int×Str×Int×Str×Bool)×(Int×Int×Str×Int×Str×Bool)×List (List Str)) ((Int×Int×Str×Int×Str×Bool)×(Int×Int×Str×Int×Str×Bool)×List (List Str)) _)) (0,(j3.1.1,j3.1.2.1,j3.1.2.2.1,j3.1.2.2.2.1,j3.1.2.2.2.2.1,j3.1.2.2.2.2.2),(j3.2.1,j3.2.2.1,j3.2.2.2.1,j3.2.2.2.2.1,j3.2.2.2.2.2.1,j3.2.2.2.2.2.2),[]) fun o7=>
  some ((⟨o7.2.1.1,[],[],(⟨o7.2.1.2.1,o7.2.1.2.2.1,o7.2.1.2.2.2.1,(⟨o7.2.1.2.2.2.2.1,[],o7.2.1.2.2.2.2.2⟩:Za),[]⟩:zm),o7.2.2,[]⟩:zC),bif !x.2 then true else(o7.2.2.length:Int)==1)
def ql(x:zB):Option Int:=
 bif (x.v.length:Int)==0 then
  some 0
 else
  za (geti x.v 0) fun y1=>
  some y1.token.kind
def qm(x:zB):Option (ze×zB):=
 za (geti x.v 0) fun y1=>
 need (decide (1<=(x.v.length:Int)))<|
 some ((⟨y1.token,y1.list⟩:ze),(⟨List.drop 1 x.v⟩:zB))
def Ze(fu:Nat)(x:zB):Option (Bool×zB):=
 ZG fu (fun(s1:zB)=>
   za (ql s1) fun y2=>
   bif y2==13 then
    za (qm s1) fun y3=>
    some (LO.again y3.2)
   else
    some (LO.out s1):zB->Option (LO (zB) (zB) _)) x fun o4=>
 some (decide ((o4.v.length:Int)<(x.v.length:Int)),o4)
def QA(fu:Nat)(x:List Str×zB):Option (Str×zB):=
 ZG fu (fun(s1:Int×zB)=>
   bif decide (s1.1<(x.1.length:Int))then
    za (geti x.1 s1.1) fun y2=>
    za (ql s1.2) fun y3=>
    za (zA (y3==1) (geti s1.2.v 0) (default:ze)) fun y4=>
    za (zA (y3==1) (Q3 fu (y4.token.text,y2)) (default:Bool)) fun y5=>
    bif bif y3==1 then y5 else false then
     za (qm s1.2) fun y6=>
     some (LO.ret (y2,y6.2))
    else
     some (LO.again (w64 (s1.1+1),s1.2))
   else
    some (LO.out s1.2):Int×zB->Option (LO (Int×zB) (zB) _)) (0,x.2) fun o7=>
 some ([],o7)
def DR(fu:Nat)(x:List Str×Str):Option Bool:=
 za (FD fu (x.1,x.2)) fun y1=>
 some (decide (y1>=0))
def oG(fu:Nat)(x:Str):Option Bool:=
 za (DR fu ([[],[97,110,100],[111,114],[110,111,116],[111,110,108,121]],x)) fun y1=>
 za (zA (bif !y1 then decide ((x.length:Int)<=64)else false) (qd fu x) (default:Str)) fun y2=>
 za (zA (bif bif !y1 then decide ((x.length:Int)<=64)else false then y2==x else false) (strings_IndexByte (x,0)) (default:Int)) fun y3=>
 some (bif bif bif !y1 then decide ((x.length:Int)<=64)else false then y2==x else false then decide (y3<0)else false)
def uG(fu:Nat)(x:List Int):Option Int:=
 ZG fu (fun(s1:Int)=>
   bif decide (s1<(x.length:Int))then
    za (geti x s1) fun y2=>
    bif bif decide (y2<(-1000000000000))then true else decide (y2>1000000000000)then
     some (LO.ret 8)
    else
     some (LO.again (w64 (s1+1)))
   else
    some (LO.out ()):Int->Option (LO (Int) (Unit) _)) 0 fun o3=>
 some 0
def vG(fu:Nat)(x:Int):Option Int:=
 za (uG fu [x]) fun y1=>
 some y1
def aI(fu:Nat)(x:zB):Option ((zm×Bool)×zB):=
 za (ql x) fun y1=>
 bif y1 != 21 then
  some (((⟨0,[],0,(⟨[],[],false⟩:Za),[]⟩:zm),false),x)
 else
  za (qm x) fun y2=>
  za (Ze fu (⟨y2.1.list⟩:zB)) fun y3=>
  zO (X:=(Int×Str×Int×Str×Bool)×zB×(Int×Str×Int×Str×Bool)) (
    za (QA fu ([[109,105,110,45,119,105,100,116,104],[109,97,120,45,119,105,100,116,104]],y3.2)) fun y4=>
    bif y4.1==[]then
     some (LX.ret (((⟨5,[],0,(⟨[],[],false⟩:Za),[]⟩:zm),false),y2.2))
    else
     bif y4.1==[109,97,120,45,119,105,100,116,104]then
      some (LX.out ((0,[],0,[],false),y4.2,(6,[],0,[],false)))
     else
      some (LX.out ((0,[],0,[],false),y4.2,(5,[],0,[],false)))) fun j5=>
  za (Ze fu j5.2.1) fun y6=>
  za (ql y6.2) fun y7=>
  bif y7 != 16 then
   some (((⟨j5.2.2.1,j5.2.2.2.1,j5.2.2.2.2.1,(⟨j5.2.2.2.2.2.1,[],j5.2.2.2.2.2.2⟩:Za),[]⟩:zm),false),y2.2)
  else
   za (qm y6.2) fun y8=>
   za (Ze fu y8.2) fun y9=>
   za (ql y9.2) fun y10=>
   za (zA (y10 != 12) (ql y9.2) (default:Int)) fun y11=>
   bif bif y10 != 12 then y11 != 10 else false then
    some (((⟨j5.2.2.1,j5.2.2.2.1,j5.2.2.2.2.1,(⟨j5.2.2.2.2.2.1,[],j5.2.2.2.2.2.2⟩:Za),[]⟩:zm),false),y2.2)
   else
    za (qm y9.2) fun y12=>
    za (Ze fu y12.2) fun y13=>
    za (zA (y12.1.token.kind==12) (Q3 fu (y12.1.token.unit,[112,120])) (default:Bool)) fun y14=>
    za (zA (bif bif bif y12.1.token.kind==12 then y14 else false then true else bif y12.1.token.kind==10 then y12.1.token.num==0 else false then decide (y12.1.token.num>=0)else false) (vG fu y12.1.token.num) (default:Int)) fun y15=>
    some (((⟨j5.2.2.1,j5.2.2.2.1,y12.1.token.num,(⟨j5.2.2.2.2.2.1,[],j5.2.2.2.2.2.2⟩:Za),[]⟩:zm),bif bif bif bif bif y12.1.token.kind==12 then y14 else false then true else bif y12.1.token.kind==10 then y12.1.token.num==0 else false then decide (y12.1.token.num>=0)else false then y15==0 else false then(y13.2.v.length:Int)==0 else false),y2.2)
def bQ(fu:Nat)(x:zB):Option ((zm×Bool)×zB):=
 za (Ze fu x) fun y1=>
 za (QA fu ([[110,111,116],[111,110,108,121]],y1.2)) fun y2=>
 za (Ze fu y2.2) fun y3=>
 zO (X:=zB×(Int×Str×Int×Str×Bool)×(Int×Str×Int×Str×Bool)×List zm) (
   za (ql y3.2) fun y4=>
   bif y4==1 then
    za (qm y3.2) fun y5=>
    za (qd fu y5.1.token.text) fun y6=>
    za (oG fu y6) fun y7=>
    bif !y7 then
     some (LX.ret (((⟨1,[],0,(⟨[],[],false⟩:Za),[]⟩:zm),false),y5.2))
    else
     need (Zb 0 1 104)<|
     some (LX.out (y5.2,(0,[],0,[],false),(1,[],0,[],false),[(⟨4,y6,0,(⟨[],[],false⟩:Za),[]⟩:zm)]))
   else
    za (aI fu y3.2) fun y8=>
    bif bif !y8.1.2 then true else !(y2.1==[])then
     some (LX.ret (((⟨1,[],0,(⟨[],[],false⟩:Za),[]⟩:zm),false),y8.2))
    else
     need (Zb 0 1 104)<|
     some (LX.out (y8.2,(0,[],0,[],false),(1,[],0,[],false),[(⟨y8.1.1.kind,y8.1.1.name,y8.1.1.num,y8.1.1.decl,y8.1.1.list⟩:zm)]))) fun j9=>
 za (Ze fu j9.1) fun y10=>
 ZG fu (fun(s11:zB×(Int×Str×Int×Str×Bool)×(Int×Str×Int×Str×Bool)×List zm)=>
   bif decide ((s11.1.v.length:Int)>0)then
    za (QA fu ([[97,110,100]],s11.1)) fun y12=>
    bif y12.1==[]then
     some (LO.ret (((⟨s11.2.2.1.1,s11.2.2.1.2.1,s11.2.2.1.2.2.1,(⟨s11.2.2.1.2.2.2.1,[],s11.2.2.1.2.2.2.2⟩:Za),s11.2.2.2⟩:zm),false),y12.2))
    else
     za (Ze fu y12.2) fun y13=>
     za (aI fu y13.2) fun y14=>
     bif !y14.1.2 then
      some (LO.ret (((⟨s11.2.2.1.1,s11.2.2.1.2.1,s11.2.2.1.2.2.1,(⟨s11.2.2.1.2.2.2.1,[],s11.2.2.1.2.2.2.2⟩:Za),s11.2.2.2⟩:zm),false),y14.2))
     else
      need (Zb s11.2.2.2.length 1 104)<|
      za (Ze fu y14.2) fun y15=>
      some (LO.again (y15.2,(s11.2.1.1,s11.2.1.2.1,s11.2.1.2.2.1,s11.2.1.2.2.2.1,s11.2.1.2.2.2.2),(s11.2.2.1.1,s11.2.2.1.2.1,s11.2.2.1.2.2.1,s11.2.2.1.2.2.2.1,s11.2.2.1.2.2.2.2),s11.2.2.2++[(⟨y14.1.1.kind,y14.1.1.name,y14.1.1.num,y14.1.1.decl,y14.1.1.list⟩:zm)]))
   else
    some (LO.out (s11.1,(s11.2.1.1,s11.2.1.2.1,s11.2.1.2.2.1,s11.2.1.2.2.2.1,s11.2.1.2.2.2.2),(s11.2.2.1.1,s11.2.2.1.2.1,s11.2.2.1.2.2.1,s11.2.2.1.2.2.2.1,s11.2.2.1.2.2.2.2),s11.2.2.2)):zB×(Int×Str×Int×Str×Bool)×(Int×Str×Int×Str×Bool)×List zm->Option (LO (zB×(Int×Str×Int×Str×Bool)×(Int×Str×Int×Str×Bool)×List zm) (zB×(Int×Str×Int×Str×Bool)×(Int×Str×Int×Str×Bool)×List zm) _)) (y10.2,(j9.2.1.1,j9.2.1.2.1,j9.2.1.2.2.1,j9.2.1.2.2.2.1,j9.2.1.2.2.2.2),(j9.2.2.1.1,j9.2.2.1.2.1,j9.2.2.1.2.2.1,j9.2.2.1.2.2.2.1,j9.2.2.1.2.2.2.2),j9.2.2.2) fun o16=>
 zO (X:=(Int×Str×Int×Str×Bool)×(Int×Str×Int×Str×Bool×List zm)) (
   bif y2.1==[110,111,116]then
    some (LX.out ((o16.2.1.1,o16.2.1.2.1,o16.2.1.2.2.1,o16.2.1.2.2.2.1,o16.2.1.2.2.2.2),(3,[],0,[],false,[(⟨o16.2.2.1.1,o16.2.2.1.2.1,o16.2.2.1.2.2.1,(⟨o16.2.2.1.2.2.2.1,[],o16.2.2.1.2.2.2.2⟩:Za),o16.2.2.2⟩:zm)])))
   else
    some (LX.out ((o16.2.1.1,o16.2.1.2.1,o16.2.1.2.2.1,o16.2.1.2.2.2.1,o16.2.1.2.2.2.2),(o16.2.2.1.1,o16.2.2.1.2.1,o16.2.2.1.2.2.1,o16.2.2.1.2.2.2.1,o16.2.2.1.2.2.2.2,o16.2.2.2)))) fun j17=>
 some (((⟨j17.2.1,j17.2.2.1,j17.2.2.2.1,(⟨j17.2.2.2.2.1,[],j17.2.2.2.2.2.1⟩:Za),j17.2.2.2.2.2.2⟩:zm),true),o16.1)
def aG(fu:Nat)(x:List ze):Option (zm×Int):=
 za (xy fu (x,18)) fun y1=>
 bif y1.2 != 0 then
  some ((⟨0,[],0,(⟨[],[],false⟩:Za),[]⟩:zm),y1.2)
 else
  zO (X:=Int×Str×Int×Str×Bool) (
    bif (y1.1.length:Int)==1 then
     za (Ze fu (⟨x⟩:zB)) fun y2=>
     bif (y2.2.v.length:Int)==0 then
      some (LX.ret ((⟨1,[],0,(⟨[],[],false⟩:Za),[]⟩:zm),0))
     else
      some (LX.out (0,[],0,[],false))
    else
     some (LX.out (0,[],0,[],false))) fun j3=>
  bif decide ((y1.1.length:Int)>64)then
   some ((⟨0,[],0,(⟨[],[],false⟩:Za),[]⟩:zm),4)
  else
   ZG fu (fun(s4:Int×(Int×Str×Int×Str×Bool)×List zm)=>
     bif decide (s4.1<(y1.1.length:Int))then
      za (geti y1.1 s4.1) fun y5=>
      za (bQ fu (⟨y5⟩:zB)) fun y6=>
      zO (X:=(Int×Str×Int×Str×Bool)×List zm×zm) (
        bif !y6.1.2 then
         some (LX.out ((s4.2.1.1,s4.2.1.2.1,s4.2.1.2.2.1,s4.2.1.2.2.2.1,s4.2.1.2.2.2.2),s4.2.2,(⟨3,[],0,(⟨[],[],false⟩:Za),[(⟨1,[],0,(⟨[],[],false⟩:Za),[(⟨4,[97,108,108],0,(⟨[],[],false⟩:Za),[]⟩:zm)]⟩:zm)]⟩:zm)))
        else
         some (LX.out ((s4.2.1.1,s4.2.1.2.1,s4.2.1.2.2.1,s4.2.1.2.2.2.1,s4.2.1.2.2.2.2),s4.2.2,(⟨y6.1.1.kind,y6.1.1.name,y6.1.1.num,y6.1.1.decl,y6.1.1.list⟩:zm)))) fun j7=>
      need (Zb j7.2.1.length 1 104)<|
      some (LO.again (w64 (s4.1+1),(j7.1.1,j7.1.2.1,j7.1.2.2.1,j7.1.2.2.2.1,j7.1.2.2.2.2),j7.2.1++[(⟨j7.2.2.kind,j7.2.2.name,j7.2.2.num,j7.2.2.decl,j7.2.2.list⟩:zm)]))
     else
      some (LO.out ((s4.2.1.1,s4.2.1.2.1,s4.2.1.2.2.1,s4.2.1.2.2.2.1,s4.2.1.2.2.2.2),s4.2.2)):Int×(Int×Str×Int×Str×Bool)×List zm->Option (LO (Int×(Int×Str×Int×Str×Bool)×List zm) ((Int×Str×Int×Str×Bool)×List zm) _)) (0,(2,[],0,[],false),[]) fun o8=>
   some ((⟨o8.1.1,o8.1.2.1,o8.1.2.2.1,(⟨o8.1.2.2.2.1,[],o8.1.2.2.2.2⟩:Za),o8.2⟩:zm),0)
def bW(fu:Nat)(x:List ze):Option (Za×Bool×Int):=
 za (Ak fu x) fun y1=>
 bif y1 != 0 then
  some ((⟨[],[],false⟩:Za),false,y1)
 else
  za (wE fu x) fun y2=>
  some (y2.1,y2.2,0)
def rC(fu:Nat)(Zq:zB->Option ((zm×Bool)×zB))(x:zB):Option ((zm×Bool)×zB):=
 za (ql x) fun y1=>
 bif y1==2 then
  za (qm x) fun y2=>
  some (((⟨8,[],0,(⟨[],[],false⟩:Za),[]⟩:zm),true),y2.2)
 else
  bif y1==21 then
   za (qm x) fun y3=>
   za (bW fu y3.1.list) fun y4=>
   bif bif y4.2.2==0 then y4.2.1 else false then
    some (((⟨7,[],0,y4.1,[]⟩:zm),true),y3.2)
   else
    za (Zq (⟨y3.1.list⟩:zB)) fun y5=>
    bif y5.1.2 then
     some (((⟨y5.1.1.kind,y5.1.1.name,y5.1.1.num,y5.1.1.decl,y5.1.1.list⟩:zm),true),y3.2)
    else
     some (((⟨8,[],0,(⟨[],[],false⟩:Za),[]⟩:zm),true),y3.2)
  else
   some (((⟨8,[],0,(⟨[],[],false⟩:Za),[]⟩:zm),false),x)
def iI(fu:Nat)(Zq:zB->Option ((zm×Bool)×zB))(x:zB):Option ((zm×Bool)×zB):=
 za (Ze fu x) fun y1=>
 za (QA fu ([[110,111,116]],y1.2)) fun y2=>
 bif !(y2.1==[])then
  za (Ze fu y2.2) fun y3=>
  za (rC fu Zq y3.2) fun y4=>
  za (Ze fu y4.2) fun y5=>
  some (((⟨3,[],0,(⟨[],[],false⟩:Za),[(⟨y4.1.1.kind,y4.1.1.name,y4.1.1.num,y4.1.1.decl,y4.1.1.list⟩:zm)]⟩:zm),bif bif y4.1.2 then y3.1 else false then(y5.2.v.length:Int)==0 else false),y5.2)
 else
  za (rC fu Zq y2.2) fun y6=>
  bif !y6.1.2 then
   some (((⟨y6.1.1.kind,y6.1.1.name,y6.1.1.num,y6.1.1.decl,y6.1.1.list⟩:zm),false),y6.2)
  else
   za (Ze fu y6.2) fun y7=>
   bif (y7.2.v.length:Int)==0 then
    some (((⟨y6.1.1.kind,y6.1.1.name,y6.1.1.num,y6.1.1.decl,y6.1.1.list⟩:zm),true),y7.2)
   else
    ZG fu (fun(s8:Bool×zB×(Int×Str×Int×Str×Bool)×(Int×Str×Int×Str×Bool)×List zm)=>
      bif decide ((s8.2.1.v.length:Int)>0)then
       za (QA fu ([[97,110,100],[111,114]],s8.2.1)) fun y9=>
       bif bif bif (bif y9.1==[97,110,100]then 1 else bif y9.1==[111,114]then 2 else(0:Int))==0 then true else !s8.1 then true else bif s8.2.2.2.1.1 != 0 then s8.2.2.2.1.1 != (bif y9.1==[97,110,100]then 1 else bif y9.1==[111,114]then 2 else(0:Int))else false then
        some (LO.ret (((⟨s8.2.2.2.1.1,s8.2.2.2.1.2.1,s8.2.2.2.1.2.2.1,(⟨s8.2.2.2.1.2.2.2.1,[],s8.2.2.2.1.2.2.2.2⟩:Za),s8.2.2.2.2⟩:zm),false),y9.2))
       else
        za (Ze fu y9.2) fun y10=>
        za (rC fu Zq y10.2) fun y11=>
        bif bif !y10.1 then true else !y11.1.2 then
         some (LO.ret (((⟨bif y9.1==[97,110,100]then 1 else bif y9.1==[111,114]then 2 else(0:Int),s8.2.2.2.1.2.1,s8.2.2.2.1.2.2.1,(⟨s8.2.2.2.1.2.2.2.1,[],s8.2.2.2.1.2.2.2.2⟩:Za),s8.2.2.2.2⟩:zm),false),y11.2))
        else
         need (Zb s8.2.2.2.2.length 1 104)<|
         za (Ze fu y11.2) fun y12=>
         some (LO.again (y12.1,y12.2,(s8.2.2.1.1,s8.2.2.1.2.1,s8.2.2.1.2.2.1,s8.2.2.1.2.2.2.1,s8.2.2.1.2.2.2.2),(bif y9.1==[97,110,100]then 1 else bif y9.1==[111,114]then 2 else(0:Int),s8.2.2.2.1.2.1,s8.2.2.2.1.2.2.1,s8.2.2.2.1.2.2.2.1,s8.2.2.2.1.2.2.2.2),s8.2.2.2.2++[(⟨y11.1.1.kind,y11.1.1.name,y11.1.1.num,y11.1.1.decl,y11.1.1.list⟩:zm)]))
      else
       some (LO.out (s8.2.1,(s8.2.2.1.1,s8.2.2.1.2.1,s8.2.2.1.2.2.1,s8.2.2.1.2.2.2.1,s8.2.2.1.2.2.2.2),(s8.2.2.2.1.1,s8.2.2.2.1.2.1,s8.2.2.2.1.2.2.1,s8.2.2.2.1.2.2.2.1,s8.2.2.2.1.2.2.2.2),s8.2.2.2.2)):Bool×zB×(Int×Str×Int×Str×Bool)×(Int×Str×Int×Str×Bool)×List zm->Option (LO (Bool×zB×(Int×Str×Int×Str×Bool)×(Int×Str×Int×Str×Bool)×List zm) (zB×(Int×Str×Int×Str×Bool)×(Int×Str×Int×Str×Bool)×List zm) _)) (y7.1,y7.2,(0,[],0,[],false),(0,[],0,[],false),[(⟨y6.1.1.kind,y6.1.1.name,y6.1.1.num,y6.1.1.decl,y6.1.1.list⟩:zm)]) fun o13=>
    some (((⟨o13.2.2.1.1,o13.2.2.1.2.1,o13.2.2.1.2.2.1,(⟨o13.2.2.1.2.2.2.1,[],o13.2.2.1.2.2.2.2⟩:Za),o13.2.2.2⟩:zm),true),o13.1)
def Zq(fu:Nat):zB->Option ((zm×Bool)×zB):=Ue (iI fu) fu
def Az(fu:Nat)(x:List ze):Option (Int×Int):=
 za (Ak fu x) fun y1=>
 bif y1 != 0 then
  some (0,y1)
 else
  za (Tj fu (x,0)) fun y2=>
  some (y2.depth,0)
def Qo(x:zm):Option Bool:=
 some (bif bif bif bif x.name==[]then x.num==0 else false then x.decl.name==[]else false then(x.decl.value.length:Int)==0 else false then !x.decl.important else false)
def Pp(x:zm):Option Bool:=
 some (bif x.kind==7 then true else x.kind==8)
def pG(fu:Nat)(uk:zm×Int->Option ((Int×Bool)×Int))(x:zm×Int):Option ((Int×Bool)×Int):=
 bif decide (w64 (x.2+1)>1500)then
  some ((0,false),w64 (x.2+1))
 else
  bif x.1.kind==7 then
   za (Az fu x.1.decl.value) fun y1=>
   za (zA (bif bif bif (x.1.list.length:Int)==0 then x.1.name==[]else false then x.1.num==0 else false then y1.2==0 else false) (Ru fu x.1.decl) (default:Int)) fun y2=>
   some ((w64 (y1.1+1),bif bif bif bif (x.1.list.length:Int)==0 then x.1.name==[]else false then x.1.num==0 else false then y1.2==0 else false then y2==0 else false),w64 (x.2+1))
  else
   bif x.1.kind==8 then
    za (zA ((x.1.list.length:Int)==0) (Qo (⟨x.1.kind,x.1.name,x.1.num,x.1.decl,x.1.list⟩:zm)) (default:Bool)) fun y3=>
    some ((1,bif (x.1.list.length:Int)==0 then y3 else false),w64 (x.2+1))
   else
    zO (X:=Bool) (
      bif x.1.kind==3 then
       some (LX.out (x.1.kind==3))
      else
       bif x.1.kind==1 then
        some (LX.out (x.1.kind==1))
       else
        some (LX.out (x.1.kind==2))) fun j4=>
    bif j4 then
     za (Qo (⟨x.1.kind,x.1.name,x.1.num,x.1.decl,x.1.list⟩:zm)) fun y5=>
     bif bif bif !y5 then true else bif x.1.kind==3 then(x.1.list.length:Int) != 1 else false then true else bif x.1.kind != 3 then decide ((x.1.list.length:Int)<2)else false then
      some ((0,false),w64 (x.2+1))
     else
      ZG fu (fun(s6:(Int×Int)×Int)=>
        bif decide (s6.1.2<(x.1.list.length:Int))then
         za (geti x.1.list s6.1.2) fun y7=>
         za (uk ((⟨y7.kind,y7.name,y7.num,y7.decl,y7.list⟩:zm),s6.2)) fun y8=>
         bif !y8.1.2 then
          some (LO.ret ((0,false),y8.2))
         else
          zO (X:=Int×Int) (
            za (Pp (⟨y7.kind,y7.name,y7.num,y7.decl,y7.list⟩:zm)) fun y9=>
            bif !y9 then
             some (LX.out (s6.1.1,w64 (y8.1.1+1)))
            else
             some (LX.out (s6.1.1,y8.1.1))) fun j10=>
          some (LO.again ((if j10.2>j10.1 then j10.2 else j10.1,w64 (s6.1.2+1)),y8.2))
        else
         some (LO.out (s6.1.1,s6.2)):(Int×Int)×Int->Option (LO ((Int×Int)×Int) (Int×Int) _)) ((0,0),w64 (x.2+1)) fun o11=>
      some ((o11.1,true),o11.2)
    else
     some ((0,false),w64 (x.2+1))
def uk(fu:Nat):zm×Int->Option ((Int×Bool)×Int):=Ue (pG fu) fu
def LD(fu:Nat)(x:zm):Option Int:=
 za (uk fu ((⟨x.kind,x.name,x.num,x.decl,x.list⟩:zm),0)) fun y1=>
 bif bif !y1.1.2 then true else decide (y1.1.1>16)then
  some 8
 else
  some 0
def SH(fu:Nat)(x:List ze):Option (zm×Int):=
 za (Ak fu x) fun y1=>
 bif y1 != 0 then
  some ((⟨0,[],0,(⟨[],[],false⟩:Za),[]⟩:zm),y1)
 else
  za (Zq fu (⟨x⟩:zB)) fun y2=>
  za (zA (!(!y2.1.2)) (LD fu (⟨y2.1.1.kind,y2.1.1.name,y2.1.1.num,y2.1.1.decl,y2.1.1.list⟩:zm)) (default:Int)) fun y3=>
  bif bif !y2.1.2 then true else y3 != 0 then
   some ((⟨0,[],0,(⟨[],[],false⟩:Za),[]⟩:zm),12)
  else
   some ((⟨y2.1.1.kind,y2.1.1.name,y2.1.1.num,y2.1.1.decl,y2.1.1.list⟩:zm),0)
def nQ(fu:Nat)(x:(Bool×Str×List ze)×zJ):Option ((zC×Bool)×zJ):=
 zO (X:=Bool×zJ×(Int×Int×Str×Int×Str×Bool)×zC) (
   bif bif !x.1.1 then false else false then
    none
   else
    bif bif x.1.1 then x.1.2.1==[108,97,121,101,114]else false then
     za (jG fu (x.1.2.2,false)) fun y1=>
     some (LX.out (y1.2,x.2,(0,0,[],0,[],false),(⟨y1.1.kind,y1.1.selectors,y1.1.decls,(⟨y1.1.cond.kind,y1.1.cond.name,y1.1.cond.num,y1.1.cond.decl,y1.1.cond.list⟩:zm),y1.1.names,y1.1.rules⟩:zC)))
    else
     bif bif bif x.1.1 then x.1.2.1==[109,101,100,105,97]else false then false else false then
      za (aG fu x.1.2.2) fun y2=>
      some (LX.out (y2.2==0,x.2,(0,0,[],0,[],false),(⟨2,[],[],(⟨y2.1.kind,y2.1.name,y2.1.num,y2.1.decl,y2.1.list⟩:zm),[],[]⟩:zC)))
     else
      bif bif bif x.1.1 then x.1.2.1==[115,117,112,112,111,114,116,115]else false then false else false then
       za (SH fu x.1.2.2) fun y3=>
       some (LX.out (y3.2==0,x.2,(0,0,[],0,[],false),(⟨3,[],[],(⟨y3.1.kind,y3.1.name,y3.1.num,y3.1.decl,y3.1.list⟩:zm),[],[]⟩:zC)))
      else
       some (LX.out (false,x.2,(0,0,[],0,[],false),(⟨0,[],[],(⟨0,[],0,(⟨[],[],false⟩:Za),[]⟩:zm),[],[]⟩:zC)))) fun j4=>
 bif !j4.1 then
  some (((⟨0,[],[],(⟨0,[],0,(⟨[],[],false⟩:Za),[]⟩:zm),[],[]⟩:zC),false),j4.2.1)
 else
  bif bif bif j4.2.2.2.kind==2 then true else j4.2.2.2.kind==3 then true else j4.2.2.2.kind==4 then
   none
  else
   some (((⟨j4.2.2.2.kind,j4.2.2.2.selectors,j4.2.2.2.decls,(⟨j4.2.2.2.cond.kind,j4.2.2.2.cond.name,j4.2.2.2.cond.num,j4.2.2.2.cond.decl,j4.2.2.2.cond.list⟩:zm),j4.2.2.2.names,j4.2.2.2.rules⟩:zC),true),(⟨w64 (j4.2.1.room - 1),j4.2.1.constructs⟩:zJ))
def SQ(fu:Nat)(Zm:(List ze×Bool)×zJ->Option (List zC×zJ))(x:(Bool×Str×List ze×ze)×zJ):Option ((zC×Bool)×zJ):=
 zO (X:=Bool×zJ×(Int×Int×Str×Int×Str×Bool)×zC) (
   bif bif !x.1.1 then true else false then
    za (sM fu (x.1.2.2.1,x.1.2.2.2.list)) fun y1=>
    some (LX.out (y1.2,x.2,(0,0,[],0,[],false),(⟨y1.1.kind,y1.1.selectors,y1.1.decls,(⟨y1.1.cond.kind,y1.1.cond.name,y1.1.cond.num,y1.1.cond.decl,y1.1.cond.list⟩:zm),y1.1.names,y1.1.rules⟩:zC)))
   else
    bif bif x.1.1 then x.1.2.1==[108,97,121,101,114]else false then
     za (jG fu (x.1.2.2.1,true)) fun y2=>
     some (LX.out (y2.2,x.2,(0,0,[],0,[],false),(⟨y2.1.kind,y2.1.selectors,y2.1.decls,(⟨y2.1.cond.kind,y2.1.cond.name,y2.1.cond.num,y2.1.cond.decl,y2.1.cond.list⟩:zm),y2.1.names,y2.1.rules⟩:zC)))
    else
     bif bif bif x.1.1 then x.1.2.1==[109,101,100,105,97]else false then true else false then
      za (aG fu x.1.2.2.1) fun y3=>
      some (LX.out (y3.2==0,x.2,(0,0,[],0,[],false),(⟨2,[],[],(⟨y3.1.kind,y3.1.name,y3.1.num,y3.1.decl,y3.1.list⟩:zm),[],[]⟩:zC)))
     else
      bif bif bif x.1.1 then x.1.2.1==[115,117,112,112,111,114,116,115]else false then true else false then
       za (SH fu x.1.2.2.1) fun y4=>
       some (LX.out (y4.2==0,x.2,(0,0,[],0,[],false),(⟨3,[],[],(⟨y4.1.kind,y4.1.name,y4.1.num,y4.1.decl,y4.1.list⟩:zm),[],[]⟩:zC)))
      else
       some (LX.out (false,x.2,(0,0,[],0,[],false),(⟨0,[],[],(⟨0,[],0,(⟨[],[],false⟩:Za),[]⟩:zm),[],[]⟩:zC)))) fun j5=>
 bif !j5.1 then
  some (((⟨0,[],[],(⟨0,[],0,(⟨[],[],false⟩:Za),[]⟩:zm),[],[]⟩:zC),false),j5.2.1)
 else
  zO (X:=zJ×(Int×Int×Str×Int×Str×Bool)×zC) (
    bif bif bif j5.2.2.2.kind==2 then true else j5.2.2.2.kind==3 then true else j5.2.2.2.kind==4 then
     za (Zm ((x.1.2.2.2.list,false),(⟨w64 (j5.2.1.room - 1),j5.2.1.constructs⟩:zJ))) fun y6=>
     some (LX.out (y6.2,(j5.2.2.1.1,j5.2.2.1.2.1,j5.2.2.1.2.2.1,j5.2.2.1.2.2.2.1,j5.2.2.1.2.2.2.2.1,j5.2.2.1.2.2.2.2.2),(⟨j5.2.2.2.kind,j5.2.2.2.selectors,j5.2.2.2.decls,(⟨j5.2.2.2.cond.kind,j5.2.2.2.cond.name,j5.2.2.2.cond.num,j5.2.2.2.cond.decl,j5.2.2.2.cond.list⟩:zm),j5.2.2.2.names,y6.1⟩:zC)))
    else
     some (LX.out ((⟨w64 (j5.2.1.room - 1),j5.2.1.constructs⟩:zJ),(j5.2.2.1.1,j5.2.2.1.2.1,j5.2.2.1.2.2.1,j5.2.2.1.2.2.2.1,j5.2.2.1.2.2.2.2.1,j5.2.2.1.2.2.2.2.2),(⟨j5.2.2.2.kind,j5.2.2.2.selectors,j5.2.2.2.decls,(⟨j5.2.2.2.cond.kind,j5.2.2.2.cond.name,j5.2.2.2.cond.num,j5.2.2.2.cond.decl,j5.2.2.2.cond.list⟩:zm),j5.2.2.2.names,j5.2.2.2.rules⟩:zC)))) fun j7=>
  some (((⟨j7.2.2.kind,j7.2.2.selectors,j7.2.2.decls,(⟨j7.2.2.cond.kind,j7.2.2.cond.name,j7.2.2.cond.num,j7.2.2.cond.decl,j7.2.2.cond.list⟩:zm),j7.2.2.names,j7.2.2.rules⟩:zC),true),j7.1)
def vI(fu:Nat)(Zm:(List ze×Bool)×zJ->Option (List zC×zJ))(x:(List ze×Bool)×zJ):Option (List zC×zJ):=
 ZG fu (fun(s1:List ze×zJ×List zC)=>
   bif decide ((s1.1.length:Int)>0)then
    za (wF s1.1) fun y2=>
    bif bif y2==13 then true else bif x.1.2 then bif y2==14 then true else y2==15 else false then
     need (decide (1<=(s1.1.length:Int)))<|
     some (LO.again (List.drop 1 s1.1,s1.2.1,s1.2.2))
    else
     zO (X:=List ze×zJ×List zC) (
       bif x.1.2 then
        some (LX.out (s1.1,(⟨s1.2.1.room,w64 (s1.2.1.constructs+1)⟩:zJ),s1.2.2))
       else
        some (LX.out (s1.1,s1.2.1,s1.2.2))) fun j3=>
     zO (X:=(List ze×Str)×zJ×List zC×List UInt8) (
       bif y2==3 then
        za (geti j3.1 0) fun y4=>
        za (qd fu y4.token.text) fun y5=>
        need (Zb 1 1 1)<|
        need (decide (1<=(j3.1.length:Int)))<|
        some (LX.out ((List.drop 1 j3.1,y5),j3.2.1,j3.2.2,[(23:UInt8),(17:UInt8)]))
       else
        some (LX.out ((j3.1,[]),j3.2.1,j3.2.2,[(23:UInt8)]))) fun j6=>
     za (rM fu (j6.1.1,j6.2.2.2)) fun y7=>
     za (wF y7.2) fun y8=>
     bif y8==23 then
      za (geti y7.2 0) fun y9=>
      zO (X:=List ze×zJ×List zC) (
        bif decide ((y7.2.length:Int)>0)then
         need (decide (1<=(y7.2.length:Int)))<|
         some (LX.out (List.drop 1 y7.2,j6.2.1,j6.2.2.1))
        else
         some (LX.out (y7.2,j6.2.1,j6.2.2.1))) fun j10=>
      bif j10.2.1.room==0 then
       some (LO.again (j10.1,j10.2.1,j10.2.2))
      else
       za (SQ fu Zm ((y2==3,j6.1.2,y7.1,y9),j10.2.1)) fun y11=>
       bif y11.1.2 then
        need (Zb j10.2.2.length 1 208)<|
        some (LO.again (j10.1,y11.2,j10.2.2++[(⟨y11.1.1.kind,y11.1.1.selectors,y11.1.1.decls,(⟨y11.1.1.cond.kind,y11.1.1.cond.name,y11.1.1.cond.num,y11.1.1.cond.decl,y11.1.1.cond.list⟩:zm),y11.1.1.names,y11.1.1.rules⟩:zC)]))
       else
        some (LO.again (j10.1,y11.2,j10.2.2))
     else
      zO (X:=List ze×zJ×List zC) (
        bif decide ((y7.2.length:Int)>0)then
         need (decide (1<=(y7.2.length:Int)))<|
         some (LX.out (List.drop 1 y7.2,j6.2.1,j6.2.2.1))
        else
         some (LX.out (y7.2,j6.2.1,j6.2.2.1))) fun j12=>
      bif j12.2.1.room==0 then
       some (LO.again (j12.1,j12.2.1,j12.2.2))
      else
       za (nQ fu ((y2==3,j6.1.2,y7.1),j12.2.1)) fun y13=>
       bif y13.1.2 then
        need (Zb j12.2.2.length 1 208)<|
        some (LO.again (j12.1,y13.2,j12.2.2++[(⟨y13.1.1.kind,y13.1.1.selectors,y13.1.1.decls,(⟨y13.1.1.cond.kind,y13.1.1.cond.name,y13.1.1.cond.num,y13.1.1.cond.decl,y13.1.1.cond.list⟩:zm),y13.1.1.names,y13.1.1.rules⟩:zC)]))
       else
        some (LO.again (j12.1,y13.2,j12.2.2))
   else
    some (LO.out (s1.2.1,s1.2.2)):List ze×zJ×List zC->Option (LO (List ze×zJ×List zC) (zJ×List zC) _)) (x.1.1,x.2,[]) fun o14=>
 some (o14.2,o14.1)
def Zm(fu:Nat):(List ze×Bool)×zJ->Option (List zC×zJ):=Ue (vI fu) fu
def WM(fu:Nat)(x:Str):Option (List zC×Int):=
 za (nu fu x) fun y1=>
 bif y1.2 != 0 then
  some ([],y1.2)
 else
  za (parseF y1.1) fun y2=>
  bif y2.2 != 0 then
   some ([],y2.2)
  else
   za (Zm fu ((y2.1,true),(⟨64,0⟩:zJ))) fun y3=>
   none
def Gu(fu:Nat)(x:Str):Option (ZN×Int):=
 za (WM fu x) fun y1=>
 bif y1.2 != 0 then
  some ((⟨[]⟩:ZN),y1.2)
 else
  some ((⟨y1.1⟩:ZN),0)
def uN(fu:Nat)(x:Str):Option ((List zC×Int)×zJ):=
 za (nu fu x) fun y1=>
 bif y1.2 != 0 then
  none
 else
  za (parseF y1.1) fun y2=>
  bif y2.2 != 0 then
   none
  else
   za (Zm fu ((y2.1,true),(⟨64,0⟩:zJ))) fun y3=>
   some ((y3.1,0),y3.2)
def yA(fu:Nat)(x:Str):Option (ZN×Int):=
 za (uN fu x) fun y1=>
 bif y1.1.2 != 0 then
  some ((⟨[]⟩:ZN),y1.1.2)
 else
  some ((⟨y1.1.1⟩:ZN),0)
def KH(fu:Nat)(x:Str):Option (ZN×Int):=
 za (nu fu x) fun y1=>
 bif !(y1.2==0)then
  za (Gu fu x) fun z1=>
  some z1
 else
  za (parseF y1.1) fun y2=>
  bif !(y2.2==0)then
   za (Gu fu x) fun z1=>
   some z1
  else
   za (yA fu x) fun z1=>
   some z1
def VR(fu:Nat)(x:List Str):Option Int:=
 ZG fu (fun(s1:Int)=>
   bif decide (s1<(x.length:Int))then
    za (geti x s1) fun y2=>
    za (iq y2) fun y3=>
    bif y3 then
     some (LO.ret s1)
    else
     some (LO.again (w64 (s1+1)))
   else
    some (LO.out ()):Int->Option (LO (Int) (Unit) _)) 0 fun o4=>
 some (-1)
def pR(fu:Nat)(x:List Str):Option Bool:=
 za (VR fu x) fun y1=>
 some (decide (y1>=0))
def bO(fu:Nat)(x:List Str):Option Bool:=
 za (zA (bif decide ((x.length:Int)>0)then decide ((x.length:Int)<=16)else false) (pR fu x) (default:Bool)) fun y1=>
 some (bif bif decide ((x.length:Int)>0)then decide ((x.length:Int)<=16)else false then !y1 else false)
def vN(fu:Nat)(x:List Str):Option Bool:=
 za (bO fu x) fun y1=>
 some (!y1)
def WR(fu:Nat)(x:List (List Str)):Option Int:=
 ZG fu (fun(s1:Int)=>
   bif decide (s1<(x.length:Int))then
    za (geti x s1) fun y2=>
    za (vN fu y2) fun y3=>
    bif y3 then
     some (LO.ret s1)
    else
     some (LO.again (w64 (s1+1)))
   else
    some (LO.out ()):Int->Option (LO (Int) (Unit) _)) 0 fun o4=>
 some (-1)
def rR(fu:Nat)(x:List (List Str)):Option Bool:=
 za (WR fu x) fun y1=>
 some (decide (y1>=0))
def JI(fu:Nat)(Qf:List zg->Option Int)(x:List zg):Option Int:=
 ZG fu (fun(s1:Int×Int)=>
   bif decide (s1.2<(x.length:Int))then
    za (geti x s1.2) fun y2=>
    ZG fu (fun(s3:Int×Int)=>
      bif decide (s3.2<(y2.parts.length:Int))then
       za (geti y2.parts s3.2) fun y4=>
       ZG fu (fun(s5:Int×Int)=>
         bif decide (s5.2<(y4.simples.length:Int))then
          zO (X:=Int×Int) (
            za (geti y4.simples s5.2) fun y6=>
            bif bif y6.kind==3 then true else bif decide (y6.kind>=9)then !(bif bif bif y6.kind==9 then true else y6.kind==10 then !y6.of_ else false then y6.anb.a==0&&(y6.anb.b==1&&true)else false)else false then
             za (Qf y6.list) fun y7=>
             some (LX.out (if w64 (y7+1)>s5.1 then w64 (y7+1)else s5.1,s5.2))
            else
             some (LX.out (s5.1,s5.2))) fun j8=>
          some (LO.again (j8.1,w64 (j8.2+1)))
         else
          some (LO.out s5.1):Int×Int->Option (LO (Int×Int) (Int) _)) (s3.1,0) fun o9=>
       some (LO.again (o9,w64 (s3.2+1)))
      else
       some (LO.out s3.1):Int×Int->Option (LO (Int×Int) (Int) _)) (s1.1,0) fun o10=>
    some (LO.again (o10,w64 (s1.2+1)))
   else
    some (LO.out s1.1):Int×Int->Option (LO (Int×Int) (Int) _)) (0,0) fun o11=>
 some o11
def Qf(fu:Nat):List zg->Option Int:=Ue (JI fu) fu
def AQ(fu:Nat)(x:zg):Option Bool:=
 za (jH fu (zt fu) ((⟨x.lead,x.parts,x.combs⟩:zg),(⟨0,false⟩:zh),false)) fun y1=>
 some (!y1)
def iR(fu:Nat)(x:List zg):Option Int:=
 ZG fu (fun(s1:Int)=>
   bif decide (s1<(x.length:Int))then
    za (geti x s1) fun y2=>
    za (AQ fu (⟨y2.lead,y2.parts,y2.combs⟩:zg)) fun y3=>
    bif y3 then
     some (LO.ret s1)
    else
     some (LO.again (w64 (s1+1)))
   else
    some (LO.out ()):Int->Option (LO (Int) (Unit) _)) 0 fun o4=>
 some (-1)
def kR(fu:Nat)(x:List zg):Option Bool:=
 za (iR fu x) fun y1=>
 some (decide (y1>=0))
def TH(fu:Nat)(x:List zg):Option Int:=
 za (zA (!((x.length:Int)==0)) (kR fu x) (default:Bool)) fun y1=>
 bif bif (x.length:Int)==0 then true else y1 then
  some 8
 else
  za (qW fu x) fun y2=>
  bif decide (y2>64)then
   some 4
  else
   some 0
def Xj(x:zm):Option Bool:=
 some (bif bif bif bif bif bif x.kind==0 then x.name==[]else false then x.num==0 else false then(x.list.length:Int)==0 else false then x.decl.name==[]else false then(x.decl.value.length:Int)==0 else false then !x.decl.important else false)
def iH(fu:Nat)(Il:zm->Option Int)(x:zm):Option Int:=
 zO (X:=Int) (
   bif bif x.kind==5 then true else x.kind==6 then
    some (LX.out 1)
   else
    some (LX.out 0)) fun j1=>
 ZG fu (fun(s2:Int×Int)=>
   bif decide (s2.2<(x.list.length:Int))then
    za (geti x.list s2.2) fun y3=>
    za (Il (⟨y3.kind,y3.name,y3.num,y3.decl,y3.list⟩:zm)) fun y4=>
    some (LO.again (if y4>s2.1 then y4 else s2.1,w64 (s2.2+1)))
   else
    some (LO.out s2.1):Int×Int->Option (LO (Int×Int) (Int) _)) (j1,0) fun o5=>
 some o5
def Il(fu:Nat):zm->Option Int:=Ue (iH fu) fu
def YG(fu:Nat)(x:zm):Option Bool:=
 za (zA (!(x.kind != 1)) (Qo (⟨x.kind,x.name,x.num,x.decl,x.list⟩:zm)) (default:Bool)) fun y1=>
 bif bif bif x.kind != 1 then true else !y1 then true else(x.list.length:Int)==0 then
  some false
 else
  ZG fu (fun(s2:Int)=>
    bif decide (s2<(x.list.length:Int))then
     zO (X:=Int) (
       za (geti x.list s2) fun y3=>
       za (zA (!(decide ((y3.list.length:Int)>0))) (Qo (⟨y3.kind,[],0,y3.decl,y3.list⟩:zm)) (default:Bool)) fun y4=>
       bif bif decide ((y3.list.length:Int)>0)then true else !y4 then
        some (LX.ret (LO.ret false))
       else
        bif y3.kind==4 then
         za (zA (!(bif decide (s2>0)then true else y3.num != 0)) (oG fu y3.name) (default:Bool)) fun y5=>
         bif bif bif decide (s2>0)then true else y3.num != 0 then true else !y5 then
          some (LX.ret (LO.ret false))
         else
          some (LX.out s2)
        else
         zO (X:=Bool) (
           bif y3.kind==5 then
            some (LX.out (y3.kind==5))
           else
            some (LX.out (y3.kind==6))) fun j6=>
         bif j6 then
          za (zA (!(bif !(y3.name==[])then true else decide (y3.num<0))) (vG fu y3.num) (default:Int)) fun y7=>
          bif bif bif !(y3.name==[])then true else decide (y3.num<0)then true else y7 != 0 then
           some (LX.ret (LO.ret false))
          else
           some (LX.out s2)
         else
          some (LX.ret (LO.ret false))) fun j8=>
     some (LO.again (w64 (j8+1)))
    else
     some (LO.out ()):Int->Option (LO (Int) (Unit) _)) 0 fun o9=>
  some true
def ut(x:zm):Option Bool:=
 za (zA (decide ((x.list.length:Int)>0)) (geti x.list 0) (default:zm)) fun y1=>
 some (bif decide ((x.list.length:Int)>0)then y1.kind==4 else false)
def wL(fu:Nat)(x:zm):Option Bool:=
 bif x.kind==3 then
  za (Qo (⟨x.kind,x.name,x.num,x.decl,x.list⟩:zm)) fun y1=>
  za (zA (bif y1 then(x.list.length:Int)==1 else false) (geti x.list 0) (default:zm)) fun y2=>
  za (zA (bif y1 then(x.list.length:Int)==1 else false) (YG fu (⟨y2.kind,y2.name,y2.num,y2.decl,y2.list⟩:zm)) (default:Bool)) fun y3=>
  za (zA (bif bif y1 then(x.list.length:Int)==1 else false then y3 else false) (geti x.list 0) (default:zm)) fun y4=>
  za (zA (bif bif y1 then(x.list.length:Int)==1 else false then y3 else false) (ut (⟨y4.kind,y4.name,y4.num,y4.decl,y4.list⟩:zm)) (default:Bool)) fun y5=>
  some (bif bif bif y1 then(x.list.length:Int)==1 else false then y3 else false then y5 else false)
 else
  za (YG fu (⟨x.kind,x.name,x.num,x.decl,x.list⟩:zm)) fun y6=>
  some y6
def dQ(fu:Nat)(x:zm):Option Bool:=
 za (wL fu (⟨x.kind,x.name,x.num,x.decl,x.list⟩:zm)) fun y1=>
 some (!y1)
def uQ(fu:Nat)(x:List zm):Option Int:=
 ZG fu (fun(s1:Int)=>
   bif decide (s1<(x.length:Int))then
    za (geti x s1) fun y2=>
    za (dQ fu (⟨y2.kind,y2.name,y2.num,y2.decl,y2.list⟩:zm)) fun y3=>
    bif y3 then
     some (LO.ret s1)
    else
     some (LO.again (w64 (s1+1)))
   else
    some (LO.out ()):Int->Option (LO (Int) (Unit) _)) 0 fun o4=>
 some (-1)
def UR(fu:Nat)(x:List zm):Option Bool:=
 za (uQ fu x) fun y1=>
 some (decide (y1>=0))
def YC(fu:Nat)(x:zm):Option Int:=
 za (zA (bif bif x.kind==2 then decide ((x.list.length:Int)>0)else false then decide ((x.list.length:Int)<=64)else false) (UR fu x.list) (default:Bool)) fun y1=>
 za (Qo (⟨x.kind,x.name,x.num,x.decl,x.list⟩:zm)) fun y2=>
 bif bif !y2 then true else bif !(bif x.kind==1 then(x.list.length:Int)==0 else false)then !(bif bif bif x.kind==2 then decide ((x.list.length:Int)>0)else false then decide ((x.list.length:Int)<=64)else false then !y1 else false)else false then
  some 8
 else
  some 0
def GH(fu:Nat)(Dl:zm->Option Int)(x:zm):Option Int:=
 bif x.kind==7 then
  za (Az fu x.decl.value) fun y1=>
  some (w64 (y1.1+1))
 else
  bif x.kind==8 then
   some 1
  else
   ZG fu (fun(s2:Int×Int)=>
     bif decide (s2.2<(x.list.length:Int))then
      za (geti x.list s2.2) fun y3=>
      za (Dl (⟨y3.kind,y3.name,y3.num,y3.decl,y3.list⟩:zm)) fun y4=>
      zO (X:=Int×Int) (
        bif bif y3.kind != 7 then y3.kind != 8 else false then
         some (LX.out (s2.1,w64 (y4+1)))
        else
         some (LX.out (s2.1,y4))) fun j5=>
      some (LO.again (if j5.2>j5.1 then j5.2 else j5.1,w64 (s2.2+1)))
     else
      some (LO.out s2.1):Int×Int->Option (LO (Int×Int) (Int) _)) (0,0) fun o6=>
   some o6
def Dl(fu:Nat):zm->Option Int:=Ue (GH fu) fu
def JH(fu:Nat)(El:List zC->Option zq)(x:List zC):Option zq:=
 ZG fu (fun(s1:Int×zq)=>
   bif decide (s1.1<(x.length:Int))then
    za (geti x s1.1) fun y2=>
    za (El y2.rules) fun y3=>
    za (rR fu y2.names) fun y4=>
    zO (X:=(Int×Bool)×zq×zq) (
      bif y2.kind==1 then
       za (Qf fu y2.selectors) fun y5=>
       za (zA (!(bif y3.bad then true else y4)) (TH fu y2.selectors) (default:Int)) fun y6=>
       za (zA (!(bif bif bif y3.bad then true else y4 then true else y6 != 0 then true else decide ((y2.decls.length:Int)>32))) (Xj (⟨y2.cond.kind,y2.cond.name,y2.cond.num,y2.cond.decl,y2.cond.list⟩:zm)) (default:Bool)) fun y7=>
       ZG fu (fun(s8:(Bool×Int)×zq)=>
         bif decide (s8.1.2<(y2.decls.length:Int))then
          za (geti y2.decls s8.1.2) fun y9=>
          za (Az fu y9.value) fun y10=>
          za (zA (!(bif s8.1.1 then true else y10.2 != 0)) (Ru fu y9) (default:Int)) fun y11=>
          some (LO.again ((bif bif s8.1.1 then true else y10.2 != 0 then true else y11 != 0,w64 (s8.1.2+1)),(⟨s8.2.rules,if y10.1>s8.2.depth then y10.1 else s8.2.depth,s8.2.bad⟩:zq)))
         else
          some (LO.out (s8.1.1,s8.2)):(Bool×Int)×zq->Option (LO ((Bool×Int)×zq) (Bool×zq) _)) ((bif bif bif bif bif y3.bad then true else y4 then true else y6 != 0 then true else decide ((y2.decls.length:Int)>32)then true else !y7 then true else decide (w64 ((y2.names.length:Int)+(y2.rules.length:Int))>0),0),y3) fun o12=>
       some (LX.out ((y5,o12.1),(⟨w64 (s1.2.rules+w64 (y3.rules+1)),s1.2.depth,s1.2.bad⟩:zq),o12.2))
      else
       bif y2.kind==2 then
        za (Il fu (⟨y2.cond.kind,y2.cond.name,y2.cond.num,y2.cond.decl,y2.cond.list⟩:zm)) fun y13=>
        za (zA (!(bif bif bif y3.bad then true else y4 then true else decide (w64 ((y2.selectors.length:Int)+(y2.decls.length:Int))>0)then true else decide ((y2.names.length:Int)>0))) (YC fu (⟨y2.cond.kind,y2.cond.name,y2.cond.num,y2.cond.decl,y2.cond.list⟩:zm)) (default:Int)) fun y14=>
        some (LX.out ((y13,bif bif bif bif y3.bad then true else y4 then true else decide (w64 ((y2.selectors.length:Int)+(y2.decls.length:Int))>0)then true else decide ((y2.names.length:Int)>0)then true else y14 != 0),(⟨w64 (s1.2.rules+w64 (y3.rules+1)),s1.2.depth,s1.2.bad⟩:zq),y3))
       else
        bif y2.kind==3 then
         za (Dl fu (⟨y2.cond.kind,y2.cond.name,y2.cond.num,y2.cond.decl,y2.cond.list⟩:zm)) fun y15=>
         za (zA (!(bif bif bif y3.bad then true else y4 then true else decide (w64 ((y2.selectors.length:Int)+(y2.decls.length:Int))>0)then true else decide ((y2.names.length:Int)>0))) (LD fu (⟨y2.cond.kind,y2.cond.name,y2.cond.num,y2.cond.decl,y2.cond.list⟩:zm)) (default:Int)) fun y16=>
         some (LX.out ((y15,bif bif bif bif y3.bad then true else y4 then true else decide (w64 ((y2.selectors.length:Int)+(y2.decls.length:Int))>0)then true else decide ((y2.names.length:Int)>0)then true else y16 != 0),(⟨w64 (s1.2.rules+w64 (y3.rules+1)),s1.2.depth,s1.2.bad⟩:zq),y3))
        else
         bif y2.kind==4 then
          za (zA (!(bif bif bif y3.bad then true else y4 then true else decide (w64 ((y2.selectors.length:Int)+(y2.decls.length:Int))>0)then true else decide ((y2.names.length:Int)>1))) (Xj (⟨y2.cond.kind,y2.cond.name,y2.cond.num,y2.cond.decl,y2.cond.list⟩:zm)) (default:Bool)) fun y17=>
          some (LX.out ((0,bif bif bif bif y3.bad then true else y4 then true else decide (w64 ((y2.selectors.length:Int)+(y2.decls.length:Int))>0)then true else decide ((y2.names.length:Int)>1)then true else !y17),(⟨w64 (s1.2.rules+w64 (y3.rules+1)),s1.2.depth,s1.2.bad⟩:zq),y3))
         else
          bif y2.kind==5 then
           za (zA (!(bif bif bif bif bif y3.bad then true else y4 then true else decide (w64 ((y2.selectors.length:Int)+(y2.decls.length:Int))>0)then true else decide ((y2.names.length:Int)<1)then true else decide ((y2.names.length:Int)>64)then true else decide ((y2.rules.length:Int)>0))) (Xj (⟨y2.cond.kind,y2.cond.name,y2.cond.num,y2.cond.decl,y2.cond.list⟩:zm)) (default:Bool)) fun y18=>
           some (LX.out ((0,bif bif bif bif bif bif y3.bad then true else y4 then true else decide (w64 ((y2.selectors.length:Int)+(y2.decls.length:Int))>0)then true else decide ((y2.names.length:Int)<1)then true else decide ((y2.names.length:Int)>64)then true else decide ((y2.rules.length:Int)>0)then true else !y18),(⟨w64 (s1.2.rules+w64 (y3.rules+1)),s1.2.depth,s1.2.bad⟩:zq),(⟨y3.rules,(-1),y3.bad⟩:zq)))
          else
           some (LX.out ((0,true),(⟨w64 (s1.2.rules+w64 (y3.rules+1)),s1.2.depth,s1.2.bad⟩:zq),y3))) fun j19=>
    some (LO.again (w64 (s1.1+1),(⟨j19.2.1.rules,if j19.1.1>(if w64 (j19.2.2.depth+1)>j19.2.1.depth then w64 (j19.2.2.depth+1)else j19.2.1.depth)then j19.1.1 else if w64 (j19.2.2.depth+1)>j19.2.1.depth then w64 (j19.2.2.depth+1)else j19.2.1.depth,bif j19.2.1.bad then true else j19.1.2⟩:zq)))
   else
    some (LO.out s1.2):Int×zq->Option (LO (Int×zq) (zq) _)) (0,(⟨0,0,false⟩:zq)) fun o20=>
 some o20
def El(fu:Nat):List zC->Option zq:=Ue (JH fu) fu
def vM(fu:Nat)(x:List zC):Option Int:=
 za (El fu x) fun y1=>
 bif bif bif y1.bad then true else decide (y1.rules>64)then true else decide (y1.depth>16)then
  some 8
 else
  some 0
def wM(fu:Nat)(x:ZN):Option Int:=
 za (vM fu x.rules) fun y1=>
 some y1
def zQ(x:Str×List UInt8):Option (Int×List UInt8):=
 za (copyV x.2) fun y1=>
 need (Zb x.2.length x.1.length 1)<|
 some ((x.1.length:Int),x.2++x.1)
def ZA(x:Int×List UInt8):Option (List UInt8):=
 za (copyV x.2) fun y1=>
 za (qE x.1) fun y2=>
 need (Zb x.2.length 1 1)<|
 some (x.2++[y2])
def QY(x:Str):Option Int:=
 za (strings_HasPrefix (x,[45])) fun y1=>
 bif y1 then
  some 2
 else
  some 1
def Qs(x:Int×List UInt8):Option (List UInt8):=
 za (zA (bif decide (x.1>32)then decide (x.1<127)else false) (Uj x.1) (default:Bool)) fun y1=>
 za (zA (bif bif decide (x.1>32)then decide (x.1<127)else false then !y1 else false) (TG x.1) (default:Bool)) fun y2=>
 bif bif bif bif decide (x.1>32)then decide (x.1<127)else false then !y1 else false then !y2 else false then
  za (qE x.1) fun y3=>
  need (Zb x.2.length 2 1)<|
  some (x.2++[(92:UInt8),y3])
 else
  need (Zb x.2.length 1 1)<|
  za (nE ((wu64 x.1,16),x.2++[(92:UInt8)])) fun y4=>
  need (Zb y4.length 1 1)<|
  some (y4++[(32:UInt8)])
def VA(fu:Nat)(x:Str×Int):Option (List UInt8):=
 ZG fu (fun(s1:Int×List UInt8)=>
   bif decide (s1.1<(x.1.length:Int))then
    zO (X:=Int×List UInt8) (
      za (geti x.1 s1.1) fun y2=>
      za (Yp (y2.toNat:Int)) fun y3=>
      za (zA (!(decide (s1.1>=x.2))&&y3) (Uj (y2.toNat:Int)) (default:Bool)) fun y4=>
      bif bif bif y3 then bif decide (s1.1>=x.2)then true else !y4 else false then bif x.2==0 then true else !(x.1==[45])else false then
       za (qE (y2.toNat:Int)) fun y5=>
       need (Zb s1.2.length 1 1)<|
       some (LX.out (s1.1,s1.2++[y5]))
      else
       za (Qs ((y2.toNat:Int),s1.2)) fun y6=>
       some (LX.out (s1.1,y6))) fun j7=>
    some (LO.again (w64 (j7.1+1),j7.2))
   else
    some (LO.out s1.2):Int×List UInt8->Option (LO (Int×List UInt8) (List UInt8) _)) (0,[]) fun o8=>
 some o8
def Qb(fu:Nat)(x:(Str×Int)×List UInt8):Option (List UInt8):=
 ZG fu (fun(s1:Int×List UInt8)=>
   bif decide (s1.1<(x.1.1.length:Int))then
    zO (X:=Int×List UInt8) (
      za (geti x.1.1 s1.1) fun y2=>
      za (Yp (y2.toNat:Int)) fun y3=>
      za (zA (!(decide (s1.1>=x.1.2))&&y3) (Uj (y2.toNat:Int)) (default:Bool)) fun y4=>
      bif bif bif y3 then bif decide (s1.1>=x.1.2)then true else !y4 else false then bif x.1.2==0 then true else !(x.1.1==[45])else false then
       za (qE (y2.toNat:Int)) fun y5=>
       need (Zb s1.2.length 1 1)<|
       some (LX.out (s1.1,s1.2++[y5]))
      else
       za (Qs ((y2.toNat:Int),s1.2)) fun y6=>
       some (LX.out (s1.1,y6))) fun j7=>
    some (LO.again (w64 (j7.1+1),j7.2))
   else
    some (LO.out s1.2):Int×List UInt8->Option (LO (Int×List UInt8) (List UInt8) _)) (0,x.2) fun o8=>
 some o8
def uA(x:Int×Bool):Option (List UInt8):=
 zO (X:=Int×List UInt8) (
   bif decide (x.1<0)then
    need (Zb 0 1 1)<|
    some (LX.out (w64 (0 - x.1),[(45:UInt8)]))
   else
    some (LX.out (x.1,[]))) fun j1=>
 za (yw ((w64 (Int.tdiv j1.1 1000),10),j1.2)) fun y2=>
 za (Ko (w64 (1000+Int.tmod j1.1 1000),10)) fun y3=>
 need (decide (1<=(y3.length:Int)))<|
 za (Xn (List.drop 1 y3,[48])) fun y4=>
 zO (X:=List UInt8) (
   bif !(y4==[])then
    need (Zb y2.length 1 1)<|
    need (Zb (y2++[(46:UInt8)]).length y4.length 1)<|
    some (LX.out (y2++[(46:UInt8)]++y4))
   else
    bif x.2 then
     need (Zb y2.length ([46,48]:Str).length 1)<|
     some (LX.out (y2++([46,48]:Str)))
    else
     some (LX.out y2)) fun j5=>
 some j5
def lF(x:Unit):Option za7:=
 some (⟨[32],[60,33,45,45],[45,45,62],[58],[59],[44],[91],[93],[40],[41],[123],[125]⟩:za7)
def RN(fu:Nat)(x:zk):Option (List UInt8):=
 bif x.kind==1 then
  za (QY x.text) fun y1=>
  za (VA fu (x.text,y1)) fun y2=>
  some y2
 else
  bif x.kind==2 then
   za (QY x.text) fun y3=>
   za (VA fu (x.text,y3)) fun y4=>
   need (Zb y4.length 1 1)<|
   some (y4++[(40:UInt8)])
  else
   bif x.kind==3 then
    need (Zb 0 1 1)<|
    za (QY x.text) fun y5=>
    za (Qb fu ((x.text,y5),[(64:UInt8)])) fun y6=>
    some y6
   else
    bif x.kind==4 then
     zO (X:=Int) (
       bif x.flag then
        za (QY x.text) fun y7=>
        some (LX.out y7)
       else
        some (LX.out 0)) fun j8=>
     need (Zb 0 1 1)<|
     za (Qb fu ((x.text,j8),[(35:UInt8)])) fun y9=>
     some y9
    else
     bif x.kind==5 then
      need (Zb 0 1 1)<|
      need (decide (x.text.length<=maxLen))<|
      ZG fu (fun(s10:Int×List UInt8)=>
        bif decide (s10.1<(x.text.length:Int))then
         zO (X:=Int×List UInt8) (
           need (decide (0<=s10.1)&&decide (s10.1<(x.text.length:Int)))<|
           za x.text[s10.1.toNat]? fun y11=>
           za (strings_IndexByte ([10,12,13,34,92],(y11.toNat:Int))) fun y12=>
           bif decide (y12>=0)then
            za (Qs ((y11.toNat:Int),s10.2)) fun y13=>
            some (LX.out (s10.1,y13))
           else
            za (qE (y11.toNat:Int)) fun y14=>
            need (Zb s10.2.length 1 1)<|
            some (LX.out (s10.1,s10.2++[y14]))) fun j15=>
         some (LO.again (w64 (j15.1+1),j15.2))
        else
         some (LO.out s10.2):Int×List UInt8->Option (LO (Int×List UInt8) (List UInt8) _)) (0,[(34:UInt8)]) fun o16=>
      need (Zb o16.length 1 1)<|
      some (o16++[(34:UInt8)])
     else
      bif x.kind==7 then
       need (Zb 0 ([117,114,108,40]:Str).length 1)<|
       need (decide (x.text.length<=maxLen))<|
       ZG fu (fun(s17:Int×List UInt8)=>
         bif decide (s17.1<(x.text.length:Int))then
          zO (X:=Int×List UInt8) (
            need (decide (0<=s17.1)&&decide (s17.1<(x.text.length:Int)))<|
            za x.text[s17.1.toNat]? fun y18=>
            za (zA (!(decide ((y18.toNat:Int)<=32))) (strings_IndexByte ([34,39,40,41,92,127],(y18.toNat:Int))) (default:Int)) fun y19=>
            bif bif decide ((y18.toNat:Int)<=32)then true else decide (y19>=0)then
             za (Qs ((y18.toNat:Int),s17.2)) fun y20=>
             some (LX.out (s17.1,y20))
            else
             za (qE (y18.toNat:Int)) fun y21=>
             need (Zb s17.2.length 1 1)<|
             some (LX.out (s17.1,s17.2++[y21]))) fun j22=>
          some (LO.again (w64 (j22.1+1),j22.2))
         else
          some (LO.out s17.2):Int×List UInt8->Option (LO (Int×List UInt8) (List UInt8) _)) (0,([117,114,108,40]:Str)) fun o23=>
       need (Zb o23.length 1 1)<|
       some (o23++[(41:UInt8)])
      else
       bif x.kind==9 then
        need (Zb 0 x.text.length 1)<|
        some x.text
       else
        bif x.kind==10 then
         za (uA (x.num, !x.flag)) fun y24=>
         some y24
        else
         bif x.kind==11 then
          za (uA (x.num,false)) fun y25=>
          need (Zb y25.length 1 1)<|
          some (y25++[(37:UInt8)])
         else
          bif x.kind==12 then
           za (uA (x.num, !x.flag)) fun y26=>
           za (geti x.unit 0) fun y27=>
           need (decide (1<=(x.unit.length:Int))|| !(ibOr IntKind.u8 (y27.toNat:Int) 32==101))<|
           za (zA (ibOr IntKind.u8 (y27.toNat:Int) 32==101) (Wq (List.drop 1 x.unit)) (default:Bool)) fun y28=>
           need (decide (1<=(x.unit.length:Int))|| !(bif ibOr IntKind.u8 (y27.toNat:Int) 32==101 then y28 else false))<|
           za (zA (bif ibOr IntKind.u8 (y27.toNat:Int) 32==101 then y28 else false) (strings_HasPrefix (List.drop 1 x.unit,[45,45])) (default:Bool)) fun y29=>
           bif bif bif ibOr IntKind.u8 (y27.toNat:Int) 32==101 then y28 else false then !y29 else false then
            za (geti x.unit 0) fun y30=>
            za (Qs ((y30.toNat:Int),y26)) fun y31=>
            need (decide (1<=(x.unit.length:Int)))<|
            za (Qb fu ((List.drop 1 x.unit,0),y31)) fun y32=>
            some y32
           else
            za (QY x.unit) fun y33=>
            za (Qb fu ((x.unit,y33),y26)) fun y34=>
            some y34
          else
           za (lF ()) fun y35=>
           za (geti [y35.e0,y35.e1,y35.e2,y35.e3,y35.e4,y35.e5,y35.e6,y35.e7,y35.e8,y35.e9,y35.e10,y35.e11] (wu8 (x.kind - 13))) fun y36=>
           need (Zb 0 y36.length 1)<|
           some y36
def mV(fu:Nat)(x:zk):Option (Str×Int):=
 za (Np x) fun y1=>
 bif !y1 then
  some ([],8)
 else
  za (RN fu x) fun y2=>
  some (y2,0)
def Z5(fu:Nat)(x:zk×List UInt8):Option (List UInt8):=
 za (mV fu x.1) fun y1=>
 za (zQ (y1.1,x.2)) fun y2=>
 some y2.2
def stringslite_HasSuffix(x:Str×Str):Option Bool:=
 need (decide (0<=w64 ((x.1.length:Int) - (x.2.length:Int)))&&decide (w64 ((x.1.length:Int) - (x.2.length:Int))<=(x.1.length:Int))|| !(decide ((x.1.length:Int)>=(x.2.length:Int))))<|
 some (bif decide ((x.1.length:Int)>=(x.2.length:Int))then List.drop (w64 ((x.1.length:Int) - (x.2.length:Int))).toNat x.1==x.2 else false)
def stringslite_TrimSuffix(x:Str×Str):Option Str:=
 za (stringslite_HasSuffix (x.1,x.2)) fun y1=>
 bif y1 then
  need (decide (0<=w64 ((x.1.length:Int) - (x.2.length:Int)))&&decide (w64 ((x.1.length:Int) - (x.2.length:Int))<=(x.1.length:Int)))<|
  some (List.take (w64 ((x.1.length:Int) - (x.2.length:Int))).toNat x.1)
 else
  some x.1
def strings_TrimSuffix(x:Str×Str):Option Str:=
 za (stringslite_TrimSuffix (x.1,x.2)) fun y1=>
 some y1
def MV(x:VAnb):Option (Str×Int):=
 za (Jm x) fun y1=>
 bif y1 != 0 then
  some ([],y1)
 else
  za (Ko (x.b,10)) fun y2=>
  bif x.a==0 then
   some (y2,0)
  else
   za (Ko (x.a,10)) fun y3=>
   zO (X:=Str) (
     bif bif x.a==1 then true else x.a==(-1)then
      za (strings_TrimSuffix (y3,[49])) fun y4=>
      some (LX.out y4)
     else
      some (LX.out y3)) fun j5=>
   need (QV j5.length ([110]:Str).length)<|
   zO (X:=Str) (
     bif decide (x.b>0)then
      need (QV ([43]:Str).length y2.length)<|
      need (QV (j5++([110]:Str)).length (([43]:Str)++y2).length)<|
      some (LX.out (j5++([110]:Str)++(([43]:Str)++y2)))
     else
      bif decide (x.b<0)then
       need (QV (j5++([110]:Str)).length y2.length)<|
       some (LX.out (j5++([110]:Str)++y2))
      else
       some (LX.out (j5++([110]:Str)))) fun j6=>
   some (j6,0)
def GR(fu:Nat)(Zg:zx×List UInt8->Option (List UInt8))(x:List zg×List UInt8):Option (List UInt8):=
 ZG fu (fun(s1:Int×List UInt8)=>
   bif decide (s1.1<(x.1.length:Int))then
    za (geti x.1 s1.1) fun y2=>
    zO (X:=List UInt8) (
      bif decide (s1.1>0)then
       za (zQ ([44,32],s1.2)) fun y3=>
       some (LX.out y3.2)
      else
       some (LX.out s1.2)) fun j4=>
    zO (X:=List UInt8) (
      bif decide (y2.lead>1)then
       need (decide (0<=y2.lead)&&decide (y2.lead<5))<|
       za ([[],[32],[32,62,32],[32,43,32],[32,126,32]]:List Str)[0+y2.lead.toNat*1]? fun y5=>
       need (decide (1<=(y5.length:Int)))<|
       za (zQ (List.drop 1 y5,j4)) fun y6=>
       some (LX.out y6.2)
      else
       some (LX.out j4)) fun j7=>
    ZG fu (fun(s8:Int×List UInt8)=>
      bif decide (s8.1<(y2.parts.length:Int))then
       za (geti y2.parts s8.1) fun y9=>
       zO (X:=List UInt8) (
         bif decide (s8.1>0)then
          za (geti y2.combs (w64 (s8.1 - 1))) fun y10=>
          need (decide (0<=(y10.toNat:Int))&&decide ((y10.toNat:Int)<5))<|
          za ([[],[32],[32,62,32],[32,43,32],[32,126,32]]:List Str)[0+y10.toNat*1]? fun y11=>
          za (zQ (y11,s8.2)) fun y12=>
          some (LX.out y12.2)
         else
          some (LX.out s8.2)) fun j13=>
       zO (X:=List UInt8) (
         bif y9.tag==[]then
          some (LX.out j13)
         else
          bif y9.tag==[42]then
           za (ZA (42,j13)) fun y14=>
           some (LX.out y14)
          else
           za (Z5 fu ((⟨1,y9.tag,0,[],false⟩:zk),j13)) fun y15=>
           some (LX.out y15)) fun j16=>
       ZG fu (fun(s17:Int×List UInt8)=>
         bif decide (s17.1<(y9.simples.length:Int))then
          za (geti y9.simples s17.1) fun y18=>
          za (Zg ((⟨y18.kind,y18.name,y18.op,y18.value,y18.fold,y18.anb,y18.of_,y18.list⟩:zx),s17.2)) fun y19=>
          some (LO.again (w64 (s17.1+1),y19))
         else
          some (LO.out s17.2):Int×List UInt8->Option (LO (Int×List UInt8) (List UInt8) _)) (0,j16) fun o20=>
       some (LO.again (w64 (s8.1+1),o20))
      else
       some (LO.out s8.2):Int×List UInt8->Option (LO (Int×List UInt8) (List UInt8) _)) (0,j7) fun o21=>
    some (LO.again (w64 (s1.1+1),o21))
   else
    some (LO.out s1.2):Int×List UInt8->Option (LO (Int×List UInt8) (List UInt8) _)) (0,x.2) fun o22=>
 some o22
def xI(fu:Nat)(Zg:zx×List UInt8->Option (List UInt8))(x:zx×List UInt8):Option (List UInt8):=
 bif x.1.kind==1 then
  za (Z5 fu ((⟨4,x.1.name,0,[],true⟩:zk),x.2)) fun y1=>
  some y1
 else
  bif x.1.kind==2 then
   za (ZA (46,x.2)) fun y2=>
   za (Z5 fu ((⟨1,x.1.name,0,[],false⟩:zk),y2)) fun y3=>
   some y3
  else
   bif x.1.kind==3 then
    za (ZA (91,x.2)) fun y4=>
    za (Z5 fu ((⟨1,x.1.name,0,[],false⟩:zk),y4)) fun y5=>
    zO (X:=List UInt8) (
      bif x.1.op != 0 then
       za (geti [([]:Str),([61]:Str),([126,61]:Str),([124,61]:Str),([94,61]:Str),([36,61]:Str),([42,61]:Str)] x.1.op) fun y6=>
       za (zQ (y6,y5)) fun y7=>
       za (Z5 fu ((⟨5,x.1.value,0,[],false⟩:zk),y7.2)) fun y8=>
       some (LX.out y8)
      else
       some (LX.out y5)) fun j9=>
    zO (X:=List UInt8) (
      bif x.1.fold then
       za (zQ ([32,105],j9)) fun y10=>
       some (LX.out y10.2)
      else
       some (LX.out j9)) fun j11=>
    za (ZA (93,j11)) fun y12=>
    some y12
   else
    bif bif bif !x.1.of_ then x.1.anb.a==0&&(x.1.anb.b==1&&true)else false then decide (x.1.kind<=10)else false then
     za (geti [([58,102,105,114,115,116,45,99,104,105,108,100]:Str),([58,108,97,115,116,45,99,104,105,108,100]:Str)] (wu8 (x.1.kind - 9))) fun y13=>
     za (zQ (y13,x.2)) fun y14=>
     some y14.2
    else
     za (WA ()) fun y15=>
     za (geti y15 (wu8 (x.1.kind - 4))) fun y16=>
     need (QV ([58]:Str).length y16.length)<|
     za (zQ (([58]:Str)++y16,x.2)) fun y17=>
     bif decide (x.1.kind<=8)then
      some y17.2
     else
      za (ZA (40,y17.2)) fun y18=>
      zO (X:=List UInt8) (
        bif decide (x.1.kind<=10)then
         za (MV x.1.anb) fun y19=>
         za (zQ (y19.1,y18)) fun y20=>
         bif x.1.of_ then
          za (zQ ([32,111,102,32],y20.2)) fun y21=>
          some (LX.out y21.2)
         else
          some (LX.out y20.2)
        else
         some (LX.out y18)) fun j22=>
      za (GR fu Zg (x.1.list,j22)) fun y23=>
      za (ZA (41,y23)) fun y24=>
      some y24
def Zg(fu:Nat):zx×List UInt8->Option (List UInt8):=Ue (xI fu) fu
def oQ(fu:Nat)(x:List zg):Option (List UInt8):=
 ZG fu (fun(s1:Int×List UInt8)=>
   bif decide (s1.1<(x.length:Int))then
    za (geti x s1.1) fun y2=>
    zO (X:=List UInt8) (
      bif decide (s1.1>0)then
       za (zQ ([44,32],s1.2)) fun y3=>
       some (LX.out y3.2)
      else
       some (LX.out s1.2)) fun j4=>
    zO (X:=List UInt8) (
      bif decide (y2.lead>1)then
       need (decide (0<=y2.lead)&&decide (y2.lead<5))<|
       za ([[],[32],[32,62,32],[32,43,32],[32,126,32]]:List Str)[0+y2.lead.toNat*1]? fun y5=>
       need (decide (1<=(y5.length:Int)))<|
       za (zQ (List.drop 1 y5,j4)) fun y6=>
       some (LX.out y6.2)
      else
       some (LX.out j4)) fun j7=>
    ZG fu (fun(s8:Int×List UInt8)=>
      bif decide (s8.1<(y2.parts.length:Int))then
       za (geti y2.parts s8.1) fun y9=>
       zO (X:=List UInt8) (
         bif decide (s8.1>0)then
          za (geti y2.combs (w64 (s8.1 - 1))) fun y10=>
          need (decide (0<=(y10.toNat:Int))&&decide ((y10.toNat:Int)<5))<|
          za ([[],[32],[32,62,32],[32,43,32],[32,126,32]]:List Str)[0+y10.toNat*1]? fun y11=>
          za (zQ (y11,s8.2)) fun y12=>
          some (LX.out y12.2)
         else
          some (LX.out s8.2)) fun j13=>
       zO (X:=List UInt8) (
         bif y9.tag==[]then
          some (LX.out j13)
         else
          bif y9.tag==[42]then
           za (ZA (42,j13)) fun y14=>
           some (LX.out y14)
          else
           za (Z5 fu ((⟨1,y9.tag,0,[],false⟩:zk),j13)) fun y15=>
           some (LX.out y15)) fun j16=>
       ZG fu (fun(s17:Int×List UInt8)=>
         bif decide (s17.1<(y9.simples.length:Int))then
          za (geti y9.simples s17.1) fun y18=>
          za (Zg fu ((⟨y18.kind,y18.name,y18.op,y18.value,y18.fold,y18.anb,y18.of_,y18.list⟩:zx),s17.2)) fun y19=>
          some (LO.again (w64 (s17.1+1),y19))
         else
          some (LO.out s17.2):Int×List UInt8->Option (LO (Int×List UInt8) (List UInt8) _)) (0,j16) fun o20=>
       some (LO.again (w64 (s8.1+1),o20))
      else
       some (LO.out s8.2):Int×List UInt8->Option (LO (Int×List UInt8) (List UInt8) _)) (0,j7) fun o21=>
    some (LO.again (w64 (s1.1+1),o21))
   else
    some (LO.out s1.2):Int×List UInt8->Option (LO (Int×List UInt8) (List UInt8) _)) (0,[]) fun o22=>
 some o22
def XQ(x:List UInt8):Option Int:=
 some (x.length:Int)
def MH(fu:Nat)(x:List zg):Option (Str×Int):=
 za (TH fu x) fun y1=>
 bif y1 != 0 then
  some ([],y1)
 else
  za (oQ fu x) fun y2=>
  za (XQ y2) fun y3=>
  bif decide (y3>4000)then
   some ([],28)
  else
   za (strV y2) fun y4=>
   some (y4,0)
def gQ(x:Bool):Option Int:=
 some 0
def nR(x:Str×Bool):Option (Int×Bool×List UInt8):=
 za (TK x.2) fun y1=>
 need (Zb 0 x.1.length 1)<|
 some ((x.1.length:Int),y1,x.1)
def BQ(x:(Str×Int)×Bool):Option (Bool×List UInt8):=
 za (zA (!(bif x.2 then true else x.1.2 != 0)) (gQ x.2) (default:Int)) fun y1=>
 bif !(bif bif x.2 then true else x.1.2 != 0 then true else decide (y1>400000))then
  za (nR (x.1.1,bif bif x.2 then true else x.1.2 != 0 then true else decide (y1>400000))) fun y2=>
  some (y2.2.1,y2.2.2)
 else
  some (bif bif x.2 then true else x.1.2 != 0 then true else decide (y1>400000),[])
def pI(x:Bool×List UInt8):Option Int:=
 some (x.2.length:Int)
def mR(x:Str×Bool×List UInt8):Option (Int×Bool×List UInt8):=
 za (LJ (x.2.1,x.2.2)) fun y1=>
 need (Zb x.2.2.length x.1.length 1)<|
 some ((x.1.length:Int),y1,x.2.2++x.1)
def zP(x:(Str×Int)×Bool×List UInt8):Option (Bool×List UInt8):=
 za (zA (!(bif x.2.1 then true else x.1.2 != 0)) (pI (x.2.1,x.2.2)) (default:Int)) fun y1=>
 bif !(bif bif x.2.1 then true else x.1.2 != 0 then true else decide (y1>400000))then
  za (mR (x.1.1,bif bif x.2.1 then true else x.1.2 != 0 then true else decide (y1>400000),x.2.2)) fun y2=>
  some (y2.2.1,y2.2.2)
 else
  some (bif bif x.2.1 then true else x.1.2 != 0 then true else decide (y1>400000),x.2.2)
def gy(fu:Nat)(x:Str):Option (Str×Int):=
 za (zA (!(x==[])) (strings_IndexByte (x,0)) (default:Int)) fun y1=>
 bif bif x==[]then true else decide (y1>=0)then
  some ([],8)
 else
  za (QY x) fun y2=>
  za (VA fu (x,y2)) fun y3=>
  bif bif decide ((x.length:Int)>4000)then true else decide ((y3.length:Int)>4000)then
   some ([],28)
  else
   some (y3,0)
def rA(x:(Int×Bool)×List UInt8):Option (List UInt8):=
 zO (X:=Int×List UInt8) (
   bif decide (x.1.1<0)then
    need (Zb x.2.length 1 1)<|
    some (LX.out (w64 (0 - x.1.1),x.2++[(45:UInt8)]))
   else
    some (LX.out (x.1.1,x.2))) fun j1=>
 za (yw ((w64 (Int.tdiv j1.1 1000),10),j1.2)) fun y2=>
 za (Ko (w64 (1000+Int.tmod j1.1 1000),10)) fun y3=>
 need (decide (1<=(y3.length:Int)))<|
 za (Xn (List.drop 1 y3,[48])) fun y4=>
 zO (X:=List UInt8) (
   bif !(y4==[])then
    need (Zb y2.length 1 1)<|
    need (Zb (y2++[(46:UInt8)]).length y4.length 1)<|
    some (LX.out (y2++[(46:UInt8)]++y4))
   else
    bif x.1.2 then
     need (Zb y2.length ([46,48]:Str).length 1)<|
     some (LX.out (y2++([46,48]:Str)))
    else
     some (LX.out y2)) fun j5=>
 some j5
def PN(fu:Nat)(x:zk×List UInt8):Option (List UInt8):=
 bif x.1.kind==1 then
  za (QY x.1.text) fun y1=>
  za (Qb fu ((x.1.text,y1),x.2)) fun y2=>
  some y2
 else
  bif x.1.kind==2 then
   za (QY x.1.text) fun y3=>
   za (Qb fu ((x.1.text,y3),x.2)) fun y4=>
   need (Zb y4.length 1 1)<|
   some (y4++[(40:UInt8)])
  else
   bif x.1.kind==3 then
    need (Zb x.2.length 1 1)<|
    za (QY x.1.text) fun y5=>
    za (Qb fu ((x.1.text,y5),x.2++[(64:UInt8)])) fun y6=>
    some y6
   else
    bif x.1.kind==4 then
     zO (X:=Int×List UInt8) (
       bif x.1.flag then
        za (QY x.1.text) fun y7=>
        some (LX.out (y7,x.2))
       else
        some (LX.out (0,x.2))) fun j8=>
     need (Zb j8.2.length 1 1)<|
     za (Qb fu ((x.1.text,j8.1),j8.2++[(35:UInt8)])) fun y9=>
     some y9
    else
     bif x.1.kind==5 then
      need (Zb x.2.length 1 1)<|
      need (decide (x.1.text.length<=maxLen))<|
      ZG fu (fun(s10:Int×List UInt8)=>
        bif decide (s10.1<(x.1.text.length:Int))then
         zO (X:=Int×List UInt8) (
           need (decide (0<=s10.1)&&decide (s10.1<(x.1.text.length:Int)))<|
           za x.1.text[s10.1.toNat]? fun y11=>
           za (strings_IndexByte ([10,12,13,34,92],(y11.toNat:Int))) fun y12=>
           bif decide (y12>=0)then
            za (Qs ((y11.toNat:Int),s10.2)) fun y13=>
            some (LX.out (s10.1,y13))
           else
            za (qE (y11.toNat:Int)) fun y14=>
            need (Zb s10.2.length 1 1)<|
            some (LX.out (s10.1,s10.2++[y14]))) fun j15=>
         some (LO.again (w64 (j15.1+1),j15.2))
        else
         some (LO.out s10.2):Int×List UInt8->Option (LO (Int×List UInt8) (List UInt8) _)) (0,x.2++[(34:UInt8)]) fun o16=>
      need (Zb o16.length 1 1)<|
      some (o16++[(34:UInt8)])
     else
      bif x.1.kind==7 then
       need (Zb x.2.length ([117,114,108,40]:Str).length 1)<|
       need (decide (x.1.text.length<=maxLen))<|
       ZG fu (fun(s17:Int×List UInt8)=>
         bif decide (s17.1<(x.1.text.length:Int))then
          zO (X:=Int×List UInt8) (
            need (decide (0<=s17.1)&&decide (s17.1<(x.1.text.length:Int)))<|
            za x.1.text[s17.1.toNat]? fun y18=>
            za (zA (!(decide ((y18.toNat:Int)<=32))) (strings_IndexByte ([34,39,40,41,92,127],(y18.toNat:Int))) (default:Int)) fun y19=>
            bif bif decide ((y18.toNat:Int)<=32)then true else decide (y19>=0)then
             za (Qs ((y18.toNat:Int),s17.2)) fun y20=>
             some (LX.out (s17.1,y20))
            else
             za (qE (y18.toNat:Int)) fun y21=>
             need (Zb s17.2.length 1 1)<|
             some (LX.out (s17.1,s17.2++[y21]))) fun j22=>
          some (LO.again (w64 (j22.1+1),j22.2))
         else
          some (LO.out s17.2):Int×List UInt8->Option (LO (Int×List UInt8) (List UInt8) _)) (0,x.2++([117,114,108,40]:Str)) fun o23=>
       need (Zb o23.length 1 1)<|
       some (o23++[(41:UInt8)])
      else
       bif x.1.kind==9 then
        need (Zb x.2.length x.1.text.length 1)<|
        some (x.2++x.1.text)
       else
        bif x.1.kind==10 then
         za (rA ((x.1.num, !x.1.flag),x.2)) fun y24=>
         some y24
        else
         bif x.1.kind==11 then
          za (rA ((x.1.num,false),x.2)) fun y25=>
          need (Zb y25.length 1 1)<|
          some (y25++[(37:UInt8)])
         else
          bif x.1.kind==12 then
           za (rA ((x.1.num, !x.1.flag),x.2)) fun y26=>
           za (geti x.1.unit 0) fun y27=>
           need (decide (1<=(x.1.unit.length:Int))|| !(ibOr IntKind.u8 (y27.toNat:Int) 32==101))<|
           za (zA (ibOr IntKind.u8 (y27.toNat:Int) 32==101) (Wq (List.drop 1 x.1.unit)) (default:Bool)) fun y28=>
           need (decide (1<=(x.1.unit.length:Int))|| !(bif ibOr IntKind.u8 (y27.toNat:Int) 32==101 then y28 else false))<|
           za (zA (bif ibOr IntKind.u8 (y27.toNat:Int) 32==101 then y28 else false) (strings_HasPrefix (List.drop 1 x.1.unit,[45,45])) (default:Bool)) fun y29=>
           bif bif bif ibOr IntKind.u8 (y27.toNat:Int) 32==101 then y28 else false then !y29 else false then
            za (geti x.1.unit 0) fun y30=>
            za (Qs ((y30.toNat:Int),y26)) fun y31=>
            need (decide (1<=(x.1.unit.length:Int)))<|
            za (Qb fu ((List.drop 1 x.1.unit,0),y31)) fun y32=>
            some y32
           else
            za (QY x.1.unit) fun y33=>
            za (Qb fu ((x.1.unit,y33),y26)) fun y34=>
            some y34
          else
           za (lF ()) fun y35=>
           za (geti [y35.e0,y35.e1,y35.e2,y35.e3,y35.e4,y35.e5,y35.e6,y35.e7,y35.e8,y35.e9,y35.e10,y35.e11] (wu8 (x.1.kind - 13))) fun y36=>
           need (Zb x.2.length y36.length 1)<|
           some (x.2++y36)
def aQ(fu:Nat)(x:List zk×List zk):Option Bool:=
 bif (x.1.length:Int) != (x.2.length:Int)then
  some false
 else
  ZG fu (fun(s1:Int)=>
    bif decide (s1<(x.1.length:Int))then
     za (geti x.1 s1) fun y2=>
     za (geti x.2 s1) fun y3=>
     bif !(y2.kind==y3.kind&&(y2.text==y3.text&&(y2.num==y3.num&&(y2.unit==y3.unit&&(y2.flag==y3.flag&&true)))))then
      some (LO.ret false)
     else
      some (LO.again (w64 (s1+1)))
    else
     some (LO.out ()):Int->Option (LO (Int) (Unit) _)) 0 fun o4=>
  some true
def kM(fu:Nat)(x:List zk):Option (Str×Int):=
 za (UG fu x) fun y1=>
 bif y1 != 0 then
  some ([],y1)
 else
  ZG fu (fun(s2:Int×List UInt8×List Zz)=>
    bif decide (s2.1<(x.length:Int))then
     need (decide (0<=s2.1)&&decide (s2.1<=(x.length:Int)))<|
     za (SG fu (List.drop s2.1.toNat x)) fun y3=>
     need (decide (0<=s2.1)&&(decide (s2.1<=w64 (s2.1+y3))&&decide (w64 (s2.1+y3)<=(x.length:Int))))<|
     ZG fu (fun(s4:Int×List UInt8)=>
       bif decide (s4.1<((List.drop s2.1.toNat (List.take (w64 (s2.1+y3)).toNat x)).length:Int))then
        za (geti (List.drop s2.1.toNat (List.take (w64 (s2.1+y3)).toNat x)) s4.1) fun y5=>
        za (PN fu (y5,s4.2)) fun y6=>
        some (LO.again (w64 (s4.1+1),y6))
       else
        some (LO.out s4.2):Int×List UInt8->Option (LO (Int×List UInt8) (List UInt8) _)) (0,[]) fun o7=>
     zO (X:=Int×List UInt8×List Zz×List UInt8) (
       za (geti x s2.1) fun y8=>
       bif bif y8.kind==9 then y3==2 else false then
        some (LX.out (s2.1,s2.2.1,s2.2.2,[(92:UInt8),(10:UInt8)]))
       else
        some (LX.out (s2.1,s2.2.1,s2.2.2,o7))) fun j9=>
     zO (X:=Int×List UInt8×List Zz×Zz) (
       bif decide (w64 ((j9.2.2.1.length:Int) - 4)>=0)then
        need (decide (0<=w64 ((j9.2.2.1.length:Int) - 4))&&decide (w64 ((j9.2.2.1.length:Int) - 4)<(j9.2.2.1.length:Int)))<|
        za (j9.2.2.1[(w64 ((j9.2.2.1.length:Int) - 4)).toNat]?) fun y10=>
        some (LX.out (j9.1,j9.2.1,j9.2.2.1,y10))
       else
        some (LX.out (j9.1,j9.2.1,j9.2.2.1,(⟨0,0⟩:Zz)))) fun j11=>
     need (decide (0<=j11.2.2.2.at_)&&decide (j11.2.2.2.at_<=(j11.2.1.length:Int)))<|
     need (decide (j11.2.2.2.at_.toNat+(j11.2.1.length - j11.2.2.2.at_.toNat)<=j11.2.1.length))<|
     need (QV (List.take (j11.2.1.length - j11.2.2.2.at_.toNat) (List.drop j11.2.2.2.at_.toNat j11.2.1)).length j9.2.2.2.length)<|
     za (nu fu (List.take (j11.2.1.length - j11.2.2.2.at_.toNat) (List.drop j11.2.2.2.at_.toNat j11.2.1)++j9.2.2.2)) fun y12=>
     zO (X:=Int×List Zz×List UInt8) (
       need (decide (0<=j11.2.2.2.token)&&(decide (j11.2.2.2.token<=w64 (j11.1+y3))&&decide (w64 (j11.1+y3)<=(x.length:Int)))|| !(!(y12.2 != 0)))<|
       za (zA (!(y12.2 != 0)) (aQ fu (y12.1,List.drop j11.2.2.2.token.toNat (List.take (w64 (j11.1+y3)).toNat x))) (default:Bool)) fun y13=>
       bif bif y12.2 != 0 then true else !y13 then
        need (Zb j11.2.1.length ([47,42,42,47]:Str).length 1)<|
        some (LX.out (j11.1,j11.2.2.1,j11.2.1++([47,42,42,47]:Str)))
       else
        some (LX.out (j11.1,j11.2.2.1,j11.2.1))) fun j14=>
     need (Zb j14.2.1.length 1 16)<|
     need (Zb j14.2.2.length j9.2.2.2.length 1)<|
     bif decide (((j14.2.2++j9.2.2.2).length:Int)>4000)then
      some (LO.ret ([],28))
     else
      some (LO.again (w64 (j14.1+y3),j14.2.2++j9.2.2.2,j14.2.1++[(⟨j14.1,(j14.2.2.length:Int)⟩:Zz)]))
    else
     some (LO.out s2.2.1):Int×List UInt8×List Zz->Option (LO (Int×List UInt8×List Zz) (List UInt8) _)) (0,[],[]) fun o15=>
  some (o15,0)
def MM(fu:Nat)(x:List ze):Option (Str×Int):=
 za (Ak fu x) fun y1=>
 bif y1 != 0 then
  some ([],y1)
 else
  za (TA fu x) fun y2=>
  za (kM fu y2) fun y3=>
  some (y3.1,y3.2)
def sF(fu:Nat)(x:Za):Option (Str×Int):=
 za (Ru fu x) fun y1=>
 bif y1 != 0 then
  some ([],y1)
 else
  za (gy fu x.name) fun y2=>
  bif y2.2 != 0 then
   some ([],y2.2)
  else
   za (MM fu x.value) fun y3=>
   bif y3.2 != 0 then
    some ([],y3.2)
   else
    need (QV y2.1.length ([58,32]:Str).length)<|
    need (QV (y2.1++([58,32]:Str)).length y3.1.length)<|
    zO (X:=Str) (
      bif x.important then
       need (QV (y2.1++([58,32]:Str)++y3.1).length ([32,33,105,109,112,111,114,116,97,110,116]:Str).length)<|
       some (LX.out (y2.1++([58,32]:Str)++y3.1++([32,33,105,109,112,111,114,116,97,110,116]:Str)))
      else
       some (LX.out (y2.1++([58,32]:Str)++y3.1))) fun j4=>
    bif decide ((j4.length:Int)>4000)then
     some ([],28)
    else
     some (j4,0)
def tF(fu:Nat)(x:List Za):Option (Str×Int):=
 bif decide ((x.length:Int)>32)then
  some ([],4)
 else
  ZG fu (fun(s1:(Bool×Int)×List Str)=>
    bif decide (s1.1.2<(x.length:Int))then
     za (geti x s1.1.2) fun y2=>
     za (sF fu y2) fun y3=>
     bif y3.2==8 then
      some (LO.ret ([],y3.2))
     else
      need (Zb s1.2.length 1 16)<|
      some (LO.again ((bif s1.1.1 then true else y3.2 != 0,w64 (s1.1.2+1)),s1.2++[y3.1]))
    else
     some (LO.out (s1.1.1,s1.2)):(Bool×Int)×List Str->Option (LO ((Bool×Int)×List Str) (Bool×List Str) _)) ((false,0),[]) fun o4=>
  za (Rl (o4.2,[59,32])) fun y5=>
  bif bif o4.1 then true else decide ((y5.length:Int)>4000)then
   some ([],28)
  else
   some (y5,0)
def iM(fu:Nat)(x:zm):Option Int:=
 za (YC fu (⟨x.kind,x.name,x.num,x.decl,x.list⟩:zm)) fun y1=>
 bif y1 != 0 then
  za (LD fu (⟨x.kind,x.name,x.num,x.decl,x.list⟩:zm)) fun y2=>
  some y2
 else
  some 0
def su(x:Int×Int×List UInt8):Option (Int×List UInt8):=
 need (decide (0<=w64 (x.2.1 - 1))&&(decide (w64 (x.2.1 - 1)<20)&&decide (w64 (x.2.1 - 1)<(x.2.2.length:Int))))<|
 za (x.2.2[(w64 (x.2.1 - 1)).toNat]?) fun y1=>
 za (qE x.1) fun y2=>
 some (w64 (x.2.1 - 1),List.set x.2.2 (w64 (x.2.1 - 1)).toNat y2)
def SN(fu:Nat)(x:Int):Option (Str×Int):=
 za (uG fu [x]) fun y1=>
 bif y1 != 0 then
  some ([],y1)
 else
  zO (X:=Int) (
    bif decide (x<0)then
     some (LX.out (w64 (0 - x)))
    else
     some (LX.out x)) fun j2=>
  ZG fu (fun(s3:(Int×Int)×List UInt8×Int)=>
    bif decide (s3.1.2<3)then
     zO (X:=(Int×Int)×List UInt8×Int) (
       zO (X:=Int×List UInt8×Int) (
         bif bif Int.tmod s3.1.1 10 != 0 then true else decide (s3.2.2<20)then
          za (su (wu8 (w64 (48+Int.tmod s3.1.1 10)),s3.2.2,s3.2.1)) fun y4=>
          some (LX.out (s3.1.1,y4.2,y4.1))
         else
          some (LX.out (s3.1.1,s3.2.1,s3.2.2))) fun j5=>
       bif bif s3.1.2==2 then decide (j5.2.2<20)else false then
        za (su (46,j5.2.2,j5.2.1)) fun y6=>
        some (LX.out ((w64 (Int.tdiv j5.1 10),s3.1.2),y6.2,y6.1))
       else
        some (LX.out ((w64 (Int.tdiv j5.1 10),s3.1.2),j5.2.1,j5.2.2))) fun j7=>
     some (LO.again ((j7.1.1,w64 (j7.1.2+1)),j7.2.1,j7.2.2))
    else
     some (LO.out (s3.2.1,s3.2.2)):(Int×Int)×List UInt8×Int->Option (LO ((Int×Int)×List UInt8×Int) (List UInt8×Int) _)) ((Int.tmod j2 1000,0),List.replicate 20 (0:UInt8),20) fun o8=>
  ZG fu (fun(s9:Int×List UInt8×Int)=>
    za (su (wu8 (w64 (48+Int.tmod s9.1 10)),s9.2.2,s9.2.1)) fun y10=>
    bif decide (s9.1<10)then
     some (LO.out (y10.2,y10.1))
    else
     some (LO.again (w64 (Int.tdiv s9.1 10),y10.2,y10.1)):Int×List UInt8×Int->Option (LO (Int×List UInt8×Int) (List UInt8×Int) _)) (w64 (Int.tdiv j2 1000),o8.1,o8.2) fun o11=>
  zO (X:=List UInt8×Int) (
    bif decide (x<0)then
     za (su (45,o11.2,o11.1)) fun y12=>
     some (LX.out (y12.2,y12.1))
    else
     some (LX.out (o11.1,o11.2))) fun j13=>
  need (decide (0<=j13.2)&&decide (j13.2<=20)&&Nat.beq j13.1.length 20)<|
  need (decide (j13.2.toNat+(20 - j13.2.toNat)<=j13.1.length))<|
  some (List.take (20 - j13.2.toNat) (List.drop j13.2.toNat j13.1),0)
def uF(fu:Nat)(qb:zm->Option Str)(x:List zm×Str):Option Str:=
 ZG fu (fun(s1:Int×List Str)=>
   bif decide (s1.1<(x.1.length:Int))then
    za (geti x.1 s1.1) fun y2=>
    za (qb (⟨y2.kind,y2.name,y2.num,y2.decl,y2.list⟩:zm)) fun y3=>
    need (Zb s1.2.length 1 16)<|
    some (LO.again (w64 (s1.1+1),s1.2++[y3]))
   else
    some (LO.out s1.2):Int×List Str->Option (LO (Int×List Str) (List Str) _)) (0,[]) fun o4=>
 za (Rl (o4,x.2)) fun y5=>
 some y5
def FH(fu:Nat)(qb:zm->Option Str)(x:zm):Option Str:=
 bif x.kind==4 then
  za (gy fu x.name) fun y1=>
  some y1.1
 else
  bif x.kind==3 then
   za (geti x.list 0) fun y2=>
   za (qb (⟨y2.kind,y2.name,y2.num,y2.decl,y2.list⟩:zm)) fun y3=>
   need (QV ([110,111,116,32]:Str).length y3.length)<|
   some (([110,111,116,32]:Str)++y3)
  else
   bif x.kind==2 then
    za (uF fu qb (x.list,[44,32])) fun y4=>
    some y4
   else
    bif x.kind==1 then
     za (uF fu qb (x.list,[32,97,110,100,32])) fun y5=>
     some y5
    else
     za (SN fu x.num) fun y6=>
     bif x.kind==5 then
      need (QV ([40,109,105,110,45,119,105,100,116,104,58,32]:Str).length y6.1.length)<|
      need (QV (([40,109,105,110,45,119,105,100,116,104,58,32]:Str)++y6.1).length ([112,120,41]:Str).length)<|
      some (([40,109,105,110,45,119,105,100,116,104,58,32]:Str)++y6.1++([112,120,41]:Str))
     else
      need (QV ([40,109,97,120,45,119,105,100,116,104,58,32]:Str).length y6.1.length)<|
      need (QV (([40,109,97,120,45,119,105,100,116,104,58,32]:Str)++y6.1).length ([112,120,41]:Str).length)<|
      some (([40,109,97,120,45,119,105,100,116,104,58,32]:Str)++y6.1++([112,120,41]:Str))
def qb(fu:Nat):zm->Option Str:=Ue (FH fu) fu
def yH(fu:Nat)(Zl:zm×Bool->Option (Str×Bool))(x:zm×Bool):Option (Str×Bool):=
 za (Zl ((⟨x.1.kind,x.1.name,x.1.num,x.1.decl,x.1.list⟩:zm),x.2)) fun y1=>
 za (Pp (⟨x.1.kind,x.1.name,x.1.num,x.1.decl,x.1.list⟩:zm)) fun y2=>
 bif y2 then
  some (y1.1,y1.2)
 else
  need (QV ([40]:Str).length y1.1.length)<|
  need (QV (([40]:Str)++y1.1).length ([41]:Str).length)<|
  some (([40]:Str)++y1.1++([41]:Str),y1.2)
def rG(fu:Nat)(Zl:zm×Bool->Option (Str×Bool))(x:(List zm×Str)×Bool):Option (Str×Bool):=
 ZG fu (fun(s1:Int×Bool×List Str)=>
   bif decide (s1.1<(x.1.1.length:Int))then
    za (geti x.1.1 s1.1) fun y2=>
    za (yH fu Zl ((⟨y2.kind,y2.name,y2.num,y2.decl,y2.list⟩:zm),s1.2.1)) fun y3=>
    need (Zb s1.2.2.length 1 16)<|
    some (LO.again (w64 (s1.1+1),y3.2,s1.2.2++[y3.1]))
   else
    some (LO.out (s1.2.1,s1.2.2)):Int×Bool×List Str->Option (LO (Int×Bool×List Str) (Bool×List Str) _)) (0,x.2,[]) fun o4=>
 za (Rl (o4.2,x.1.2)) fun y5=>
 some (y5,o4.1)
def BI(fu:Nat)(Zl:zm×Bool->Option (Str×Bool))(x:zm×Bool):Option (Str×Bool):=
 bif x.1.kind==7 then
  za (sF fu x.1.decl) fun y1=>
  need (QV ([40]:Str).length y1.1.length)<|
  need (QV (([40]:Str)++y1.1).length ([41]:Str).length)<|
  some (([40]:Str)++y1.1++([41]:Str),bif x.2 then true else y1.2 != 0)
 else
  bif x.1.kind==8 then
   some ([40,117,110,107,110,111,119,110,41],x.2)
  else
   bif x.1.kind==3 then
    za (geti x.1.list 0) fun y2=>
    za (yH fu Zl ((⟨y2.kind,y2.name,y2.num,y2.decl,y2.list⟩:zm),x.2)) fun y3=>
    need (QV ([110,111,116,32]:Str).length y3.1.length)<|
    some (([110,111,116,32]:Str)++y3.1,y3.2)
   else
    bif x.1.kind==2 then
     za (rG fu Zl ((x.1.list,[32,111,114,32]),x.2)) fun y4=>
     some (y4.1,y4.2)
    else
     za (rG fu Zl ((x.1.list,[32,97,110,100,32]),x.2)) fun y5=>
     some (y5.1,y5.2)
def Zl(fu:Nat):zm×Bool->Option (Str×Bool):=Ue (BI fu) fu
def vF(fu:Nat)(x:zm):Option (Str×Int):=
 za (iM fu (⟨x.kind,x.name,x.num,x.decl,x.list⟩:zm)) fun y1=>
 bif y1 != 0 then
  some ([],y1)
 else
  zO (X:=Str×Bool) (
    za (YC fu (⟨x.kind,x.name,x.num,x.decl,x.list⟩:zm)) fun y2=>
    bif y2==0 then
     za (qb fu (⟨x.kind,x.name,x.num,x.decl,x.list⟩:zm)) fun y3=>
     some (LX.out (y3,false))
    else
     za (Zl fu ((⟨x.kind,x.name,x.num,x.decl,x.list⟩:zm),false)) fun y4=>
     some (LX.out (y4.1,y4.2))) fun j5=>
  bif bif j5.2 then true else decide ((j5.1.length:Int)>4000)then
   some ([],28)
  else
   some (j5.1,0)
def Z4(x:(Str×Str)×Bool×List UInt8):Option (Bool×List UInt8):=
 need (QV ([64]:Str).length x.1.1.length)<|
 need (QV (([64]:Str)++x.1.1).length ([32]:Str).length)<|
 need (QV (([64]:Str)++x.1.1++([32]:Str)).length x.1.2.length)<|
 za (zP ((([64]:Str)++x.1.1++([32]:Str)++x.1.2,0),x.2.1,x.2.2)) fun y1=>
 some (y1.1,y1.2)
def Jv(fu:Nat)(x:List Str×Bool×List UInt8):Option (Bool×List UInt8):=
 ZG fu (fun(s1:Int×Bool×List UInt8)=>
   bif decide (s1.1<(x.1.length:Int))then
    za (geti x.1 s1.1) fun y2=>
    zO (X:=Bool×List UInt8) (
      bif decide (s1.1>0)then
       za (zP (([46],0),s1.2.1,s1.2.2)) fun y3=>
       some (LX.out (y3.1,y3.2))
      else
       some (LX.out (s1.2.1,s1.2.2))) fun j4=>
    za (gy fu y2) fun y5=>
    za (zP ((y5.1,y5.2),j4.1,j4.2)) fun y6=>
    some (LO.again (w64 (s1.1+1),y6.1,y6.2))
   else
    some (LO.out (s1.2.1,s1.2.2)):Int×Bool×List UInt8->Option (LO (Int×Bool×List UInt8) (Bool×List UInt8) _)) (0,x.2.1,x.2.2) fun o7=>
 some (o7.1,o7.2)
def pQ(fu:Nat)(Zi:List zC×Bool×List UInt8->Option (Bool×List UInt8))(x:zC×Bool×List UInt8):Option (Bool×List UInt8):=
 bif x.1.kind==1 then
  za (MH fu x.1.selectors) fun y1=>
  za (zP ((y1.1,y1.2),x.2.1,x.2.2)) fun y2=>
  bif (x.1.decls.length:Int)==0 then
   za (zP (([32,123,125],0),y2.1,y2.2)) fun y3=>
   some (y3.1,y3.2)
  else
   za (zP (([32,123,32],0),y2.1,y2.2)) fun y4=>
   za (tF fu x.1.decls) fun y5=>
   za (zP ((y5.1,y5.2),y4.1,y4.2)) fun y6=>
   za (zP (([32,125],0),y6.1,y6.2)) fun y7=>
   some (y7.1,y7.2)
 else
  zO (X:=Bool×Bool×List UInt8) (
    bif x.1.kind==2 then
     some (LX.out (x.1.kind==2,x.2.1,x.2.2))
    else
     some (LX.out (x.1.kind==3,x.2.1,x.2.2))) fun j8=>
  bif j8.1 then
   zO (X:=Str×Bool×List UInt8) (
     bif x.1.kind==3 then
      some (LX.out ([115,117,112,112,111,114,116,115],j8.2.1,j8.2.2))
     else
      some (LX.out ([109,101,100,105,97],j8.2.1,j8.2.2))) fun j9=>
   za (vF fu (⟨x.1.cond.kind,x.1.cond.name,x.1.cond.num,x.1.cond.decl,x.1.cond.list⟩:zm)) fun y10=>
   zO (X:=Str×Bool×List UInt8) (
     bif !(y10.1==[])then
      need (QV y10.1.length ([32]:Str).length)<|
      some (LX.out (y10.1++([32]:Str),j9.2.1,j9.2.2))
     else
      some (LX.out (y10.1,j9.2.1,j9.2.2))) fun j11=>
   za (Z4 ((j9.1,[]),j11.2.1,j11.2.2)) fun y12=>
   za (zP ((j11.1,y10.2),y12.1,y12.2)) fun y13=>
   za (Zi (x.1.rules,y13.1,y13.2)) fun y14=>
   some (y14.1,y14.2)
  else
   bif x.1.kind==4 then
    za (Z4 (([108,97,121,101,114],[]),j8.2.1,j8.2.2)) fun y15=>
    ZG fu (fun(s16:Int×Bool×List UInt8)=>
      bif decide (s16.1<(x.1.names.length:Int))then
       za (geti x.1.names s16.1) fun y17=>
       za (Jv fu (y17,s16.2.1,s16.2.2)) fun y18=>
       za (zP (([32],0),y18.1,y18.2)) fun y19=>
       some (LO.again (w64 (s16.1+1),y19.1,y19.2))
      else
       some (LO.out (s16.2.1,s16.2.2)):Int×Bool×List UInt8->Option (LO (Int×Bool×List UInt8) (Bool×List UInt8) _)) (0,y15.1,y15.2) fun o20=>
    za (Zi (x.1.rules,o20.1,o20.2)) fun y21=>
    some (y21.1,y21.2)
   else
    bif x.1.kind==5 then
     za (Z4 (([108,97,121,101,114],[]),j8.2.1,j8.2.2)) fun y22=>
     ZG fu (fun(s23:Int×Bool×List UInt8)=>
       bif decide (s23.1<(x.1.names.length:Int))then
        za (geti x.1.names s23.1) fun y24=>
        zO (X:=Bool×List UInt8) (
          bif decide (s23.1>0)then
           za (zP (([44,32],0),s23.2.1,s23.2.2)) fun y25=>
           some (LX.out (y25.1,y25.2))
          else
           some (LX.out (s23.2.1,s23.2.2))) fun j26=>
        za (Jv fu (y24,j26.1,j26.2)) fun y27=>
        some (LO.again (w64 (s23.1+1),y27.1,y27.2))
       else
        some (LO.out (s23.2.1,s23.2.2)):Int×Bool×List UInt8->Option (LO (Int×Bool×List UInt8) (Bool×List UInt8) _)) (0,y22.1,y22.2) fun o28=>
     za (zP (([59],0),o28.1,o28.2)) fun y29=>
     some (y29.1,y29.2)
    else
     some (j8.2.1,j8.2.2)
def kI(fu:Nat)(Zi:List zC×Bool×List UInt8->Option (Bool×List UInt8))(x:List zC×Bool×List UInt8):Option (Bool×List UInt8):=
 bif (x.1.length:Int)==0 then
  za (zP (([123,125],0),x.2.1,x.2.2)) fun y1=>
  some (y1.1,y1.2)
 else
  za (zP (([123,32],0),x.2.1,x.2.2)) fun y2=>
  ZG fu (fun(s3:Int×Bool×List UInt8)=>
    bif decide (s3.1<(x.1.length:Int))then
     za (geti x.1 s3.1) fun y4=>
     za (pQ fu Zi ((⟨y4.kind,y4.selectors,y4.decls,(⟨y4.cond.kind,y4.cond.name,y4.cond.num,y4.cond.decl,y4.cond.list⟩:zm),y4.names,y4.rules⟩:zC),s3.2.1,s3.2.2)) fun y5=>
     za (zP (([32],0),y5.1,y5.2)) fun y6=>
     some (LO.again (w64 (s3.1+1),y6.1,y6.2))
    else
     some (LO.out (s3.2.1,s3.2.2)):Int×Bool×List UInt8->Option (LO (Int×Bool×List UInt8) (Bool×List UInt8) _)) (0,y2.1,y2.2) fun o7=>
  za (zP (([125],0),o7.1,o7.2)) fun y8=>
  some (y8.1,y8.2)
def Zi(fu:Nat):List zC×Bool×List UInt8->Option (Bool×List UInt8):=Ue (kI fu) fu
def UQ(fu:Nat)(x:zC×Bool):Option (Bool×List UInt8):=
 bif x.1.kind==1 then
  za (MH fu x.1.selectors) fun y1=>
  za (BQ ((y1.1,y1.2),x.2)) fun y2=>
  bif (x.1.decls.length:Int)==0 then
   za (zP (([32,123,125],0),y2.1,y2.2)) fun y3=>
   some (y3.1,y3.2)
  else
   za (zP (([32,123,32],0),y2.1,y2.2)) fun y4=>
   za (tF fu x.1.decls) fun y5=>
   za (zP ((y5.1,y5.2),y4.1,y4.2)) fun y6=>
   za (zP (([32,125],0),y6.1,y6.2)) fun y7=>
   some (y7.1,y7.2)
 else
  zO (X:=Bool×Bool×List UInt8) (
    bif x.1.kind==2 then
     some (LX.out (x.1.kind==2,x.2,[]))
    else
     some (LX.out (x.1.kind==3,x.2,[]))) fun j8=>
  bif j8.1 then
   zO (X:=Str×Bool×List UInt8) (
     bif x.1.kind==3 then
      some (LX.out ([115,117,112,112,111,114,116,115],j8.2.1,j8.2.2))
     else
      some (LX.out ([109,101,100,105,97],j8.2.1,j8.2.2))) fun j9=>
   za (vF fu (⟨x.1.cond.kind,x.1.cond.name,x.1.cond.num,x.1.cond.decl,x.1.cond.list⟩:zm)) fun y10=>
   zO (X:=Str×Bool×List UInt8) (
     bif !(y10.1==[])then
      need (QV y10.1.length ([32]:Str).length)<|
      some (LX.out (y10.1++([32]:Str),j9.2.1,j9.2.2))
     else
      some (LX.out (y10.1,j9.2.1,j9.2.2))) fun j11=>
   za (Z4 ((j9.1,[]),j11.2.1,j11.2.2)) fun y12=>
   za (zP ((j11.1,y10.2),y12.1,y12.2)) fun y13=>
   za (Zi fu (x.1.rules,y13.1,y13.2)) fun y14=>
   some (y14.1,y14.2)
  else
   bif x.1.kind==4 then
    za (Z4 (([108,97,121,101,114],[]),j8.2.1,j8.2.2)) fun y15=>
    ZG fu (fun(s16:Int×Bool×List UInt8)=>
      bif decide (s16.1<(x.1.names.length:Int))then
       za (geti x.1.names s16.1) fun y17=>
       za (Jv fu (y17,s16.2.1,s16.2.2)) fun y18=>
       za (zP (([32],0),y18.1,y18.2)) fun y19=>
       some (LO.again (w64 (s16.1+1),y19.1,y19.2))
      else
       some (LO.out (s16.2.1,s16.2.2)):Int×Bool×List UInt8->Option (LO (Int×Bool×List UInt8) (Bool×List UInt8) _)) (0,y15.1,y15.2) fun o20=>
    za (Zi fu (x.1.rules,o20.1,o20.2)) fun y21=>
    some (y21.1,y21.2)
   else
    bif x.1.kind==5 then
     za (Z4 (([108,97,121,101,114],[]),j8.2.1,j8.2.2)) fun y22=>
     ZG fu (fun(s23:Int×Bool×List UInt8)=>
       bif decide (s23.1<(x.1.names.length:Int))then
        za (geti x.1.names s23.1) fun y24=>
        zO (X:=Bool×List UInt8) (
          bif decide (s23.1>0)then
           za (zP (([44,32],0),s23.2.1,s23.2.2)) fun y25=>
           some (LX.out (y25.1,y25.2))
          else
           some (LX.out (s23.2.1,s23.2.2))) fun j26=>
        za (Jv fu (y24,j26.1,j26.2)) fun y27=>
        some (LO.again (w64 (s23.1+1),y27.1,y27.2))
       else
        some (LO.out (s23.2.1,s23.2.2)):Int×Bool×List UInt8->Option (LO (Int×Bool×List UInt8) (Bool×List UInt8) _)) (0,y22.1,y22.2) fun o28=>
     za (zP (([59],0),o28.1,o28.2)) fun y29=>
     some (y29.1,y29.2)
    else
     some (j8.2.1,j8.2.2)
def aM(fu:Nat)(x:zC):Option (Str×Int):=
 za (UQ fu ((⟨x.kind,x.selectors,x.decls,(⟨x.cond.kind,x.cond.name,x.cond.num,x.cond.decl,x.cond.list⟩:zm),x.names,x.rules⟩:zC),false)) fun y1=>
 za (zA (!y1.1) (pI (y1.1,y1.2)) (default:Int)) fun y2=>
 bif bif y1.1 then true else decide (y2>4000)then
  some ([],28)
 else
  za (strW (y1.1,y1.2)) fun y3=>
  some (y3,0)
def BN(fu:Nat)(x:ZN):Option (List Str×Int):=
 za (wM fu x) fun y1=>
 bif y1 != 0 then
  some ([],y1)
 else
  ZG fu (fun(s2:Int×List Str)=>
    bif decide (s2.1<(x.rules.length:Int))then
     za (geti x.rules s2.1) fun y3=>
     za (aM fu (⟨y3.kind,y3.selectors,y3.decls,(⟨y3.cond.kind,y3.cond.name,y3.cond.num,y3.cond.decl,y3.cond.list⟩:zm),y3.names,y3.rules⟩:zC)) fun y4=>
     bif y4.2 != 0 then
      some (LO.ret ([],y4.2))
     else
      need (Zb s2.2.length 1 16)<|
      some (LO.again (w64 (s2.1+1),s2.2++[y4.1]))
    else
     some (LO.out s2.2):Int×List Str->Option (LO (Int×List Str) (List Str) _)) (0,[]) fun o5=>
  some (o5,0)
def DN(fu:Nat)(x:ZN):Option (Str×Int):=
 za (BN fu x) fun y1=>
 bif y1.2 != 0 then
  some ([],y1.2)
 else
  za (Rl (y1.1,[10])) fun y2=>
  bif decide ((y2.length:Int)>4000)then
   some ([],28)
  else
   some (y2,0)
def BO(fu:Nat)(x:Str×Str):Option Bool:=
 za (KH fu x.1) fun y1=>
 za (DN fu y1.1) fun y2=>
 some (bif bif y1.2==0 then y2.2==0 else false then y2.1==x.2 else false)
def Vq(fu:Nat)(x:Unit):Option Bool:=
 za (BO fu ([65,62,66,123,99,58,100,59,69,58,102,125,64,109,101,100,105,97,123,125,64,108,97,121,101,114,32,120,46,121,123,122,123,125,125],[97,32,62,32,98,32,123,32,99,58,32,100,59,32,101,58,32,102,32,125,10,64,109,101,100,105,97,32,123,125,10,64,108,97,121,101,114,32,120,46,121,32,123,32,122,32,123,125,32,125])) fun y1=>
 some y1
def qY(x:List Str):Option Int:=
 Zc (fun(s1:Int)=>
   bif decide (s1<(x.length:Int))then
    za (geti x s1) fun y2=>
    za (iq y2) fun y3=>
    bif y3 then
     some (LO.ret s1)
    else
     some (LO.again (w64 (s1+1)))
   else
    some (LO.out ()):Int->Option (LO (Int) (Unit) _)) 0 fun o4=>
 some (-1)
def qC(x:List Str):Option Bool:=
 za (qY x) fun y1=>
 some (decide (y1>=0))
def Gz(x:List Str):Option Bool:=
 za (zA (bif decide ((x.length:Int)>0)then decide ((x.length:Int)<=16)else false) (qC x) (default:Bool)) fun y1=>
 some (bif bif decide ((x.length:Int)>0)then decide ((x.length:Int)<=16)else false then !y1 else false)
def Xz(x:List Str):Option Bool:=
 za (Gz x) fun y1=>
 some (!y1)
def EJ(x:List (List Str)):Option Int:=
 Zc (fun(s1:Int)=>
   bif decide (s1<(x.length:Int))then
    za (geti x s1) fun y2=>
    za (Xz y2) fun y3=>
    bif y3 then
     some (LO.ret s1)
    else
     some (LO.again (w64 (s1+1)))
   else
    some (LO.out ()):Int->Option (LO (Int) (Unit) _)) 0 fun o4=>
 some (-1)
def qQ(x:List (List Str)):Option Bool:=
 za (EJ x) fun y1=>
 some (decide (y1>=0))
def MC(qX:List zg->Option Int)(x:List zg):Option Int:=
 Zc (fun(s1:Int×Int)=>
   bif decide (s1.2<(x.length:Int))then
    za (geti x s1.2) fun y2=>
    Zc (fun(s3:Int×Int)=>
      bif decide (s3.2<(y2.parts.length:Int))then
       za (geti y2.parts s3.2) fun y4=>
       Zc (fun(s5:Int×Int)=>
         bif decide (s5.2<(y4.simples.length:Int))then
          zO (X:=Int×Int) (
            za (geti y4.simples s5.2) fun y6=>
            bif bif y6.kind==3 then true else bif decide (y6.kind>=9)then !(bif bif bif y6.kind==9 then true else y6.kind==10 then !y6.of_ else false then y6.anb.a==0&&(y6.anb.b==1&&true)else false)else false then
             za (qX y6.list) fun y7=>
             some (LX.out (if w64 (y7+1)>s5.1 then w64 (y7+1)else s5.1,s5.2))
            else
             some (LX.out (s5.1,s5.2))) fun j8=>
          some (LO.again (j8.1,w64 (j8.2+1)))
         else
          some (LO.out s5.1):Int×Int->Option (LO (Int×Int) (Int) _)) (s3.1,0) fun o9=>
       some (LO.again (o9,w64 (s3.2+1)))
      else
       some (LO.out s3.1):Int×Int->Option (LO (Int×Int) (Int) _)) (s1.1,0) fun o10=>
    some (LO.again (o10,w64 (s1.2+1)))
   else
    some (LO.out s1.1):Int×Int->Option (LO (Int×Int) (Int) _)) (0,0) fun o11=>
 some o11
def qX:List zg->Option Int:=recE (MC)
def Bl(x:Str):Option Str:=
 need (decide (x.length<=maxLen))<|
 Zc (fun(s1:Int×List UInt8)=>
   bif decide (s1.1<(x.length:Int))then
    zO (X:=Int×List UInt8) (
      need (decide (0<=s1.1)&&decide (s1.1<(s1.2.length:Int)))<|
      za s1.2[s1.1.toNat]? fun y2=>
      bif bif decide (65<=(y2.toNat:Int))then decide ((y2.toNat:Int)<=90)else false then
       need (decide (0<=s1.1)&&decide (s1.1<(s1.2.length:Int)))<|
       za s1.2[s1.1.toNat]? fun y3=>
       need (decide (0<=s1.1)&&decide (s1.1<(s1.2.length:Int)))<|
       za s1.2[s1.1.toNat]? fun y4=>
       za (qE (ibOr IntKind.u8 (y3.toNat:Int) 32)) fun y5=>
       some (LX.out (s1.1,List.set s1.2 s1.1.toNat y5))
      else
       some (LX.out (s1.1,s1.2))) fun j6=>
    some (LO.again (w64 (j6.1+1),j6.2))
   else
    some (LO.out s1.2):Int×List UInt8->Option (LO (Int×List UInt8) (List UInt8) _)) (0,x) fun o7=>
 some o7
def jq(x:Str):Option Bool:=
 za (Hl x) fun y1=>
 za (zA y1 (Bl x) (default:Str)) fun y2=>
 some (bif y1 then y2==x else false)
def DI(zG:zg×zh×Bool->Option Bool)(x:zg×zh×zx):Option Bool:=
 za (zG ((⟨x.1.lead,x.1.parts,x.1.combs⟩:zg),x.2.1,x.2.2.kind==14)) fun y1=>
 some (!y1)
def QU(zG:zg×zh×Bool->Option Bool)(x:List zg×zh×zx):Option Int:=
 Zc (fun(s1:Int)=>
   bif decide (s1<(x.1.length:Int))then
    za (geti x.1 s1) fun y2=>
    za (DI zG ((⟨y2.lead,y2.parts,y2.combs⟩:zg),x.2.1,(⟨x.2.2.kind,x.2.2.name,x.2.2.op,x.2.2.value,x.2.2.fold,x.2.2.anb,x.2.2.of_,x.2.2.list⟩:zx))) fun y3=>
    bif y3 then
     some (LO.ret s1)
    else
     some (LO.again (w64 (s1+1)))
   else
    some (LO.out ()):Int->Option (LO (Int) (Unit) _)) 0 fun o4=>
 some (-1)
def qw(zG:zg×zh×Bool->Option Bool)(x:List zg×zh×zx):Option Bool:=
 za (QU zG (x.1,x.2.1,(⟨x.2.2.kind,x.2.2.name,x.2.2.op,x.2.2.value,x.2.2.fold,x.2.2.anb,x.2.2.of_,x.2.2.list⟩:zx))) fun y1=>
 some (decide (y1>=0))
def wu(zG:zg×zh×Bool->Option Bool)(x:zx×zh):Option Bool:=
 za (ou (⟨x.1.kind,x.1.name,x.1.op,x.1.value,x.1.fold,x.1.anb,x.1.of_,x.1.list⟩:zx)) fun y1=>
 zO (X:=Unit) (
   bif y1.1 then
    za (Ql (x.2,x.1.kind)) fun y2=>
    za (zA (!(bif !y2.2 then true else bif !y1.2 then(x.1.list.length:Int)==0 else false)) (qw zG (x.1.list,y2.1,(⟨x.1.kind,x.1.name,x.1.op,x.1.value,x.1.fold,x.1.anb,x.1.of_,x.1.list⟩:zx))) (default:Bool)) fun y3=>
    bif bif bif !y2.2 then true else bif !y1.2 then(x.1.list.length:Int)==0 else false then true else y3 then
     some (LX.ret false)
    else
     some (LX.out ())
   else
    bif decide ((x.1.list.length:Int)>0)then
     some (LX.ret false)
    else
     some (LX.out ())) fun j4=>
 bif bif bif !(x.1.kind==3)then bif bif x.1.op != 0 then true else !(x.1.value==[])then true else x.1.fold else false then true else bif !(bif x.1.kind==9 then true else x.1.kind==10)then bif x.1.of_ then true else !(x.1.anb.a==0&&(x.1.anb.b==0&&true))else false then
  some false
 else
  zO (X:=Bool) (
    bif x.1.kind==1 then
     some (LX.out (x.1.kind==1))
    else
     some (LX.out (x.1.kind==2))) fun j5=>
  bif j5 then
   za (Hl x.1.name) fun y6=>
   some y6
  else
   bif x.1.kind==3 then
    za (jq x.1.name) fun y7=>
    za (zA (bif y7 then decide (x.1.op<=6)else false) (Um (x.1.value,400)) (default:Bool)) fun y8=>
    some (bif bif bif y7 then decide (x.1.op<=6)else false then !y8 else false then bif x.1.op != 0 then true else bif x.1.value==[]then !x.1.fold else false else false)
   else
    za (zA (!(!(bif x.1.kind==9 then true else x.1.kind==10))&&(bif bif x.1.name==[]then decide (x.1.kind>=4)else false then decide (x.1.kind<=14)else false)) (Jm x.1.anb) (default:Int)) fun y9=>
    some (bif bif bif x.1.name==[]then decide (x.1.kind>=4)else false then decide (x.1.kind<=14)else false then bif !(bif x.1.kind==9 then true else x.1.kind==10)then true else y9==0 else false)
def NC(zG:zg×zh×Bool->Option Bool)(x:zy×zh):Option Bool:=
 za (zA (bif !(x.1.tag==[])then !(x.1.tag==[42])else false) (jq x.1.tag) (default:Bool)) fun y1=>
 bif bif bif bif !(x.1.tag==[])then !(x.1.tag==[42])else false then !y1 else false then true else decide ((x.1.simples.length:Int)>64)then
  some false
 else
  Zc (fun(s2:Int)=>
    bif decide (s2<(x.1.simples.length:Int))then
     za (geti x.1.simples s2) fun y3=>
     za (wu zG ((⟨y3.kind,y3.name,y3.op,y3.value,y3.fold,y3.anb,y3.of_,y3.list⟩:zx),x.2)) fun y4=>
     bif !y4 then
      some (LO.ret false)
     else
      some (LO.again (w64 (s2+1)))
    else
     some (LO.out ()):Int->Option (LO (Int) (Unit) _)) 0 fun o5=>
  some (bif !(x.1.tag==[])then true else decide ((x.1.simples.length:Int)>0))
def lH(zG:zg×zh×Bool->Option Bool)(x:zy×zh):Option Bool:=
 za (NC zG ((⟨x.1.tag,x.1.simples⟩:zy),x.2)) fun y1=>
 some (!y1)
def AJ(zG:zg×zh×Bool->Option Bool)(x:List zy×zh):Option Int:=
 Zc (fun(s1:Int)=>
   bif decide (s1<(x.1.length:Int))then
    za (geti x.1 s1) fun y2=>
    za (lH zG ((⟨y2.tag,y2.simples⟩:zy),x.2)) fun y3=>
    bif y3 then
     some (LO.ret s1)
    else
     some (LO.again (w64 (s1+1)))
   else
    some (LO.out ()):Int->Option (LO (Int) (Unit) _)) 0 fun o4=>
 some (-1)
def qB(zG:zg×zh×Bool->Option Bool)(x:List zy×zh):Option Bool:=
 za (AJ zG (x.1,x.2)) fun y1=>
 some (decide (y1>=0))
def yB(zG:zg×zh×Bool->Option Bool)(x:zg×zh×Bool):Option Bool:=
 bif bif bif bif !(x.2.2==(x.1.lead != 0))then true else decide (x.1.lead>4)then true else w64 ((x.1.combs.length:Int)+1) != (x.1.parts.length:Int)then true else decide ((x.1.parts.length:Int)>64)then
  some false
 else
  Zc (fun(s1:Int)=>
    bif decide (s1<(x.1.combs.length:Int))then
     za (geti x.1.combs s1) fun y2=>
     bif bif decide ((y2.toNat:Int)<1)then true else decide ((y2.toNat:Int)>4)then
      some (LO.ret false)
     else
      some (LO.again (w64 (s1+1)))
    else
     some (LO.out ()):Int->Option (LO (Int) (Unit) _)) 0 fun o3=>
  za (qB zG (x.1.parts,x.2.1)) fun y4=>
  some (!y4)
def zG:zg×zh×Bool->Option Bool:=recE (yB)
def mH(x:zg):Option Bool:=
 za (zG ((⟨x.lead,x.parts,x.combs⟩:zg),(⟨0,false⟩:zh),false)) fun y1=>
 some (!y1)
def wI(x:List zg):Option Int:=
 Zc (fun(s1:Int)=>
   bif decide (s1<(x.length:Int))then
    za (geti x s1) fun y2=>
    za (mH (⟨y2.lead,y2.parts,y2.combs⟩:zg)) fun y3=>
    bif y3 then
     some (LO.ret s1)
    else
     some (LO.again (w64 (s1+1)))
   else
    some (LO.out ()):Int->Option (LO (Int) (Unit) _)) 0 fun o4=>
 some (-1)
def qI(x:List zg):Option Bool:=
 za (wI x) fun y1=>
 some (decide (y1>=0))
def AC(Qv:List zg->Option Int)(x:List zg):Option Int:=
 Zc (fun(s1:Int×Int)=>
   bif decide (s1.2<(x.length:Int))then
    za (geti x s1.2) fun y2=>
    Zc (fun(s3:Int×Int)=>
      bif decide (s3.2<(y2.parts.length:Int))then
       za (geti y2.parts s3.2) fun y4=>
       Zc (fun(s5:Int×Int)=>
         bif decide (s5.2<(y4.simples.length:Int))then
          za (geti y4.simples s5.2) fun y6=>
          za (Qv y6.list) fun y7=>
          some (LO.again (w64 (s5.1+y7),w64 (s5.2+1)))
         else
          some (LO.out s5.1):Int×Int->Option (LO (Int×Int) (Int) _)) (s3.1,0) fun o8=>
       some (LO.again (o8,w64 (s3.2+1)))
      else
       some (LO.out s3.1):Int×Int->Option (LO (Int×Int) (Int) _)) (s1.1,0) fun o9=>
    some (LO.again (o9,w64 (s1.2+1)))
   else
    some (LO.out s1.1):Int×Int->Option (LO (Int×Int) (Int) _)) ((x.length:Int),0) fun o10=>
 some o10
def Qv:List zg->Option Int:=recE (AC)
def XA(x:List zg):Option Int:=
 za (zA (!((x.length:Int)==0)) (qI x) (default:Bool)) fun y1=>
 bif bif (x.length:Int)==0 then true else y1 then
  some 8
 else
  za (Qv x) fun y2=>
  bif decide (y2>64)then
   some 4
  else
   some 0
def uy(Ni:List ze×Int->Option zU)(x:List ze×Int):Option zU:=
 Zc (fun(s1:Int×zU)=>
   bif decide (s1.1<(x.1.length:Int))then
    zO (X:=Int×zU) (
      za (geti x.1 s1.1) fun y2=>
      za (yj y2.token.kind) fun y3=>
      zO (X:=zU) (
        bif bif bif x.2 != 0 then y2.token.kind==x.2 else false then true else bif y3==0 then decide ((y2.list.length:Int)>0)else false then
         some (LX.out (⟨s1.2.depth,w64 (s1.2.tokens+1),true⟩:zU))
        else
         some (LX.out (⟨s1.2.depth,w64 (s1.2.tokens+1),s1.2.bad⟩:zU))) fun j4=>
      bif y3==0 then
       some (LX.out (s1.1,j4))
      else
       za (Ni (y2.list,y3)) fun y5=>
       some (LX.out (s1.1,(⟨if w64 (y5.depth+1)>j4.depth then w64 (y5.depth+1)else j4.depth,w64 (w64 (j4.tokens+y5.tokens)+1),bif j4.bad then true else y5.bad⟩:zU)))) fun j6=>
    some (LO.again (w64 (j6.1+1),j6.2))
   else
    some (LO.out s1.2):Int×zU->Option (LO (Int×zU) (zU) _)) (0,(⟨0,0,false⟩:zU)) fun o7=>
 some o7
def Ni:List ze×Int->Option zU:=recE (uy)
def Rt(x:List ze):Option Int:=
 za (Ni (x,0)) fun y1=>
 bif decide (y1.depth>16)then
  some 20
 else
  bif decide (y1.tokens>1500)then
   some 4
  else
   bif y1.bad then
    some 8
   else
    some 0
def jk(x:List ze):Option (Int×Int):=
 za (Rt x) fun y1=>
 bif y1 != 0 then
  some (0,y1)
 else
  za (Ni (x,0)) fun y2=>
  some (y2.depth,0)
def nA(uj:List ze×List zk->Option (List zk))(x:List ze×List zk):Option (List zk):=
 Zc (fun(s1:Int×List zk)=>
   bif decide (s1.1<(x.1.length:Int))then
    zO (X:=Int×List zk) (
      za (geti x.1 s1.1) fun y2=>
      need (Zb s1.2.length 1 56)<|
      za (yj y2.token.kind) fun y3=>
      bif y3 != 0 then
       za (uj (y2.list,s1.2++[y2.token])) fun y4=>
       need (Zb y4.length 1 56)<|
       some (LX.out (s1.1,y4++[(⟨y3,[],0,[],false⟩:zk)]))
      else
       some (LX.out (s1.1,s1.2++[y2.token]))) fun j5=>
    some (LO.again (w64 (j5.1+1),j5.2))
   else
    some (LO.out s1.2):Int×List zk->Option (LO (Int×List zk) (List zk) _)) (0,x.2) fun o6=>
 some o6
def uj:List ze×List zk->Option (List zk):=recE (nA)
def wy(x:List ze):Option (List zk):=
 Zc (fun(s1:Int×List zk)=>
   bif decide (s1.1<(x.length:Int))then
    zO (X:=Int×List zk) (
      za (geti x s1.1) fun y2=>
      need (Zb s1.2.length 1 56)<|
      za (yj y2.token.kind) fun y3=>
      bif y3 != 0 then
       za (uj (y2.list,s1.2++[y2.token])) fun y4=>
       need (Zb y4.length 1 56)<|
       some (LX.out (s1.1,y4++[(⟨y3,[],0,[],false⟩:zk)]))
      else
       some (LX.out (s1.1,s1.2++[y2.token]))) fun j5=>
    some (LO.again (w64 (j5.1+1),j5.2))
   else
    some (LO.out s1.2):Int×List zk->Option (LO (Int×List zk) (List zk) _)) (0,[]) fun o6=>
 some o6
def Jy(x:List ze):Option (List zk×Int):=
 za (Rt x) fun y1=>
 bif y1 != 0 then
  some ([],y1)
 else
  za (wy x) fun y2=>
  some (y2,0)
def iy(x:Str):Option Bool:=
 za (zA (!(bif x==[]then true else decide ((x.length:Int)>64))) (strings_IndexByte (x,0)) (default:Int)) fun y1=>
 bif bif bif x==[]then true else decide ((x.length:Int)>64)then true else decide (y1>=0)then
  some false
 else
  za (strings_HasPrefix (x,[45,45])) fun y2=>
  bif y2 then
   some (!(x==[45,45]))
  else
   za (Bl x) fun y3=>
   some (x==y3)
def Bz(x:Str×Str):Option Bool:=
 za (Bl x.1) fun y1=>
 za (Bl x.2) fun y2=>
 some (y1==y2)
def ay(x:List zk):Option Int:=
 za (geti x 0) fun y1=>
 bif bif y1.kind==9 then y1.text==[92]else false then
  za (Qc ((1,13),x)) fun y2=>
  bif !y2 then
   some 0
  else
   some 2
 else
  za (zA (y1.kind==2) (Bz (y1.text,[117,114,108])) (default:Bool)) fun y3=>
  bif bif y1.kind==2 then y3 else false then
   zO (X:=Int) (
     za (Qc ((1,13),x)) fun y4=>
     bif y4 then
      some (LX.out 2)
     else
      some (LX.out 1)) fun j5=>
   za (Qc ((j5,5),x)) fun y6=>
   bif !y6 then
    some 0
   else
    some (w64 (j5+1))
  else
   some 1
def Ut(x:List zk):Option Int:=
 bif decide ((x.length:Int)>1500)then
  some 4
 else
  Zc (fun(s1:Int)=>
    bif decide (s1<(x.length:Int))then
     za (geti x s1) fun y2=>
     za (Np y2) fun y3=>
     need (decide (0<=s1)&&decide (s1<=(x.length:Int))|| !(!(!y3)))<|
     za (zA (!(!y3)) (ay (List.drop s1.toNat x)) (default:Int)) fun y4=>
     bif bif !y3 then true else y4==0 then
      some (LO.ret 8)
     else
      some (LO.again (w64 (s1+1)))
    else
     some (LO.out ()):Int->Option (LO (Int) (Unit) _)) 0 fun o5=>
  some 0
def Dv(Zn:List ze->Option Bool)(x:ze):Option Bool:=
 za (QE ((⟨x.token,x.list⟩:ze),20)) fun y1=>
 za (zA (!y1) (QE ((⟨x.token,x.list⟩:ze),22)) (default:Bool)) fun y2=>
 za (zA (!(bif y1 then true else y2)) (QE ((⟨x.token,x.list⟩:ze),24)) (default:Bool)) fun y3=>
 za (zA (!(bif bif y1 then true else y2 then true else y3)) (Zn x.list) (default:Bool)) fun y4=>
 some (bif bif bif y1 then true else y2 then true else y3 then true else y4)
def lI(Zn:List ze->Option Bool)(x:List ze):Option Int:=
 Zc (fun(s1:Int)=>
   bif decide (s1<(x.length:Int))then
    za (geti x s1) fun y2=>
    za (Dv Zn (⟨y2.token,y2.list⟩:ze)) fun y3=>
    bif y3 then
     some (LO.ret s1)
    else
     some (LO.again (w64 (s1+1)))
   else
    some (LO.out ()):Int->Option (LO (Int) (Unit) _)) 0 fun o4=>
 some (-1)
def BJ(Zn:List ze->Option Bool)(x:List ze):Option Bool:=
 za (lI Zn x) fun y1=>
 some (decide (y1>=0))
def UB(Zn:List ze->Option Bool)(x:List ze):Option Bool:=
 za (BJ Zn x) fun y1=>
 some y1
def Zn:List ze->Option Bool:=recE (UB)
def IJ(x:List ze):Option Int:=
 Zc (fun(s1:Int)=>
   bif decide (s1<(x.length:Int))then
    za (geti x s1) fun y2=>
    za (gu (⟨y2.token,y2.list⟩:ze)) fun y3=>
    bif y3 then
     some (LO.ret s1)
    else
     some (LO.again (w64 (s1+1)))
   else
    some (LO.out ()):Int->Option (LO (Int) (Unit) _)) 0 fun o4=>
 some (-1)
def qJ(x:List ze):Option Bool:=
 za (IJ x) fun y1=>
 some (decide (y1>=0))
def nk(x:Za):Option Int:=
 za (Jy x.value) fun y1=>
 za (iy x.name) fun y2=>
 za (zA (!(bif !y2 then true else y1.2 != 0)) (Ut y1.1) (default:Int)) fun y3=>
 za (zA (!(bif bif !y2 then true else y1.2 != 0 then true else y3 != 0)) (Zn x.value) (default:Bool)) fun y4=>
 bif bif bif bif !y2 then true else y1.2 != 0 then true else y3 != 0 then true else y4 then
  some 8
 else
  za (qJ x.value) fun y5=>
  bif y5 then
   some 8
  else
   za (zA ((x.value.length:Int)==0) (strings_HasPrefix (x.name,[45,45])) (default:Bool)) fun y6=>
   za (zA (decide ((x.value.length:Int)>0)&& !(bif (x.value.length:Int)==0 then !y6 else false)) (geti x.value 0) (default:ze)) fun y7=>
   za (zA (decide ((x.value.length:Int)>0)&& !(bif (x.value.length:Int)==0 then !y6 else false)) (QE ((⟨y7.token,y7.list⟩:ze),13)) (default:Bool)) fun y8=>
   za (zA (!y8&&(decide ((x.value.length:Int)>0)&& !(bif (x.value.length:Int)==0 then !y6 else false))) (geti x.value (w64 ((x.value.length:Int) - 1))) (default:ze)) fun y9=>
   za (zA (!y8&&(decide ((x.value.length:Int)>0)&& !(bif (x.value.length:Int)==0 then !y6 else false))) (QE ((⟨y9.token,y9.list⟩:ze),13)) (default:Bool)) fun y10=>
   bif bif bif (x.value.length:Int)==0 then !y6 else false then true else bif decide ((x.value.length:Int)>0)then bif y8 then true else y10 else false then
    some 8
   else
    some 0
def xA(Yj:zm->Option Int)(x:zm):Option Int:=
 zO (X:=Int) (
   bif bif x.kind==5 then true else x.kind==6 then
    some (LX.out 1)
   else
    some (LX.out 0)) fun j1=>
 Zc (fun(s2:Int×Int)=>
   bif decide (s2.2<(x.list.length:Int))then
    za (geti x.list s2.2) fun y3=>
    za (Yj (⟨y3.kind,y3.name,y3.num,y3.decl,y3.list⟩:zm)) fun y4=>
    some (LO.again (if y4>s2.1 then y4 else s2.1,w64 (s2.2+1)))
   else
    some (LO.out s2.1):Int×Int->Option (LO (Int×Int) (Int) _)) (j1,0) fun o5=>
 some o5
def Yj:zm->Option Int:=recE (xA)
def slices_Index_string(x:List Str×Str):Option Int:=
 Zc (fun(s1:Int)=>
   bif decide (s1<(x.1.length:Int))then
    za (geti x.1 s1) fun y2=>
    bif x.2==y2 then
     some (LO.ret s1)
    else
     some (LO.again (w64 (s1+1)))
   else
    some (LO.out ()):Int->Option (LO (Int) (Unit) _)) 0 fun o3=>
 some (-1)
def slices_Contains_string(x:List Str×Str):Option Bool:=
 za (slices_Index_string (x.1,x.2)) fun y1=>
 some (decide (y1>=0))
def Su(x:Str):Option Bool:=
 za (slices_Contains_string ([[],[97,110,100],[111,114],[110,111,116],[111,110,108,121]],x)) fun y1=>
 za (zA (bif !y1 then decide ((x.length:Int)<=64)else false) (Bl x) (default:Str)) fun y2=>
 za (zA (bif bif !y1 then decide ((x.length:Int)<=64)else false then y2==x else false) (strings_IndexByte (x,0)) (default:Int)) fun y3=>
 some (bif bif bif !y1 then decide ((x.length:Int)<=64)else false then y2==x else false then decide (y3<0)else false)
def VG(x:List Int):Option Int:=
 Zc (fun(s1:Int)=>
   bif decide (s1<(x.length:Int))then
    za (geti x s1) fun y2=>
    bif bif decide (y2<(-1000000000000))then true else decide (y2>1000000000000)then
     some (LO.ret 8)
    else
     some (LO.again (w64 (s1+1)))
   else
    some (LO.out ()):Int->Option (LO (Int) (Unit) _)) 0 fun o3=>
 some 0
def Nu(x:Int):Option Int:=
 za (VG [x]) fun y1=>
 some y1
def Yt(x:zm):Option Bool:=
 za (zA (!(x.kind != 1)) (Qo (⟨x.kind,x.name,x.num,x.decl,x.list⟩:zm)) (default:Bool)) fun y1=>
 bif bif bif x.kind != 1 then true else !y1 then true else(x.list.length:Int)==0 then
  some false
 else
  Zc (fun(s2:Int)=>
    bif decide (s2<(x.list.length:Int))then
     zO (X:=Int) (
       za (geti x.list s2) fun y3=>
       za (zA (!(decide ((y3.list.length:Int)>0))) (Qo (⟨y3.kind,[],0,y3.decl,y3.list⟩:zm)) (default:Bool)) fun y4=>
       bif bif decide ((y3.list.length:Int)>0)then true else !y4 then
        some (LX.ret (LO.ret false))
       else
        bif y3.kind==4 then
         za (zA (!(bif decide (s2>0)then true else y3.num != 0)) (Su y3.name) (default:Bool)) fun y5=>
         bif bif bif decide (s2>0)then true else y3.num != 0 then true else !y5 then
          some (LX.ret (LO.ret false))
         else
          some (LX.out s2)
        else
         zO (X:=Bool) (
           bif y3.kind==5 then
            some (LX.out (y3.kind==5))
           else
            some (LX.out (y3.kind==6))) fun j6=>
         bif j6 then
          za (zA (!(bif !(y3.name==[])then true else decide (y3.num<0))) (Nu y3.num) (default:Int)) fun y7=>
          bif bif bif !(y3.name==[])then true else decide (y3.num<0)then true else y7 != 0 then
           some (LX.ret (LO.ret false))
          else
           some (LX.out s2)
         else
          some (LX.ret (LO.ret false))) fun j8=>
     some (LO.again (w64 (j8+1)))
    else
     some (LO.out ()):Int->Option (LO (Int) (Unit) _)) 0 fun o9=>
  some true
def Ry(x:zm):Option Bool:=
 bif x.kind==3 then
  za (Qo (⟨x.kind,x.name,x.num,x.decl,x.list⟩:zm)) fun y1=>
  za (zA (bif y1 then(x.list.length:Int)==1 else false) (geti x.list 0) (default:zm)) fun y2=>
  za (zA (bif y1 then(x.list.length:Int)==1 else false) (Yt (⟨y2.kind,y2.name,y2.num,y2.decl,y2.list⟩:zm)) (default:Bool)) fun y3=>
  za (zA (bif bif y1 then(x.list.length:Int)==1 else false then y3 else false) (geti x.list 0) (default:zm)) fun y4=>
  za (zA (bif bif y1 then(x.list.length:Int)==1 else false then y3 else false) (ut (⟨y4.kind,y4.name,y4.num,y4.decl,y4.list⟩:zm)) (default:Bool)) fun y5=>
  some (bif bif bif y1 then(x.list.length:Int)==1 else false then y3 else false then y5 else false)
 else
  za (Yt (⟨x.kind,x.name,x.num,x.decl,x.list⟩:zm)) fun y6=>
  some y6
def tC(x:zm):Option Bool:=
 za (Ry (⟨x.kind,x.name,x.num,x.decl,x.list⟩:zm)) fun y1=>
 some (!y1)
def sI(x:List zm):Option Int:=
 Zc (fun(s1:Int)=>
   bif decide (s1<(x.length:Int))then
    za (geti x s1) fun y2=>
    za (tC (⟨y2.kind,y2.name,y2.num,y2.decl,y2.list⟩:zm)) fun y3=>
    bif y3 then
     some (LO.ret s1)
    else
     some (LO.again (w64 (s1+1)))
   else
    some (LO.out ()):Int->Option (LO (Int) (Unit) _)) 0 fun o4=>
 some (-1)
def Qi(x:List zm):Option Bool:=
 za (sI x) fun y1=>
 some (decide (y1>=0))
def jB(x:zm):Option Int:=
 za (zA (bif bif x.kind==2 then decide ((x.list.length:Int)>0)else false then decide ((x.list.length:Int)<=64)else false) (Qi x.list) (default:Bool)) fun y1=>
 za (Qo (⟨x.kind,x.name,x.num,x.decl,x.list⟩:zm)) fun y2=>
 bif bif !y2 then true else bif !(bif x.kind==1 then(x.list.length:Int)==0 else false)then !(bif bif bif x.kind==2 then decide ((x.list.length:Int)>0)else false then decide ((x.list.length:Int)<=64)else false then !y1 else false)else false then
  some 8
 else
  some 0
def Iq(Oi:zm->Option Int)(x:zm):Option Int:=
 bif x.kind==7 then
  za (jk x.decl.value) fun y1=>
  some (w64 (y1.1+1))
 else
  bif x.kind==8 then
   some 1
  else
   Zc (fun(s2:Int×Int)=>
     bif decide (s2.2<(x.list.length:Int))then
      za (geti x.list s2.2) fun y3=>
      za (Oi (⟨y3.kind,y3.name,y3.num,y3.decl,y3.list⟩:zm)) fun y4=>
      zO (X:=Int×Int) (
        bif bif y3.kind != 7 then y3.kind != 8 else false then
         some (LX.out (s2.1,w64 (y4+1)))
        else
         some (LX.out (s2.1,y4))) fun j5=>
      some (LO.again (if j5.2>j5.1 then j5.2 else j5.1,w64 (s2.2+1)))
     else
      some (LO.out s2.1):Int×Int->Option (LO (Int×Int) (Int) _)) (0,0) fun o6=>
   some o6
def Oi:zm->Option Int:=recE (Iq)
def Gq(Yh:zm×Int->Option ((Int×Bool)×Int))(x:zm×Int):Option ((Int×Bool)×Int):=
 bif decide (w64 (x.2+1)>1500)then
  some ((0,false),w64 (x.2+1))
 else
  bif x.1.kind==7 then
   za (jk x.1.decl.value) fun y1=>
   za (zA (bif bif bif (x.1.list.length:Int)==0 then x.1.name==[]else false then x.1.num==0 else false then y1.2==0 else false) (nk x.1.decl) (default:Int)) fun y2=>
   some ((w64 (y1.1+1),bif bif bif bif (x.1.list.length:Int)==0 then x.1.name==[]else false then x.1.num==0 else false then y1.2==0 else false then y2==0 else false),w64 (x.2+1))
  else
   bif x.1.kind==8 then
    za (zA ((x.1.list.length:Int)==0) (Qo (⟨x.1.kind,x.1.name,x.1.num,x.1.decl,x.1.list⟩:zm)) (default:Bool)) fun y3=>
    some ((1,bif (x.1.list.length:Int)==0 then y3 else false),w64 (x.2+1))
   else
    zO (X:=Bool) (
      bif x.1.kind==3 then
       some (LX.out (x.1.kind==3))
      else
       bif x.1.kind==1 then
        some (LX.out (x.1.kind==1))
       else
        some (LX.out (x.1.kind==2))) fun j4=>
    bif j4 then
     za (Qo (⟨x.1.kind,x.1.name,x.1.num,x.1.decl,x.1.list⟩:zm)) fun y5=>
     bif bif bif !y5 then true else bif x.1.kind==3 then(x.1.list.length:Int) != 1 else false then true else bif x.1.kind != 3 then decide ((x.1.list.length:Int)<2)else false then
      some ((0,false),w64 (x.2+1))
     else
      Zc (fun(s6:(Int×Int)×Int)=>
        bif decide (s6.1.2<(x.1.list.length:Int))then
         za (geti x.1.list s6.1.2) fun y7=>
         za (Yh ((⟨y7.kind,y7.name,y7.num,y7.decl,y7.list⟩:zm),s6.2)) fun y8=>
         bif !y8.1.2 then
          some (LO.ret ((0,false),y8.2))
         else
          zO (X:=Int×Int) (
            za (Pp (⟨y7.kind,y7.name,y7.num,y7.decl,y7.list⟩:zm)) fun y9=>
            bif !y9 then
             some (LX.out (s6.1.1,w64 (y8.1.1+1)))
            else
             some (LX.out (s6.1.1,y8.1.1))) fun j10=>
          some (LO.again ((if j10.2>j10.1 then j10.2 else j10.1,w64 (s6.1.2+1)),y8.2))
        else
         some (LO.out (s6.1.1,s6.2)):(Int×Int)×Int->Option (LO ((Int×Int)×Int) (Int×Int) _)) ((0,0),w64 (x.2+1)) fun o11=>
      some ((o11.1,true),o11.2)
    else
     some ((0,false),w64 (x.2+1))
def Yh:zm×Int->Option ((Int×Bool)×Int):=recE (Gq)
def lC(x:zm):Option Int:=
 za (Yh ((⟨x.kind,x.name,x.num,x.decl,x.list⟩:zm),0)) fun y1=>
 bif bif !y1.1.2 then true else decide (y1.1.1>16)then
  some 8
 else
  some 0
def Jq(Pi:List zC->Option zq)(x:List zC):Option zq:=
 Zc (fun(s1:Int×zq)=>
   bif decide (s1.1<(x.length:Int))then
    za (geti x s1.1) fun y2=>
    za (Pi y2.rules) fun y3=>
    za (qQ y2.names) fun y4=>
    zO (X:=(Int×Bool)×zq×zq) (
      bif y2.kind==1 then
       za (qX y2.selectors) fun y5=>
       za (zA (!(bif y3.bad then true else y4)) (XA y2.selectors) (default:Int)) fun y6=>
       za (zA (!(bif bif bif y3.bad then true else y4 then true else y6 != 0 then true else decide ((y2.decls.length:Int)>32))) (Xj (⟨y2.cond.kind,y2.cond.name,y2.cond.num,y2.cond.decl,y2.cond.list⟩:zm)) (default:Bool)) fun y7=>
       Zc (fun(s8:(Bool×Int)×zq)=>
         bif decide (s8.1.2<(y2.decls.length:Int))then
          za (geti y2.decls s8.1.2) fun y9=>
          za (jk y9.value) fun y10=>
          za (zA (!(bif s8.1.1 then true else y10.2 != 0)) (nk y9) (default:Int)) fun y11=>
          some (LO.again ((bif bif s8.1.1 then true else y10.2 != 0 then true else y11 != 0,w64 (s8.1.2+1)),(⟨s8.2.rules,if y10.1>s8.2.depth then y10.1 else s8.2.depth,s8.2.bad⟩:zq)))
         else
          some (LO.out (s8.1.1,s8.2)):(Bool×Int)×zq->Option (LO ((Bool×Int)×zq) (Bool×zq) _)) ((bif bif bif bif bif y3.bad then true else y4 then true else y6 != 0 then true else decide ((y2.decls.length:Int)>32)then true else !y7 then true else decide (w64 ((y2.names.length:Int)+(y2.rules.length:Int))>0),0),y3) fun o12=>
       some (LX.out ((y5,o12.1),(⟨w64 (s1.2.rules+w64 (y3.rules+1)),s1.2.depth,s1.2.bad⟩:zq),o12.2))
      else
       bif y2.kind==2 then
        za (Yj (⟨y2.cond.kind,y2.cond.name,y2.cond.num,y2.cond.decl,y2.cond.list⟩:zm)) fun y13=>
        za (zA (!(bif bif bif y3.bad then true else y4 then true else decide (w64 ((y2.selectors.length:Int)+(y2.decls.length:Int))>0)then true else decide ((y2.names.length:Int)>0))) (jB (⟨y2.cond.kind,y2.cond.name,y2.cond.num,y2.cond.decl,y2.cond.list⟩:zm)) (default:Int)) fun y14=>
        some (LX.out ((y13,bif bif bif bif y3.bad then true else y4 then true else decide (w64 ((y2.selectors.length:Int)+(y2.decls.length:Int))>0)then true else decide ((y2.names.length:Int)>0)then true else y14 != 0),(⟨w64 (s1.2.rules+w64 (y3.rules+1)),s1.2.depth,s1.2.bad⟩:zq),y3))
       else
        bif y2.kind==3 then
         za (Oi (⟨y2.cond.kind,y2.cond.name,y2.cond.num,y2.cond.decl,y2.cond.list⟩:zm)) fun y15=>
         za (zA (!(bif bif bif y3.bad then true else y4 then true else decide (w64 ((y2.selectors.length:Int)+(y2.decls.length:Int))>0)then true else decide ((y2.names.length:Int)>0))) (lC (⟨y2.cond.kind,y2.cond.name,y2.cond.num,y2.cond.decl,y2.cond.list⟩:zm)) (default:Int)) fun y16=>
         some (LX.out ((y15,bif bif bif bif y3.bad then true else y4 then true else decide (w64 ((y2.selectors.length:Int)+(y2.decls.length:Int))>0)then true else decide ((y2.names.length:Int)>0)then true else y16 != 0),(⟨w64 (s1.2.rules+w64 (y3.rules+1)),s1.2.depth,s1.2.bad⟩:zq),y3))
        else
         bif y2.kind==4 then
          za (zA (!(bif bif bif y3.bad then true else y4 then true else decide (w64 ((y2.selectors.length:Int)+(y2.decls.length:Int))>0)then true else decide ((y2.names.length:Int)>1))) (Xj (⟨y2.cond.kind,y2.cond.name,y2.cond.num,y2.cond.decl,y2.cond.list⟩:zm)) (default:Bool)) fun y17=>
          some (LX.out ((0,bif bif bif bif y3.bad then true else y4 then true else decide (w64 ((y2.selectors.length:Int)+(y2.decls.length:Int))>0)then true else decide ((y2.names.length:Int)>1)then true else !y17),(⟨w64 (s1.2.rules+w64 (y3.rules+1)),s1.2.depth,s1.2.bad⟩:zq),y3))
         else
          bif y2.kind==5 then
           za (zA (!(bif bif bif bif bif y3.bad then true else y4 then true else decide (w64 ((y2.selectors.length:Int)+(y2.decls.length:Int))>0)then true else decide ((y2.names.length:Int)<1)then true else decide ((y2.names.length:Int)>64)then true else decide ((y2.rules.length:Int)>0))) (Xj (⟨y2.cond.kind,y2.cond.name,y2.cond.num,y2.cond.decl,y2.cond.list⟩:zm)) (default:Bool)) fun y18=>
           some (LX.out ((0,bif bif bif bif bif bif y3.bad then true else y4 then true else decide (w64 ((y2.selectors.length:Int)+(y2.decls.length:Int))>0)then true else decide ((y2.names.length:Int)<1)then true else decide ((y2.names.length:Int)>64)then true else decide ((y2.rules.length:Int)>0)then true else !y18),(⟨w64 (s1.2.rules+w64 (y3.rules+1)),s1.2.depth,s1.2.bad⟩:zq),(⟨y3.rules,(-1),y3.bad⟩:zq)))
          else
           some (LX.out ((0,true),(⟨w64 (s1.2.rules+w64 (y3.rules+1)),s1.2.depth,s1.2.bad⟩:zq),y3))) fun j19=>
    some (LO.again (w64 (s1.1+1),(⟨j19.2.1.rules,if j19.1.1>(if w64 (j19.2.2.depth+1)>j19.2.1.depth then w64 (j19.2.2.depth+1)else j19.2.1.depth)then j19.1.1 else if w64 (j19.2.2.depth+1)>j19.2.1.depth then w64 (j19.2.2.depth+1)else j19.2.1.depth,bif j19.2.1.bad then true else j19.1.2⟩:zq)))
   else
    some (LO.out s1.2):Int×zq->Option (LO (Int×zq) (zq) _)) (0,(⟨0,0,false⟩:zq)) fun o20=>
 some o20
def Pi:List zC->Option zq:=recE (Jq)
def Fu(x:List zC):Option Int:=
 za (Pi x) fun y1=>
 bif bif bif y1.bad then true else decide (y1.rules>64)then true else decide (y1.depth>16)then
  some 8
 else
  some 0
def Gl(x:ZN):Option Int:=
 za (Fu x.rules) fun y1=>
 some y1
def xB(x:zC):Option Int:=
 za (Fu [(⟨x.kind,x.selectors,x.decls,(⟨x.cond.kind,x.cond.name,x.cond.num,x.cond.decl,x.cond.list⟩:zm),x.names,x.rules⟩:zC)]) fun y1=>
 some y1
def PI(x:List zC):Option (List zC):=
 bif x.isEmpty then
  both (
    some []) (
    need (Zb 0 x.length 208)<|
    some x)
 else
  need (Zb 0 x.length 208)<|
  some x
def WI(x:List zg):Option (List zg):=
 bif x.isEmpty then
  both (
    some []) (
    need (Zb 0 x.length 56)<|
    some x)
 else
  need (Zb 0 x.length 56)<|
  some x
def uI(x:List zy):Option (List zy):=
 bif x.isEmpty then
  both (
    some []) (
    need (Zb 0 x.length 40)<|
    some x)
 else
  need (Zb 0 x.length 40)<|
  some x
def UI(x:List UInt8):Option (List UInt8):=
 bif x.isEmpty then
  both (
    some []) (
    need (Zb 0 x.length 1)<|
    some x)
 else
  need (Zb 0 x.length 1)<|
  some x
def JD(x:List zx):Option (List zx):=
 bif x.isEmpty then
  both (
    some []) (
    need (Zb 0 x.length 104)<|
    some x)
 else
  need (Zb 0 x.length 104)<|
  some x
def yC(qi:List zg->Option (List zg))(x:List zg):Option (List zg):=
 za (WI x) fun y1=>
 Zc (fun(s2:Int×List zg)=>
   bif decide (s2.1<(y1.length:Int))then
    need (decide (0<=s2.1)&&decide (s2.1<(s2.2.length:Int)))<|
    za s2.2[s2.1.toNat]? fun y3=>
    za (uI y3.parts) fun y4=>
    za s2.2[s2.1.toNat]? fun y5=>
    za (UI y5.combs) fun y6=>
    za s2.2[s2.1.toNat]? fun y7=>
    need (Nat.beq s2.1.toNat (List.take s2.1.toNat s2.2).length)<|
    need (Nat.beq s2.1.toNat (List.take s2.1.toNat s2.2).length)<|
    Zc (fun(s8:Int×List zy)=>
      bif decide (s8.1<(y4.length:Int))then
       need (Nat.beq s2.1.toNat (List.take s2.1.toNat s2.2).length)<|
       need (decide (0<=s8.1)&&decide (s8.1<(s8.2.length:Int)))<|
       za s8.2[s8.1.toNat]? fun y9=>
       za (JD y9.simples) fun y10=>
       Zc (fun(s11:Int×List zx)=>
         bif decide (s11.1<(y10.length:Int))then
          need (decide (0<=s11.1)&&decide (s11.1<(s11.2.length:Int)))<|
          za s11.2[s11.1.toNat]? fun y12=>
          za (qi y12.list) fun y13=>
          need (decide (0<=s11.1)&&decide (s11.1<(s11.2.length:Int)))<|
          za s11.2[s11.1.toNat]? fun y14=>
          some (LO.again (w64 (s11.1+1),List.set s11.2 s11.1.toNat (⟨y14.kind,y14.name,y14.op,y14.value,y14.fold,y14.anb,y14.of_,y13⟩:zx)))
         else
          some (LO.out s11.2):Int×List zx->Option (LO (Int×List zx) (List zx) _)) (0,y10) fun o15=>
       need (Nat.beq s2.1.toNat (List.take s2.1.toNat s2.2).length)<|
       need (decide (0<=s8.1)&&decide (s8.1<(s8.2.length:Int)))<|
       za s8.2[s8.1.toNat]? fun y16=>
       some (LO.again (w64 (s8.1+1),List.take s8.1.toNat s8.2++List.cons (⟨y16.tag,o15⟩:zy) (List.drop (s8.1.toNat+1) s8.2)))
      else
       some (LO.out s8.2):Int×List zy->Option (LO (Int×List zy) (List zy) _)) (0,y4) fun o17=>
    some (LO.again (w64 (s2.1+1),List.take s2.1.toNat s2.2++List.cons (⟨y7.lead,o17,y6⟩:zg) (List.drop (s2.1.toNat+1) s2.2)))
   else
    some (LO.out s2.2):Int×List zg->Option (LO (Int×List zg) (List zg) _)) (0,y1) fun o18=>
 some o18
def qi:List zg->Option (List zg):=recE (yC)
def RI(x:List Za):Option (List Za):=
 bif x.isEmpty then
  both (
    some []) (
    need (Zb 0 x.length 48)<|
    some x)
 else
  need (Zb 0 x.length 48)<|
  some x
def VI(x:List ze):Option (List ze):=
 bif x.isEmpty then
  both (
    some []) (
    need (Zb 0 x.length 80)<|
    some x)
 else
  need (Zb 0 x.length 80)<|
  some x
def eB(qO:List ze->Option (List ze))(x:List ze):Option (List ze):=
 za (VI x) fun y1=>
 Zc (fun(s2:Int×List ze)=>
   bif decide (s2.1<(y1.length:Int))then
    need (decide (0<=s2.1)&&decide (s2.1<(s2.2.length:Int)))<|
    za s2.2[s2.1.toNat]? fun y3=>
    za (qO y3.list) fun y4=>
    need (decide (0<=s2.1)&&decide (s2.1<(s2.2.length:Int)))<|
    za s2.2[s2.1.toNat]? fun y5=>
    some (LO.again (w64 (s2.1+1),List.set s2.2 s2.1.toNat (⟨y5.token,y4⟩:ze)))
   else
    some (LO.out s2.2):Int×List ze->Option (LO (Int×List ze) (List ze) _)) (0,y1) fun o6=>
 some o6
def qO:List ze->Option (List ze):=recE (eB)
def Hu(x:List Za):Option (List Za):=
 za (RI x) fun y1=>
 Zc (fun(s2:Int×List Za)=>
   bif decide (s2.1<(y1.length:Int))then
    need (decide (0<=s2.1)&&decide (s2.1<(s2.2.length:Int)))<|
    za s2.2[s2.1.toNat]? fun y3=>
    za (qO y3.value) fun y4=>
    need (decide (0<=s2.1)&&decide (s2.1<(s2.2.length:Int)))<|
    za s2.2[s2.1.toNat]? fun y5=>
    some (LO.again (w64 (s2.1+1),List.set s2.2 s2.1.toNat (⟨y5.name,y4,y5.important⟩:Za)))
   else
    some (LO.out s2.2):Int×List Za->Option (LO (Int×List Za) (List Za) _)) (0,y1) fun o6=>
 some o6
def SI(x:List zm):Option (List zm):=
 bif x.isEmpty then
  both (
    some []) (
    need (Zb 0 x.length 104)<|
    some x)
 else
  need (Zb 0 x.length 104)<|
  some x
def BD(qh:zm->Option zm)(x:zm):Option zm:=
 za (qO x.decl.value) fun y1=>
 za (SI x.list) fun y2=>
 Zc (fun(s3:Int×List zm)=>
   bif decide (s3.1<(y2.length:Int))then
    need (decide (0<=s3.1)&&decide (s3.1<(s3.2.length:Int)))<|
    za s3.2[s3.1.toNat]? fun y4=>
    za (qh (⟨y4.kind,y4.name,y4.num,y4.decl,y4.list⟩:zm)) fun y5=>
    need (decide (0<=s3.1)&&decide (s3.1<(s3.2.length:Int)))<|
    za s3.2[s3.1.toNat]? fun y6=>
    some (LO.again (w64 (s3.1+1),List.set s3.2 s3.1.toNat (⟨y5.kind,y5.name,y5.num,y5.decl,y5.list⟩:zm)))
   else
    some (LO.out s3.2):Int×List zm->Option (LO (Int×List zm) (List zm) _)) (0,y2) fun o7=>
 some (⟨x.kind,x.name,x.num,(⟨x.decl.name,y1,x.decl.important⟩:Za),o7⟩:zm)
def qh:zm->Option zm:=recE (BD)
def slices_Clone_string(x:List (List Str)):Option (List (List Str)):=
 bif x.isEmpty then
  both (
    some []) (
    need (Zb 0 x.length 24)<|
    some x)
 else
  need (Zb 0 x.length 24)<|
  some x
def GD(x:List Str):Option (List Str):=
 bif x.isEmpty then
  both (
    some []) (
    need (Zb 0 x.length 16)<|
    some x)
 else
  need (Zb 0 x.length 16)<|
  some x
def Yz(Bi:List zC->Option (List zC))(x:List zC):Option (List zC):=
 za (PI x) fun y1=>
 Zc (fun(s2:Int×List zC)=>
   bif decide (s2.1<(y1.length:Int))then
    need (decide (0<=s2.1)&&decide (s2.1<(s2.2.length:Int)))<|
    za s2.2[s2.1.toNat]? fun y3=>
    za (qi y3.selectors) fun y4=>
    za s2.2[s2.1.toNat]? fun y5=>
    za (Hu y5.decls) fun y6=>
    za s2.2[s2.1.toNat]? fun y7=>
    za (qh (⟨y7.cond.kind,y7.cond.name,y7.cond.num,y7.cond.decl,y7.cond.list⟩:zm)) fun y8=>
    za s2.2[s2.1.toNat]? fun y9=>
    za (Bi y9.rules) fun y10=>
    za s2.2[s2.1.toNat]? fun y11=>
    za (List.set s2.2 s2.1.toNat (⟨y11.kind,y4,y11.decls,(⟨y11.cond.kind,y11.cond.name,y11.cond.num,y11.cond.decl,y11.cond.list⟩:zm),y11.names,y11.rules⟩:zC))[s2.1.toNat]? fun y12=>
    za (List.set (List.set s2.2 s2.1.toNat (⟨y11.kind,y4,y11.decls,(⟨y11.cond.kind,y11.cond.name,y11.cond.num,y11.cond.decl,y11.cond.list⟩:zm),y11.names,y11.rules⟩:zC)) s2.1.toNat (⟨y12.kind,y12.selectors,y6,(⟨y12.cond.kind,y12.cond.name,y12.cond.num,y12.cond.decl,y12.cond.list⟩:zm),y12.names,y12.rules⟩:zC))[s2.1.toNat]? fun y13=>
    za (List.set (List.set (List.set s2.2 s2.1.toNat (⟨y11.kind,y4,y11.decls,(⟨y11.cond.kind,y11.cond.name,y11.cond.num,y11.cond.decl,y11.cond.list⟩:zm),y11.names,y11.rules⟩:zC)) s2.1.toNat (⟨y12.kind,y12.selectors,y6,(⟨y12.cond.kind,y12.cond.name,y12.cond.num,y12.cond.decl,y12.cond.list⟩:zm),y12.names,y12.rules⟩:zC)) s2.1.toNat (⟨y13.kind,y13.selectors,y13.decls,(⟨y8.kind,y8.name,y8.num,y8.decl,y8.list⟩:zm),y13.names,y13.rules⟩:zC))[s2.1.toNat]? fun y14=>
    za (List.set (List.set (List.set (List.set s2.2 s2.1.toNat (⟨y11.kind,y4,y11.decls,(⟨y11.cond.kind,y11.cond.name,y11.cond.num,y11.cond.decl,y11.cond.list⟩:zm),y11.names,y11.rules⟩:zC)) s2.1.toNat (⟨y12.kind,y12.selectors,y6,(⟨y12.cond.kind,y12.cond.name,y12.cond.num,y12.cond.decl,y12.cond.list⟩:zm),y12.names,y12.rules⟩:zC)) s2.1.toNat (⟨y13.kind,y13.selectors,y13.decls,(⟨y8.kind,y8.name,y8.num,y8.decl,y8.list⟩:zm),y13.names,y13.rules⟩:zC)) s2.1.toNat (⟨y14.kind,y14.selectors,y14.decls,(⟨y14.cond.kind,y14.cond.name,y14.cond.num,y14.cond.decl,y14.cond.list⟩:zm),y14.names,y10⟩:zC))[s2.1.toNat]? fun y15=>
    za (slices_Clone_string y15.names) fun y16=>
    za (List.set (List.set (List.set (List.set s2.2 s2.1.toNat (⟨y11.kind,y4,y11.decls,(⟨y11.cond.kind,y11.cond.name,y11.cond.num,y11.cond.decl,y11.cond.list⟩:zm),y11.names,y11.rules⟩:zC)) s2.1.toNat (⟨y12.kind,y12.selectors,y6,(⟨y12.cond.kind,y12.cond.name,y12.cond.num,y12.cond.decl,y12.cond.list⟩:zm),y12.names,y12.rules⟩:zC)) s2.1.toNat (⟨y13.kind,y13.selectors,y13.decls,(⟨y8.kind,y8.name,y8.num,y8.decl,y8.list⟩:zm),y13.names,y13.rules⟩:zC)) s2.1.toNat (⟨y14.kind,y14.selectors,y14.decls,(⟨y14.cond.kind,y14.cond.name,y14.cond.num,y14.cond.decl,y14.cond.list⟩:zm),y14.names,y10⟩:zC))[s2.1.toNat]? fun y17=>
    need (Nat.beq s2.1.toNat (List.take s2.1.toNat (List.set (List.set (List.set (List.set s2.2 s2.1.toNat (⟨y11.kind,y4,y11.decls,(⟨y11.cond.kind,y11.cond.name,y11.cond.num,y11.cond.decl,y11.cond.list⟩:zm),y11.names,y11.rules⟩:zC)) s2.1.toNat (⟨y12.kind,y12.selectors,y6,(⟨y12.cond.kind,y12.cond.name,y12.cond.num,y12.cond.decl,y12.cond.list⟩:zm),y12.names,y12.rules⟩:zC)) s2.1.toNat (⟨y13.kind,y13.selectors,y13.decls,(⟨y8.kind,y8.name,y8.num,y8.decl,y8.list⟩:zm),y13.names,y13.rules⟩:zC)) s2.1.toNat (⟨y14.kind,y14.selectors,y14.decls,(⟨y14.cond.kind,y14.cond.name,y14.cond.num,y14.cond.decl,y14.cond.list⟩:zm),y14.names,y10⟩:zC))).length)<|
    Zc (fun(s18:Int×List (List Str))=>
      bif decide (s18.1<(y16.length:Int))then
       need (Nat.beq s2.1.toNat (List.take s2.1.toNat (List.set (List.set (List.set (List.set s2.2 s2.1.toNat (⟨y11.kind,y4,y11.decls,(⟨y11.cond.kind,y11.cond.name,y11.cond.num,y11.cond.decl,y11.cond.list⟩:zm),y11.names,y11.rules⟩:zC)) s2.1.toNat (⟨y12.kind,y12.selectors,y6,(⟨y12.cond.kind,y12.cond.name,y12.cond.num,y12.cond.decl,y12.cond.list⟩:zm),y12.names,y12.rules⟩:zC)) s2.1.toNat (⟨y13.kind,y13.selectors,y13.decls,(⟨y8.kind,y8.name,y8.num,y8.decl,y8.list⟩:zm),y13.names,y13.rules⟩:zC)) s2.1.toNat (⟨y14.kind,y14.selectors,y14.decls,(⟨y14.cond.kind,y14.cond.name,y14.cond.num,y14.cond.decl,y14.cond.list⟩:zm),y14.names,y10⟩:zC))).length)<|
       need (Nat.beq s2.1.toNat (List.take s2.1.toNat (List.set (List.set (List.set (List.set s2.2 s2.1.toNat (⟨y11.kind,y4,y11.decls,(⟨y11.cond.kind,y11.cond.name,y11.cond.num,y11.cond.decl,y11.cond.list⟩:zm),y11.names,y11.rules⟩:zC)) s2.1.toNat (⟨y12.kind,y12.selectors,y6,(⟨y12.cond.kind,y12.cond.name,y12.cond.num,y12.cond.decl,y12.cond.list⟩:zm),y12.names,y12.rules⟩:zC)) s2.1.toNat (⟨y13.kind,y13.selectors,y13.decls,(⟨y8.kind,y8.name,y8.num,y8.decl,y8.list⟩:zm),y13.names,y13.rules⟩:zC)) s2.1.toNat (⟨y14.kind,y14.selectors,y14.decls,(⟨y14.cond.kind,y14.cond.name,y14.cond.num,y14.cond.decl,y14.cond.list⟩:zm),y14.names,y10⟩:zC))).length)<|
       need (decide (0<=s18.1)&&decide (s18.1<(s18.2.length:Int)))<|
       za s18.2[s18.1.toNat]? fun y19=>
       za (GD y19) fun y20=>
       need (decide (0<=s18.1)&&decide (s18.1<(s18.2.length:Int)))<|
       za s18.2[s18.1.toNat]? fun y21=>
       some (LO.again (w64 (s18.1+1),List.take s18.1.toNat s18.2++List.cons y20 (List.drop (s18.1.toNat+1) s18.2)))
      else
       some (LO.out s18.2):Int×List (List Str)->Option (LO (Int×List (List Str)) (List (List Str)) _)) (0,y16) fun o22=>
    some (LO.again (w64 (s2.1+1),List.take s2.1.toNat (List.set (List.set (List.set (List.set s2.2 s2.1.toNat (⟨y11.kind,y4,y11.decls,(⟨y11.cond.kind,y11.cond.name,y11.cond.num,y11.cond.decl,y11.cond.list⟩:zm),y11.names,y11.rules⟩:zC)) s2.1.toNat (⟨y12.kind,y12.selectors,y6,(⟨y12.cond.kind,y12.cond.name,y12.cond.num,y12.cond.decl,y12.cond.list⟩:zm),y12.names,y12.rules⟩:zC)) s2.1.toNat (⟨y13.kind,y13.selectors,y13.decls,(⟨y8.kind,y8.name,y8.num,y8.decl,y8.list⟩:zm),y13.names,y13.rules⟩:zC)) s2.1.toNat (⟨y14.kind,y14.selectors,y14.decls,(⟨y14.cond.kind,y14.cond.name,y14.cond.num,y14.cond.decl,y14.cond.list⟩:zm),y14.names,y10⟩:zC))++List.cons (⟨y17.kind,y17.selectors,y17.decls,(⟨y17.cond.kind,y17.cond.name,y17.cond.num,y17.cond.decl,y17.cond.list⟩:zm),o22,y17.rules⟩:zC) (List.drop (s2.1.toNat+1) (List.set (List.set (List.set (List.set s2.2 s2.1.toNat (⟨y11.kind,y4,y11.decls,(⟨y11.cond.kind,y11.cond.name,y11.cond.num,y11.cond.decl,y11.cond.list⟩:zm),y11.names,y11.rules⟩:zC)) s2.1.toNat (⟨y12.kind,y12.selectors,y6,(⟨y12.cond.kind,y12.cond.name,y12.cond.num,y12.cond.decl,y12.cond.list⟩:zm),y12.names,y12.rules⟩:zC)) s2.1.toNat (⟨y13.kind,y13.selectors,y13.decls,(⟨y8.kind,y8.name,y8.num,y8.decl,y8.list⟩:zm),y13.names,y13.rules⟩:zC)) s2.1.toNat (⟨y14.kind,y14.selectors,y14.decls,(⟨y14.cond.kind,y14.cond.name,y14.cond.num,y14.cond.decl,y14.cond.list⟩:zm),y14.names,y10⟩:zC)))))
   else
    some (LO.out s2.2):Int×List zC->Option (LO (Int×List zC) (List zC) _)) (0,y1) fun o23=>
 some o23
def Bi:List zC->Option (List zC):=recE (Yz)
def az(x:ZN×zC×Int):Option (ZN×Int):=
 za (Gl x.1) fun y1=>
 za (zA (!(y1 != 0)) (xB (⟨x.2.1.kind,x.2.1.selectors,x.2.1.decls,(⟨x.2.1.cond.kind,x.2.1.cond.name,x.2.1.cond.num,x.2.1.cond.decl,x.2.1.cond.list⟩:zm),x.2.1.names,x.2.1.rules⟩:zC)) (default:Int)) fun y2=>
 bif bif y1 != 0 then true else y2 != 0 then
  some ((⟨[]⟩:ZN),8)
 else
  bif bif decide (x.2.2<0)then true else decide (x.2.2>(x.1.rules.length:Int))then
   some ((⟨[]⟩:ZN),2)
  else
   need (decide (0<=w64 ((x.1.rules.length:Int)+1))&&decide (w64 ((x.1.rules.length:Int)+1)<=w64 ((x.1.rules.length:Int)+1))&&decide (w64 ((x.1.rules.length:Int)+1)*208<=140737488355328)&&decide (w64 ((x.1.rules.length:Int)+1)<=9223372036854775807))<|
   need (decide (0<=x.2.2)&&(decide (x.2.2<=x.2.2)&&decide (x.2.2<=(x.1.rules.length:Int)))&&decide (x.2.2=x.2.2))<|
   need (decide ((List.take x.2.2.toNat x.1.rules).length<=(List.replicate (Int.toNat (w64 ((x.1.rules.length:Int)+1))) (⟨0,[],[],(⟨0,[],0,(⟨[],[],false⟩:Za),[]⟩:zm),[],[]⟩:zC)).length))<|
   need (decide (0<=x.2.2)&&decide (x.2.2<((List.take x.2.2.toNat x.1.rules++List.drop (List.take x.2.2.toNat x.1.rules).length (List.replicate (Int.toNat (w64 ((x.1.rules.length:Int)+1))) (⟨0,[],[],(⟨0,[],0,(⟨[],[],false⟩:Za),[]⟩:zm),[],[]⟩:zC))).length:Int)))<|
   za (List.take x.2.2.toNat x.1.rules++List.drop (List.take x.2.2.toNat x.1.rules).length (List.replicate (Int.toNat (w64 ((x.1.rules.length:Int)+1))) (⟨0,[],[],(⟨0,[],0,(⟨[],[],false⟩:Za),[]⟩:zm),[],[]⟩:zC)))[x.2.2.toNat]? fun y3=>
   need (decide (0<=w64 (x.2.2+1))&&decide (w64 (x.2.2+1)<=((List.set (List.take x.2.2.toNat x.1.rules++List.drop (List.take x.2.2.toNat x.1.rules).length (List.replicate (Int.toNat (w64 ((x.1.rules.length:Int)+1))) (⟨0,[],[],(⟨0,[],0,(⟨[],[],false⟩:Za),[]⟩:zm),[],[]⟩:zC))) x.2.2.toNat (⟨x.2.1.kind,x.2.1.selectors,x.2.1.decls,(⟨x.2.1.cond.kind,x.2.1.cond.name,x.2.1.cond.num,x.2.1.cond.decl,x.2.1.cond.list⟩:zm),x.2.1.names,x.2.1.rules⟩:zC)).length:Int)))<|
   need (decide (0<=x.2.2)&&decide (x.2.2<=(x.1.rules.length:Int)))<|
   need (decide ((List.drop x.2.2.toNat x.1.rules).length<=(List.set (List.take x.2.2.toNat x.1.rules++List.drop (List.take x.2.2.toNat x.1.rules).length (List.replicate (Int.toNat (w64 ((x.1.rules.length:Int)+1))) (⟨0,[],[],(⟨0,[],0,(⟨[],[],false⟩:Za),[]⟩:zm),[],[]⟩:zC))) x.2.2.toNat (⟨x.2.1.kind,x.2.1.selectors,x.2.1.decls,(⟨x.2.1.cond.kind,x.2.1.cond.name,x.2.1.cond.num,x.2.1.cond.decl,x.2.1.cond.list⟩:zm),x.2.1.names,x.2.1.rules⟩:zC)).length - (w64 (x.2.2+1)).toNat)&&decide ((w64 (x.2.2+1)).toNat+((List.set (List.take x.2.2.toNat x.1.rules++List.drop (List.take x.2.2.toNat x.1.rules).length (List.replicate (Int.toNat (w64 ((x.1.rules.length:Int)+1))) (⟨0,[],[],(⟨0,[],0,(⟨[],[],false⟩:Za),[]⟩:zm),[],[]⟩:zC))) x.2.2.toNat (⟨x.2.1.kind,x.2.1.selectors,x.2.1.decls,(⟨x.2.1.cond.kind,x.2.1.cond.name,x.2.1.cond.num,x.2.1.cond.decl,x.2.1.cond.list⟩:zm),x.2.1.names,x.2.1.rules⟩:zC)).length - (w64 (x.2.2+1)).toNat)<=(List.set (List.take x.2.2.toNat x.1.rules++List.drop (List.take x.2.2.toNat x.1.rules).length (List.replicate (Int.toNat (w64 ((x.1.rules.length:Int)+1))) (⟨0,[],[],(⟨0,[],0,(⟨[],[],false⟩:Za),[]⟩:zm),[],[]⟩:zC))) x.2.2.toNat (⟨x.2.1.kind,x.2.1.selectors,x.2.1.decls,(⟨x.2.1.cond.kind,x.2.1.cond.name,x.2.1.cond.num,x.2.1.cond.decl,x.2.1.cond.list⟩:zm),x.2.1.names,x.2.1.rules⟩:zC)).length))<|
   za (Gl (⟨List.take (w64 (x.2.2+1)).toNat (List.set (List.take x.2.2.toNat x.1.rules++List.drop (List.take x.2.2.toNat x.1.rules).length (List.replicate (Int.toNat (w64 ((x.1.rules.length:Int)+1))) (⟨0,[],[],(⟨0,[],0,(⟨[],[],false⟩:Za),[]⟩:zm),[],[]⟩:zC))) x.2.2.toNat (⟨x.2.1.kind,x.2.1.selectors,x.2.1.decls,(⟨x.2.1.cond.kind,x.2.1.cond.name,x.2.1.cond.num,x.2.1.cond.decl,x.2.1.cond.list⟩:zm),x.2.1.names,x.2.1.rules⟩:zC))++List.drop x.2.2.toNat x.1.rules++List.drop ((w64 (x.2.2+1)).toNat+(List.drop x.2.2.toNat x.1.rules).length) (List.set (List.take x.2.2.toNat x.1.rules++List.drop (List.take x.2.2.toNat x.1.rules).length (List.replicate (Int.toNat (w64 ((x.1.rules.length:Int)+1))) (⟨0,[],[],(⟨0,[],0,(⟨[],[],false⟩:Za),[]⟩:zm),[],[]⟩:zC))) x.2.2.toNat (⟨x.2.1.kind,x.2.1.selectors,x.2.1.decls,(⟨x.2.1.cond.kind,x.2.1.cond.name,x.2.1.cond.num,x.2.1.cond.decl,x.2.1.cond.list⟩:zm),x.2.1.names,x.2.1.rules⟩:zC))⟩:ZN)) fun y4=>
   bif y4 != 0 then
    some ((⟨[]⟩:ZN),18)
   else
    za (Bi (List.take (w64 (x.2.2+1)).toNat (List.set (List.take x.2.2.toNat x.1.rules++List.drop (List.take x.2.2.toNat x.1.rules).length (List.replicate (Int.toNat (w64 ((x.1.rules.length:Int)+1))) (⟨0,[],[],(⟨0,[],0,(⟨[],[],false⟩:Za),[]⟩:zm),[],[]⟩:zC))) x.2.2.toNat (⟨x.2.1.kind,x.2.1.selectors,x.2.1.decls,(⟨x.2.1.cond.kind,x.2.1.cond.name,x.2.1.cond.num,x.2.1.cond.decl,x.2.1.cond.list⟩:zm),x.2.1.names,x.2.1.rules⟩:zC))++List.drop x.2.2.toNat x.1.rules++List.drop ((w64 (x.2.2+1)).toNat+(List.drop x.2.2.toNat x.1.rules).length) (List.set (List.take x.2.2.toNat x.1.rules++List.drop (List.take x.2.2.toNat x.1.rules).length (List.replicate (Int.toNat (w64 ((x.1.rules.length:Int)+1))) (⟨0,[],[],(⟨0,[],0,(⟨[],[],false⟩:Za),[]⟩:zm),[],[]⟩:zC))) x.2.2.toNat (⟨x.2.1.kind,x.2.1.selectors,x.2.1.decls,(⟨x.2.1.cond.kind,x.2.1.cond.name,x.2.1.cond.num,x.2.1.cond.decl,x.2.1.cond.list⟩:zm),x.2.1.names,x.2.1.rules⟩:zC)))) fun y5=>
    some ((⟨y5⟩:ZN),0)
def nC(ZM:List zg×List zg->Option Bool)(x:List zx×List zx):Option Bool:=
 bif (x.1.length:Int) != (x.2.length:Int)then
  some false
 else
  Zc (fun(s1:Int)=>
    bif decide (s1<(x.1.length:Int))then
     za (geti x.1 s1) fun y2=>
     za (Rq (⟨y2.kind,y2.name,y2.op,y2.value,y2.fold,y2.anb,y2.of_,y2.list⟩:zx)) fun y3=>
     za (geti x.2 s1) fun y4=>
     za (Rq (⟨y4.kind,y4.name,y4.op,y4.value,y4.fold,y4.anb,y4.of_,y4.list⟩:zx)) fun y5=>
     za (zA (!(!(y3.kind==y5.kind&&(y3.name==y5.name&&(y3.op==y5.op&&(y3.value==y5.value&&(y3.fold==y5.fold&&(y3.anb.a==y5.anb.a&&(y3.anb.b==y5.anb.b&&(y3.of_==y5.of_&&true)))))))))) (geti x.1 s1) (default:zx)) fun y6=>
     za (zA (!(!(y3.kind==y5.kind&&(y3.name==y5.name&&(y3.op==y5.op&&(y3.value==y5.value&&(y3.fold==y5.fold&&(y3.anb.a==y5.anb.a&&(y3.anb.b==y5.anb.b&&(y3.of_==y5.of_&&true)))))))))) (geti x.2 s1) (default:zx)) fun y7=>
     za (zA (!(!(y3.kind==y5.kind&&(y3.name==y5.name&&(y3.op==y5.op&&(y3.value==y5.value&&(y3.fold==y5.fold&&(y3.anb.a==y5.anb.a&&(y3.anb.b==y5.anb.b&&(y3.of_==y5.of_&&true)))))))))) (ZM (y6.list,y7.list)) (default:Bool)) fun y8=>
     bif bif !(y3.kind==y5.kind&&(y3.name==y5.name&&(y3.op==y5.op&&(y3.value==y5.value&&(y3.fold==y5.fold&&(y3.anb.a==y5.anb.a&&(y3.anb.b==y5.anb.b&&(y3.of_==y5.of_&&true))))))))then true else !y8 then
      some (LO.ret false)
     else
      some (LO.again (w64 (s1+1)))
    else
     some (LO.out ()):Int->Option (LO (Int) (Unit) _)) 0 fun o9=>
  some true
def Kz(ZM:List zg×List zg->Option Bool)(x:zg×zg):Option Bool:=
 bif bif bif x.1.lead != x.2.lead then true else(x.1.parts.length:Int) != (x.2.parts.length:Int)then true else !(x.1.combs==x.2.combs)then
  some false
 else
  Zc (fun(s1:Int)=>
    bif decide (s1<(x.1.parts.length:Int))then
     za (geti x.1.parts s1) fun y2=>
     za (geti x.2.parts s1) fun y3=>
     za (zA (!(!(y2.tag==y3.tag))) (geti x.1.parts s1) (default:zy)) fun y4=>
     za (zA (!(!(y2.tag==y3.tag))) (geti x.2.parts s1) (default:zy)) fun y5=>
     za (zA (!(!(y2.tag==y3.tag))) (nC ZM (y4.simples,y5.simples)) (default:Bool)) fun y6=>
     bif bif !(y2.tag==y3.tag)then true else !y6 then
      some (LO.ret false)
     else
      some (LO.again (w64 (s1+1)))
    else
     some (LO.out ()):Int->Option (LO (Int) (Unit) _)) 0 fun o7=>
  some true
def KA(ZM:List zg×List zg->Option Bool)(x:List zg×List zg):Option Bool:=
 bif (x.1.length:Int) != (x.2.length:Int)then
  some false
 else
  Zc (fun(s1:Int)=>
    bif decide (s1<(x.1.length:Int))then
     za (geti x.1 s1) fun y2=>
     za (geti x.2 s1) fun y3=>
     za (Kz ZM ((⟨y2.lead,y2.parts,y2.combs⟩:zg),(⟨y3.lead,y3.parts,y3.combs⟩:zg))) fun y4=>
     bif !y4 then
      some (LO.ret false)
     else
      some (LO.again (w64 (s1+1)))
    else
     some (LO.out ()):Int->Option (LO (Int) (Unit) _)) 0 fun o5=>
  some true
def ZM:List zg×List zg->Option Bool:=recE (KA)
def Bu(x:List Za×List Za):Option Bool:=
 bif (x.1.length:Int) != (x.2.length:Int)then
  some false
 else
  Zc (fun(s1:Int)=>
    bif decide (s1<(x.1.length:Int))then
     za (geti x.1 s1) fun y2=>
     za (geti x.2 s1) fun y3=>
     za (Al (y2,y3)) fun y4=>
     bif !y4 then
      some (LO.ret false)
     else
      some (LO.again (w64 (s1+1)))
    else
     some (LO.out ()):Int->Option (LO (Int) (Unit) _)) 0 fun o5=>
  some true
def Ev(x:List (List Str)×List (List Str)):Option Bool:=
 bif (x.1.length:Int) != (x.2.length:Int)then
  some false
 else
  Zc (fun(s1:Int)=>
    bif decide (s1<(x.1.length:Int))then
     za (geti x.1 s1) fun y2=>
     za (geti x.2 s1) fun y3=>
     bif (y2.length:Int) != (y3.length:Int)then
      some (LO.ret false)
     else
      Zc (fun(s4:Int)=>
        za (geti x.1 s1) fun y5=>
        bif decide (s4<(y5.length:Int))then
         za (geti x.1 s1) fun y6=>
         za (geti y6 s4) fun y7=>
         za (geti x.2 s1) fun y8=>
         za (geti y8 s4) fun y9=>
         bif !(y7==y9)then
          some (LO.ret (LO.ret false))
         else
          some (LO.again (w64 (s4+1)))
        else
         some (LO.out ()):Int->Option (LO (Int) (Unit) _)) 0 fun o10=>
      some (LO.again (w64 (s1+1)))
    else
     some (LO.out ()):Int->Option (LO (Int) (Unit) _)) 0 fun o11=>
  some true
def Vj(ZK:zC×zC->Option Bool)(x:List zC×List zC):Option Bool:=
 bif (x.1.length:Int) != (x.2.length:Int)then
  some false
 else
  Zc (fun(s1:Int)=>
    bif decide (s1<(x.1.length:Int))then
     za (geti x.1 s1) fun y2=>
     za (geti x.2 s1) fun y3=>
     za (ZK ((⟨y2.kind,y2.selectors,y2.decls,(⟨y2.cond.kind,y2.cond.name,y2.cond.num,y2.cond.decl,y2.cond.list⟩:zm),y2.names,y2.rules⟩:zC),(⟨y3.kind,y3.selectors,y3.decls,(⟨y3.cond.kind,y3.cond.name,y3.cond.num,y3.cond.decl,y3.cond.list⟩:zm),y3.names,y3.rules⟩:zC))) fun y4=>
     bif !y4 then
      some (LO.ret false)
     else
      some (LO.again (w64 (s1+1)))
    else
     some (LO.out ()):Int->Option (LO (Int) (Unit) _)) 0 fun o5=>
  some true
def aA(ZK:zC×zC->Option Bool)(x:zC×zC):Option Bool:=
 za (zA (x.1.kind==x.2.kind) (ZM (x.1.selectors,x.2.selectors)) (default:Bool)) fun y1=>
 za (zA (bif x.1.kind==x.2.kind then y1 else false) (Bu (x.1.decls,x.2.decls)) (default:Bool)) fun y2=>
 za (zA (bif bif x.1.kind==x.2.kind then y1 else false then y2 else false) (QZ ((⟨x.1.cond.kind,x.1.cond.name,x.1.cond.num,x.1.cond.decl,x.1.cond.list⟩:zm),(⟨x.2.cond.kind,x.2.cond.name,x.2.cond.num,x.2.cond.decl,x.2.cond.list⟩:zm))) (default:Bool)) fun y3=>
 za (zA (bif bif bif x.1.kind==x.2.kind then y1 else false then y2 else false then y3 else false) (Ev (x.1.names,x.2.names)) (default:Bool)) fun y4=>
 za (zA (bif bif bif bif x.1.kind==x.2.kind then y1 else false then y2 else false then y3 else false then y4 else false) (Vj ZK (x.1.rules,x.2.rules)) (default:Bool)) fun y5=>
 some (bif bif bif bif bif x.1.kind==x.2.kind then y1 else false then y2 else false then y3 else false then y4 else false then y5 else false)
def ZK:zC×zC->Option Bool:=recE (aA)
def bz(x:ZN×Int):Option (ZN×Int):=
 za (Gl x.1) fun y1=>
 bif y1 != 0 then
  some ((⟨[]⟩:ZN),y1)
 else
  bif bif decide (x.2<0)then true else decide (x.2>=(x.1.rules.length:Int))then
   some ((⟨[]⟩:ZN),2)
  else
   need (decide (0<=x.2)&&(decide (x.2<=x.2)&&decide (x.2<=(x.1.rules.length:Int)))&&decide (x.2=x.2))<|
   need (decide (0<=w64 (x.2+1))&&decide (w64 (x.2+1)<=(x.1.rules.length:Int)))<|
   need (Zb (List.take x.2.toNat x.1.rules).length (List.drop (w64 (x.2+1)).toNat x.1.rules).length 208)<|
   za (Bi (List.take x.2.toNat x.1.rules++List.drop (w64 (x.2+1)).toNat x.1.rules)) fun y2=>
   some ((⟨y2⟩:ZN),0)
def LC(x:ZN×zC×Int):Option Bool:=
 za (Iu x.1.rules) fun y1=>
 za (zA (!y1) (Iu [(⟨x.2.1.kind,x.2.1.selectors,x.2.1.decls,(⟨x.2.1.cond.kind,x.2.1.cond.name,x.2.1.cond.num,x.2.1.cond.decl,x.2.1.cond.list⟩:zm),x.2.1.names,x.2.1.rules⟩:zC)]) (default:Bool)) fun y2=>
 za (zA (!(bif y1 then true else y2)) (Bq x.1) (default:Int)) fun y3=>
 za (zA (!(bif bif y1 then true else y2 then true else y3 != 0)) (DC (⟨x.2.1.kind,x.2.1.selectors,x.2.1.decls,(⟨x.2.1.cond.kind,x.2.1.cond.name,x.2.1.cond.num,x.2.1.cond.decl,x.2.1.cond.list⟩:zm),x.2.1.names,x.2.1.rules⟩:zC)) (default:Int)) fun y4=>
 bif bif bif bif bif bif y1 then true else y2 then true else y3 != 0 then true else y4 != 0 then true else decide (x.2.2<0)then true else decide (x.2.2>(x.1.rules.length:Int))then
  za (Vq 1000 ()) fun y5=>
  some y5
 else
  za (az (x.1,(⟨x.2.1.kind,x.2.1.selectors,x.2.1.decls,(⟨x.2.1.cond.kind,x.2.1.cond.name,x.2.1.cond.num,x.2.1.cond.decl,x.2.1.cond.list⟩:zm),x.2.1.names,x.2.1.rules⟩:zC),x.2.2)) fun y6=>
  za (qN x.1.rules) fun y7=>
  za (qN [(⟨x.2.1.kind,x.2.1.selectors,x.2.1.decls,(⟨x.2.1.cond.kind,x.2.1.cond.name,x.2.1.cond.num,x.2.1.cond.decl,x.2.1.cond.list⟩:zm),x.2.1.names,x.2.1.rules⟩:zC)]) fun y8=>
  bif y6.2 != 0 then
   za (zA (bif y6.2==18 then decide (w64 (y7+y8)>64)else false) (Vq 1000 ()) (default:Bool)) fun y9=>
   some (bif bif y6.2==18 then decide (w64 (y7+y8)>64)else false then y9 else false)
  else
   za (zA (!(decide (w64 (y7+y8)>64))) (Bq y6.1) (default:Int)) fun y10=>
   za (zA (!(bif decide (w64 (y7+y8)>64)then true else y10 != 0)) (Gl y6.1) (default:Int)) fun y11=>
   za (zA (!(bif bif bif decide (w64 (y7+y8)>64)then true else y10 != 0 then true else y11 != 0 then true else(y6.1.rules.length:Int) != w64 ((x.1.rules.length:Int)+1))) (geti y6.1.rules x.2.2) (default:zC)) fun y12=>
   za (zA (!(bif bif bif decide (w64 (y7+y8)>64)then true else y10 != 0 then true else y11 != 0 then true else(y6.1.rules.length:Int) != w64 ((x.1.rules.length:Int)+1))) (ZK ((⟨y12.kind,y12.selectors,y12.decls,(⟨y12.cond.kind,y12.cond.name,y12.cond.num,y12.cond.decl,y12.cond.list⟩:zm),y12.names,y12.rules⟩:zC),(⟨x.2.1.kind,x.2.1.selectors,x.2.1.decls,(⟨x.2.1.cond.kind,x.2.1.cond.name,x.2.1.cond.num,x.2.1.cond.decl,x.2.1.cond.list⟩:zm),x.2.1.names,x.2.1.rules⟩:zC))) (default:Bool)) fun y13=>
   need (decide (0<=x.2.2)&&decide (x.2.2<=(y6.1.rules.length:Int))|| !(!(bif bif bif bif decide (w64 (y7+y8)>64)then true else y10 != 0 then true else y11 != 0 then true else(y6.1.rules.length:Int) != w64 ((x.1.rules.length:Int)+1)then true else !y13)))<|
   need (decide (0<=x.2.2)&&decide (x.2.2<=(x.1.rules.length:Int))|| !(!(bif bif bif bif decide (w64 (y7+y8)>64)then true else y10 != 0 then true else y11 != 0 then true else(y6.1.rules.length:Int) != w64 ((x.1.rules.length:Int)+1)then true else !y13)))<|
   za (zA (!(bif bif bif bif decide (w64 (y7+y8)>64)then true else y10 != 0 then true else y11 != 0 then true else(y6.1.rules.length:Int) != w64 ((x.1.rules.length:Int)+1)then true else !y13)) (Vj ZK (List.take x.2.2.toNat y6.1.rules,List.take x.2.2.toNat x.1.rules)) (default:Bool)) fun y14=>
   need (decide (0<=w64 (x.2.2+1))&&decide (w64 (x.2.2+1)<=(y6.1.rules.length:Int))|| !(!(bif bif bif bif bif decide (w64 (y7+y8)>64)then true else y10 != 0 then true else y11 != 0 then true else(y6.1.rules.length:Int) != w64 ((x.1.rules.length:Int)+1)then true else !y13 then true else !y14)))<|
   need (decide (0<=x.2.2)&&decide (x.2.2<=(x.1.rules.length:Int))|| !(!(bif bif bif bif bif decide (w64 (y7+y8)>64)then true else y10 != 0 then true else y11 != 0 then true else(y6.1.rules.length:Int) != w64 ((x.1.rules.length:Int)+1)then true else !y13 then true else !y14)))<|
   za (zA (!(bif bif bif bif bif decide (w64 (y7+y8)>64)then true else y10 != 0 then true else y11 != 0 then true else(y6.1.rules.length:Int) != w64 ((x.1.rules.length:Int)+1)then true else !y13 then true else !y14)) (Vj ZK (List.drop (w64 (x.2.2+1)).toNat y6.1.rules,List.drop x.2.2.toNat x.1.rules)) (default:Bool)) fun y15=>
   bif bif bif bif bif bif bif decide (w64 (y7+y8)>64)then true else y10 != 0 then true else y11 != 0 then true else(y6.1.rules.length:Int) != w64 ((x.1.rules.length:Int)+1)then true else !y13 then true else !y14 then true else !y15 then
    some false
   else
    za (bz (y6.1,x.2.2)) fun y16=>
    za (zA (y16.2==0) (Vj ZK (y16.1.rules,x.1.rules)) (default:Bool)) fun y17=>
    za (zA (bif y16.2==0 then y17 else false) (Vq 1000 ()) (default:Bool)) fun y18=>
    some (bif bif y16.2==0 then y17 else false then y18 else false)
end Go.Lv.VT
end
