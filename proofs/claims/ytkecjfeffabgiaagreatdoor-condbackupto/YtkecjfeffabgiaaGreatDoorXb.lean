/- Lemmas on conditions: what the texts of the older seat had. -/
import Derived.Test.YtkecjfeffabgiaaGreatDoorXa
import Derived.Test.YtkecjfeffabgiaaGreatDoorTy
import Derived.Test.YtkecjfeffabgiaaGreatDoorMo
set_option linter.unusedSimpArgs false
set_option linter.unusedVariables false
namespace Go.Lv.VT
theorem Uq(x:zD):zx (Qs x)=3+x.name.length+zL zo x.value:=by simp only[Qs,zx,bPV,zL];omega
theorem Vn(x:zf):zx (zm x)=4+x.name.length+zx (Qs x.decl)+zL zm x.list - 1+1:=by rw[Uq];rw[zqH];simp only[zx,bPV,zL];omega
theorem YA(x:zD):1<=zx (Qs x):=by have:=Uq x;omega
theorem dI{α:Type}(l:List α):decide ((l.length:Int)>0)= !l.isEmpty:=by
 cases l with
 |nil=>rfl
 |cons a l=>exact Ga (by simp only[Fa];omega)
theorem zDj(x:zf):1<=zx (zm x):=by have:=Vn x;omega
theorem zIQ{a b:Nat}(h:a+b<=big):w64 ((a:Int)+(b:Int))=((a+b:Nat):Int):=by rw[w64,Zz (by omega) (by unfold big at h;omega)];omega
theorem Pz{d:zD}(h:zx (Qs d)<=big):szL d.value<=big/\d.name.length<=big:=by have:=Uq d;have:=Nr d.value;constructor<;>omega
theorem zoO{d:zD}(h:zx (Qs d)<=big):Pm d=some (bif Dg d then 0 else 8):=lM (Pz h).1 (Pz h).2
theorem Zd(c:zf):(⟨c.kind,c.name,c.num,c.decl,c.list⟩:zf)=c:=by cases c;rfl
def Vj(d:zD):Bool:=d.name==[]&&(d.value.isEmpty&& !d.important)
def Pg(c:zf):Bool:=c.name==[]&&(c.num==0&&Vj c.decl)
theorem jq(c:zf):QJ c=some (Pg c):=by unfold QJ Pg Vj;rw[QV];cases c.name==[]<;>cases c.num==0<;>cases c.decl.name==[]<;>cases c.decl.value.isEmpty<;>rfl
theorem AY(d:zD):fq d=some (Vj d):=by unfold fq Vj;rw[QV];cases d.name==[]<;>cases d.value.isEmpty<;>rfl
theorem DC(c:zf):QP c=some (Pg c):=by unfold QP Pg;simp only[AY,Zr,ze,Aa];cases c.name==[]<;>cases c.num==0<;>rfl
def keyS(x:Str):Bool:=x==[]||(x==[97,110,100]||(x==[111,114]||(x==[110,111,116]||x==[111,110,108,121])))
def medS(x:Str):Bool:= !keyS x&&(decide (x.length<=64)&&(lowS x==x&&Zy x))
theorem zjN(l:List Str)(x:Str)(h:l.length<=big):slices_Contains_string (l,x)=some (l.any fun v=>x==v):=by
 unfold slices_Contains_string slices_Index_string;refine KF (BF l (fun v=>x==v) h (fun i hi=> ?_) ?_) (RA _ _)
 ·simp only[ZF hi,Da,Zo hi,ze,Aa]
 ·simp only[qA,Ba]
theorem zHF(x:Str):(([[],[97,110,100],[111,114],[110,111,116],[111,110,108,121]]:List Str).any fun v=>x==v)=keyS x:=by simp only[List.any_cons,List.any_nil,Gd];rfl
theorem jX{x:Str}(h:x.length<=big):oq x=some (medS x):=by
 have e:decide ((x.length:Int)<=64)=decide (x.length<=64):=J7 _ 64;have e1:decide (Lib.indexByte x (0:Int).toNat.toUInt8<0)=Zy x:=by rw[l8,dE,Cg]
 have hcs:=zjN [[],[97,110,100],[111,114],[110,111,116],[111,110,108,121]] x (by decide);unfold oq medS;simp only[hcs,zHF,Lx h,Ou,Zr,ze,Aa,e];cases keyS x<;>cases decide (x.length<=64)<;>try rfl
 simp only[Ta,Da,Cb];cases lowS x==x
 ·rfl
 ·exact congrArg some e1
theorem zoj{x:Str}(h:x.length<=big):Jy x=some (medS x):=by
 have e:decide ((x.length:Int)>64)= !decide (x.length<=64):=ry _ 64;have ec:=IU x (lowS x);unfold Jy medS;simp only[zCf h,Zr,ze,Aa,e];have hl:Zj (fun(s1:Int)=>bif decide (s1<(x.length:Int))then
    (geti x s1).bind fun y2=>bif (y2.toNat:Int)==0 then some (LO.ret false)else some (LO.again (w64 (s1+1)))
   else some (LO.out ()):Int->Option (LO (Int) (Unit) _)) 0 (fun _=>some true)=some (Zy x):=by
  refine(MG x (fun b=>bif (!(b==0))then none else some false) () (fun i hi=> ?_) ?_).trans ?_
  ·simp only[ZF hi,Da,Zo hi,Aa,byte_zero,Zp hi h];cases x[i]==0<;>rfl
  ·simp only[qA,Ba]
  ·rw[GA];unfold Zy;cases x.all (fun b=> !(b==0))<;>rfl
 rw[hl];unfold keyS;cases x==[]<;>cases decide (x.length<=64)<;>cases x==[97,110,100]<;>cases x==[111,114]<;>cases x==[110,111,116]<;>cases x==[111,110,108,121]<;>
  first|rfl|(simp only[Da,Ba,Gd,Ta,Va,Cb,ec];cases lowS x==x<;>rfl)
def isN(n:Int):Bool:=decide (-1000000000000<=n)&&decide (n<=1000000000000)
theorem zv2(n:Int):Ww n=some (isN n):=by unfold Ww isN;show some (bif decide (-1000000000000<=n)then _ else _)=_;cases decide (-1000000000000<=n)<;>rfl
theorem jM(n:Int):Qt n=some (bif isN n then 0 else 8):=by
 unfold Qt mq;have e1:decide (n< -1000000000000)= !decide (-1000000000000<=n):=by have:=jD n (-1000000000000);show _= !decide (n>=_);rw[this,Cg]
 have e2:decide (n>1000000000000)= !decide (n<=1000000000000):=by have:=jD 1000000000000 n;show decide (1000000000000<n)= !decide (1000000000000>=n);rw[this,Cg]
 have:Zj (fun(s1:Int)=>
   bif decide (s1<(([n]:List Int).length:Int))then
    ze (geti [n] s1) fun y2=>
    bif bif decide (y2<(-1000000000000))then true else decide (y2>1000000000000)then
     some (LO.ret (8:Int))
    else
     some (LO.again (w64 (s1+1)))
   else
    some (LO.out ()):Int->Option (LO (Int) (Unit) Int)) 0 (fun o3=>some (0:Int))=some (bif isN n then 0 else 8):=by
  refine(MG [n] (fun n=>bif isN n then none else some 8) () (fun i hi=> ?_) ?_).trans ?_
  ·obtain rfl:i=0:=by simpa using hi
   simp only[ZF hi,Da,Zo hi,ze,Aa,List.getElem_cons_zero,e1,e2,isN];cases decide (-1000000000000<=n)<;>cases decide (n<=1000000000000)<;>rfl
  ·simp only[qA,Ba]
  ·rw[GA];simp only[Od,List.all_nil,ib];cases isN n<;>rfl
 rw[this];rfl
def ag(first:Bool)(y:zf):Bool:=
 y.list.isEmpty&&(Vj y.decl&&((first&&(y.kind==4&&(y.num==0&&medS y.name)))||((y.kind==5||y.kind==6)&&(y.name==[]&&(decide (0<=y.num)&&isN y.num)))))
def Dq(l:List zf):Bool:=(List.range l.length).all fun i=>ag (i==0) (l.getD i default)
def qL(c:zf):Bool:=c.kind==1&&(Pg c&&(!c.list.isEmpty&&Dq c.list))
def jm(c:zf):Bool:=match c.list with
 |[]=>false
 |y::_=>y.kind==4
theorem zFJ(i:Nat):((i:Int)==0)=(i==0):=by rw[Kg,Bb,Bb];omega
theorem zIs(i:Nat):decide ((i:Int)>0)= !(i==0):=by
 cases i with
 |zero=>rfl
 |succ i=>exact Ga (by omega)
theorem zA7{c:zf}(h:zx (zm c)<=big)(i:Nat)(R:Type)(A:Option R)(k:Int->Option R):
  (Zk (X:=Int) (
       ze (zA (!(decide ((c.list.length:Int)>0))) (QJ (⟨c.kind,[],0,c.decl,c.list⟩:zf)) (default:Bool)) fun y4=>
       bif bif decide ((c.list.length:Int)>0)then true else !y4 then
        A.map LX.ret
       else
        bif c.kind==4 then
         ze (zA (!(bif decide ((i:Int)>0)then true else c.num != 0)) (oq c.name) (default:Bool)) fun y5=>
         bif bif bif decide ((i:Int)>0)then true else c.num != 0 then true else !y5 then
          A.map LX.ret
         else
          some (LX.out (i:Int))
        else
         Zk (X:=Bool) (
           bif c.kind==5 then
            some (LX.out (c.kind==5))
           else
            some (LX.out (c.kind==6))) fun j6=>
         bif j6 then
          ze (zA (!(bif !(c.name==[])then true else decide (c.num<0))) (Qt c.num) (default:Int)) fun y7=>
          bif bif bif !(c.name==[])then true else decide (c.num<0)then true else y7 != 0 then
           A.map LX.ret
          else
           some (LX.out (i:Int))
         else
          A.map LX.ret) k)=bif ag (i==0) c then k (i:Int)else A:=by
 have hz:=Vn c;have hn:c.name.length<=big:=by have:=YA c.decl;omega
 have hA:Zk (A.map LX.ret) k=A:=by cases A<;>rfl
 have e1:decide (c.num<0)= !decide (0<=c.num):=by have:=jD c.num 0;show _= !decide (c.num>=0);rw[this,Cg]
 have e2:((bif isN c.num then(0:Int)else 8) != 0)= !isN c.num:=by cases isN c.num<;>rfl
 have eb:Pg ⟨c.kind,[],0,c.decl,c.list⟩=Vj c.decl:=rfl;unfold ag;simp only[jq,eb,dI,Zr,ze,Aa,jX hn,jM,zIs i,e1,bne];cases c.list.isEmpty with
 |false=>exact hA
 |true=>
  cases Vj c.decl with
  |false=>exact hA
  |true=>
   simp only[Va,Ta,Da,Ba,Cb];by_cases k4:c.kind=4
   ·simp only[k4,Int.reduceBEq,Da,Gd,Ub,Cb];cases (i==0)<;>cases c.num==0<;>cases medS c.name<;>first|rfl|exact hA
   ·have b4:=Ha.2 k4;simp only[b4,Ba,Ub,Ic,Jc];by_cases k5:c.kind=5
    ·simp only[k5,Int.reduceBEq,Da,zq,Td,Cb];cases c.name==[]<;>cases decide (0<=c.num)<;>cases isN c.num<;>first|rfl|exact hA
    ·have b5:=Ha.2 k5;simp only[b5,Ba,zq,Jc];cases c.kind==6
     ·exact hA
     ·cases c.name==[]<;>cases decide (0<=c.num)<;>cases isN c.num<;>first|rfl|exact hA
theorem qx{c y:zf}(h:y∈c.list):zx (zm y)<zx (zm c):=by have hz:=Vn c;have:=DD (f:=zm) h;have:=YA c.decl;omega
theorem Nl(c:zf):c.list.length<=zx (zm c):=by have hz:=Vn c;have:=ED zDj c.list;have:=YA c.decl;omega
theorem JB(c:zf):zx (Qs c.decl)<=zx (zm c):=by have hz:=Vn c;omega
theorem MX{c:zf}(h:zx (zm c)<=big):Dx c=some (qL c):=by
 have hlen:=Nl c;unfold Dx qL;simp only[Zd,jq,Zr,ze,Aa,QV,bne];cases c.kind==1 with
 |false=>rfl
 |true=>
  cases Pg c with
  |false=>rfl
  |true=>
   cases c.list.isEmpty with
   |true=>rfl
   |false=>
    simp only[Va,Ta,Da,Ba,Cb];refine(KM c.list.length (fun i=>ag (i==0) (c.list.getD i default)) false (fun i hi=> ?_) ?_).trans ?_
    ·have hm:=qx (jb hi);have hgd:c.list.getD i default=c.list[i]:=by simp[hi]
     have:=zA7 (c:=c.list[i]) (by omega) i (LO Int Unit Bool) (some (LO.ret false)) fun j=>some (.again (w64 (j+1)));simp only[jq,DC,Zr,ze,Aa,bne,jc]at this;simp only[ZF hi,Da,Zo hi,Aa,hgd];refine this.trans ?_;rw[Zp hi (by omega)];cases ag (i==0) c.list[i]<;>rfl
    ·simp only[qA,Ba]
    ·unfold Dq;cases (List.range c.list.length).all fun i=>ag (i==0) (c.list.getD i default)<;>rfl
theorem zEm{c:zf}(h:zx (zm c)<=big)(i:Nat)(R:Type)(A:Option R)(k:Int->Option R):
  (Zk (X:=Int) (
       ze (zA (!(decide ((c.list.length:Int)>0))) (fq c.decl) (default:Bool)) fun y4=>
       bif bif decide ((c.list.length:Int)>0)then true else !y4 then
        A.map LX.ret
       else
        ze (zA (bif bif (i:Int)==0 then c.kind==4 else false then c.num==0 else false) (Jy c.name) (default:Bool)) fun y5=>
        bif bif bif bif (i:Int)==0 then c.kind==4 else false then c.num==0 else false then y5 else false then
         some (LX.out (i:Int))
        else
         ze (zA (!(bif bif bif c.kind != 5 then c.kind != 6 else false then true else !(c.name==[])then true else decide (c.num<0))) (Ww c.num) (default:Bool)) fun y6=>
         bif bif bif bif bif c.kind != 5 then c.kind != 6 else false then true else !(c.name==[])then true else decide (c.num<0)then true else !y6 then
          A.map LX.ret
         else
          some (LX.out (i:Int))) k)=bif ag (i==0) c then k (i:Int)else A:=by
 have hz:=Vn c;have hn:c.name.length<=big:=by have:=YA c.decl;omega
 have hA:Zk (A.map LX.ret) k=A:=by cases A<;>rfl
 have e1:decide (c.num<0)= !decide (0<=c.num):=by have:=jD c.num 0;show _= !decide (c.num>=0);rw[this,Cg]
 unfold ag;simp only[AY,dI,Zr,ze,Aa,zoj hn,zv2,zFJ i,e1,bne];cases c.list.isEmpty with
 |false=>exact hA
 |true=>
  cases Vj c.decl with
  |false=>exact hA
  |true=>
   simp only[Va,Ta,Da,Ba,Cb];by_cases k4:c.kind=4
   ·simp only[k4,Int.reduceBEq,Da,Gd,Ub,Cb,Ta,Nf];cases (i==0)<;>cases c.num==0<;>cases medS c.name<;>first|rfl|exact hA
   ·have b4:=Ha.2 k4;have hc:(bif bif (i==0)then false else false then c.num==0 else false)=false:=by cases (i==0)<;>rfl
    simp only[b4,hc,Ba,Ub,Ic,Jc];cases c.kind==5<;>cases c.kind==6<;>cases c.name==[]<;>cases decide (0<=c.num)<;>cases isN c.num<;>first|rfl|exact hA
theorem NW{c:zf}(h:zx (zm c)<=big):ow c=some (qL c,qL c&&jm c):=by
 have hlen:=Nl c;unfold ow qL;simp only[Zd,DC,Zr,ze,Aa,QV,bne];cases c.kind==1 with
 |false=>rfl
 |true=>
  cases Pg c with
  |false=>rfl
  |true=>
   cases he:c.list.isEmpty with
   |true=>rfl
   |false=>
    simp only[Va,Ta,Da,Ba,Cb];refine(KM c.list.length (fun i=>ag (i==0) (c.list.getD i default)) (false,false) (fun i hi=> ?_) ?_).trans ?_
    ·have hm:=qx (jb hi);have hgd:c.list.getD i default=c.list[i]:=by simp[hi]
     have:=zEm (c:=c.list[i]) (by omega) i (LO Int Unit (Bool×Bool)) (some (LO.ret (false,false))) fun j=>some (.again (w64 (j+1)));simp only[jq,DC,Zr,ze,Aa,bne,jc]at this;simp only[ZF hi,Da,Zo hi,Aa,hgd];refine this.trans ?_;rw[Zp hi (by omega)];cases ag (i==0) c.list[i]<;>rfl
    ·simp only[qA,Ba]
    ·unfold Dq jm;cases hl:c.list with
     |nil=>rw[hl]at he;cases he
     |cons y r=> have:geti (y::r) 0=some y:=rfl;simp only[this,Aa];cases (List.range (y::r).length).all fun i=>ag (i==0) ((y::r).getD i default)<;>rfl
theorem zqv(c:zf):FB c=some (jm c):=by
 unfold FB jm;cases c.list with
 |nil=>rfl
 |cons y r=> have e1:decide (((y::r).length:Int)>0)=true:=Ga (by simp only[Fa];omega);have e2:geti (y::r) 0=some y:=rfl;simp only[e1,e2,zB,ze,Aa,Da]
def Vg(c:zf):Bool:=bif c.kind==3 then Pg c&&(match c.list with
 |[y]=>qL y&&jm y
 |_=>false)else qL c
theorem zA8{α:Type}(y z:α)(r:List α):(((y::z::r).length:Int)==1)=false:=Ha.2 (by simp only[Fa];omega)
theorem zsP{c:zf}(h:zx (zm c)<=big):dA c=some (Vg c):=by
 unfold dA Vg;simp only[Zd,jq,ze,Aa,MX h,zqv];cases c.kind==3 with
 |false=>rfl
 |true=>
  simp only[Da];cases Pg c with
  |false=>rfl
  |true=>
   cases hl:c.list with
   |nil=>rfl
   |cons y r=>
    cases r with
    |nil=>
     have hm:=qx (c:=c) (y:=y) (by rw[hl];exact Fb);have e2:geti [y] 0=some y:=rfl;have e3:(([y]:List zf).length:Int)==1:=rfl;simp only[e2,e3,Da,zB,Aa,MX (show zx (zm y)<=big by omega),Cb];cases qL y
     ·rfl
     ·simp only[zB,Aa,Da,Cb]
    |cons z r=> simp only[zA8,Da,Zw,Aa,Ba,Ic]
theorem zpg{c:zf}(h:zx (zm c)<=big):Rx c=some (Vg c):=by
 unfold Rx Vg;simp only[Zd,DC,ze,Aa,NW h,bne];cases c.kind==3 with
 |false=>rfl
 |true=>
  simp only[Da];cases Pg c with
  |false=>rfl
  |true=>
   cases hl:c.list with
   |nil=>rfl
   |cons y r=>
    cases r with
    |nil=>
     have hm:=qx (c:=c) (y:=y) (by rw[hl];exact Fb);have e2:geti [y] 0=some y:=rfl;have e3:(([y]:List zf).length:Int)==1:=rfl;simp only[e2,e3,Ba,Va,Aa,NW (show zx (zm y)<=big by omega),Cb];cases qL y<;>cases jm y<;>rfl
    |cons z r=> simp only[zA8,Va,Ta,Ba,Da,Ic]
def Zu(c:zf):Bool:=Pg c&&((c.kind==1&&c.list.isEmpty)||(c.kind==2&&(!c.list.isEmpty&&(decide (c.list.length<=64)&&c.list.all Vg))))
theorem zqx{l:List zf}(hl:l.length<=big)(h: ∀c∈l,zx (zm c)<=big):qc l=some (!l.all Vg):=by
 unfold qc QS;refine KF (BF l (fun c=> !Vg c) hl (fun i hi=> ?_) ?_) ((RA _ _).trans (zGM _ _))
 ·have:Q8 l[i]=some (!Vg l[i]):=by unfold Q8;simp only[Zd,zsP (h _ (jb hi)),ze,Aa]
  simp only[ZF hi,Da,Zo hi,ze,Aa,Zd,this]
 ·simp only[qA,Ba]
theorem mY{c:zf}(h:zx (zm c)<=big):Qq c=some (bif Zu c then 0 else 8):=by
 have hlen:=Nl c;have e:decide ((c.list.length:Int)<=64)=decide (c.list.length<=64):=J7 _ 64;unfold Qq Zu;simp only[Zd,jq,zqx (show c.list.length<=big by omega) (fun y hy=>by have:=qx hy;omega),Zr,ze,Aa,dI,QV,e];have h12:c.kind==1->c.kind==2->False:=fun a b=>by rw[Bb]at a b;omega
 cases Pg c with
 |false=>rfl
 |true=> cases c.kind==1<;>cases c.kind==2<;>cases c.list.isEmpty<;>cases decide (c.list.length<=64)<;>cases c.list.all Vg<;>rfl
theorem zoi{c:zf}(h:zx (zm c)<=big):bB c=some (Zu c):=by
 have hlen:=Nl c;have e:decide ((c.list.length:Int)>64)= !decide (c.list.length<=64):=ry _ 64;unfold bB Zu;simp only[Zd,DC,ze,Aa,zvG,QV,e,bne];cases Pg c with
 |false=>rfl
 |true=>
  simp only[Va,Ba,Cb];by_cases k1:c.kind=1
  ·simp only[k1,Int.reduceBEq,Da,Cb,Ub,Gd]
  ·have b1:=Ha.2 k1;simp only[b1,Ba,Ub,Jc];have hl:Zj (fun(s2:Int)=>
      bif decide (s2<(c.list.length:Int))then
       (geti c.list s2).bind fun y3=>
       (Rx y3).bind fun y4=>
       bif !y4 then
        some (LO.ret false)
       else
        some (LO.again (w64 (s2+1)))
      else
       some (LO.out ()):Int->Option (LO (Int) (Unit) _)) 0 (fun _=>some true)=some (c.list.all Vg):=by
    refine(MG c.list (fun v=>bif Vg v then none else some false) () (fun i hi=> ?_) ?_).trans ?_
    ·have hm:=qx (jb hi);simp only[ZF hi,Da,Zo hi,Aa,zpg (show zx (zm c.list[i])<=big by omega),Zp hi (show c.list.length<=big by omega)];cases Vg c.list[i]<;>rfl
    ·simp only[qA,Ba]
    ·rw[GA];cases c.list.all Vg<;>rfl
   rw[hl];cases c.kind==2<;>cases c.list.isEmpty<;>cases decide (c.list.length<=64)<;>rfl
theorem tH{n:Nat}(h:n<=big):w64 ((n:Int)+1)=((n+1:Nat):Int):=by rw[w64,Zz (by omega) (by unfold big at h;omega)];omega
theorem Rq{α:Type}(f:α->Nat): ∀{l:List α} {i:Nat} (h:i<l.length),((l.take (i+1)).map f).sum=((l.take i).map f).sum+f l[i]
 |[],_,h=>by cases h
 |v::l,0,_=>by simp
 |v::l,i+1,h=>by simp only[Fe,Yb,Me,List.getElem_cons_succ];rw[Rq f (l:=l) (i:=i) (by simpa using h)];omega
theorem yx{α:Type}(f:α->Nat): ∀(l:List α) (i:Nat),((l.take i).map f).sum<=(l.map f).sum
 |[],_=>by simp
 |v::l,0=>by simp
 |v::l,i+1=>by simp only[Fe,Yb,Me];have:=yx f l i;omega
theorem C9{α:Type}(f:α->Nat): ∀{l:List α} {i:Nat} (h:i<l.length),mx f (l.take (i+1))=max (mx f (l.take i)) (f l[i])
 |[],_,h=>by cases h
 |v::l,0,_=>by simp[mx]
 |v::l,i+1,h=>by simp only[Fe,mx,List.getElem_cons_succ];rw[C9 f (l:=l) (i:=i) (by simpa using h)];omega
theorem MR{α:Type}(p:α->Bool): ∀{l:List α} {i:Nat} (h:i<l.length),(l.take (i+1)).all p=((l.take i).all p&&p l[i])
 |[],_,h=>by cases h
 |v::l,0,_=>by simp
 |v::l,i+1,h=>by simp only[Fe,Od,List.getElem_cons_succ];rw[MR p (l:=l) (i:=i) (by simpa using h),af]
theorem zGK{α:Type}{p:α->Bool}{l:List α}{i:Nat}(h:i<l.length)(hp:p l[i]=false):l.all p=false:=by rw[List.all_eq_false];exact⟨l[i],jb h,by rw[hp];simp⟩
mutual
def sizC:zf->Nat
 |⟨_,_,_,_,l⟩=>1+ik l
def ik:List zf->Nat
 |[]=>0
 |c::r=>sizC c+ik r
end
theorem kS(l:List zf):ik l=(l.map sizC).sum:=by
 induction l with
 |nil=>rw[ik];rfl
 |cons c l ih=>rw[ik,ih];rfl
theorem QD(c:zf):sizC c=1+(c.list.map sizC).sum:=by obtain⟨k,n,m,d,l⟩:=c;rw[sizC,kS]
theorem zFg: ∀l:List zf,ik l<=zL zm l:=by
 have key: ∀(n:Nat) (l:List zf),zL zm l<n->ik l<=zL zm l:=by
  intro n
  induction n with
  |zero=>intro l h;omega
  |succ n ih=>
   intro l
   induction l with
   |nil=>intro _;rw[ik];exact Kc _
   |cons v l ihl=> intro h;rw[Qf]at h ⊢;rw[ik,QD,<-kS];have hz:=Vn v;have hd:=YA v.decl;have h1:=ih v.list (by omega);have h2:=ihl (by omega);omega
 exact fun l=>key _ l (Bf _)
theorem DI(c:zf):sizC c<=zx (zm c):=by have:=zFg [c];rw[ik,ik,Qf,I6]at this;omega
theorem zpe{c:zf}{m:Nat}(h:zx (zm c)<=big)(hm:m<=big):
  ∃r:Nat,Qo (c,(m:Int))=some (r:Int)/\r<=sizC c/\(sizC c<=m->r=sizC c)/\(m<sizC c->m<r):=by
 have key: ∃y:Int,Qo (c,(m:Int))=some y/\ ∃r:Nat,y=(r:Int)/\r<=sizC c/\ ∀m':Nat,(m:Int)=(m':Int)->(sizC c<=m'->r=sizC c)/\(m'<sizC c->m'<r):=by
  refine Ws znO (fun x:zf×Int=>zx (zm x.1)) (fun x=>zx (zm x.1)<=big/\ ∃m:Nat,x.2=(m:Int)/\m<=big)
   (fun x (y:Int)=> ∃r:Nat,y=(r:Int)/\r<=sizC x.1/\ ∀m':Nat,x.2=(m':Int)->(sizC x.1<=m'->r=sizC x.1)/\(m'<sizC x.1->m'<r)) (fun S x hx hS=> ?_) (x:=(c,(m:Int))) ⟨h,m,rfl,hm⟩
  obtain⟨c,n⟩:=x;obtain⟨hc,m,hn,hm⟩:=hx;have hn:n=(m:Int):=hn;have hc:zx (zm c)<=big:=hc;subst hn;have hlen:=Nl c;have hsz:=DI c;have he:=QD c;unfold Ny;have hw: ∀a:Nat,a<=big->w64 ((a:Int)+0)=(a:Int):=fun a ha=>by rw[w64,Zz (by omega) (by unfold big at ha;omega)];omega
  refine Yw (A:=Nat) c.list.length (fun i a=>((a:Int),(i:Int))) (fun i a=>a<=1+((c.list.take i).map sizC).sum/\(1+((c.list.take i).map sizC).sum<=m->a=1+((c.list.take i).map sizC).sum)/\(m<1+((c.list.take i).map sizC).sum->m<a)) _ (a0:=1) rfl (by simp) (fun i a hi hI=> ?_) (fun a hI=> .inl ?_)
  ·obtain⟨i1,i2,i3⟩:=hI;have ht:=yx sizC c.list i;have ht1:=yx sizC c.list (i+1);rw[Rq sizC hi]at ht1;have hmm:=qx (jb hi);by_cases ham:a<=m
   ·have ha:a=1+((c.list.take i).map sizC).sum:=i2 (by omega);have e1:decide ((a:Int)<=(m:Int))=true:=Ga (by omega);have hw2:w64 ((m:Int) - (a:Int))=((m - a:Nat):Int):=by rw[w64,Zz (by omega) (by unfold big at hm;omega)];omega
    obtain⟨y,hy1,r,hy2,hy3,hy4⟩:=hS (c.list[i],((m - a:Nat):Int)) ⟨by show zx (zm c.list[i])<=big;omega,m - a,rfl,by omega⟩ hmm;have hy3:r<=sizC c.list[i]:=hy3;obtain⟨hy5,hy6⟩:=hy4 (m - a) rfl;have hy5:sizC c.list[i]<=m - a->r=sizC c.list[i]:=hy5;have hy6:m - a<sizC c.list[i]->m - a<r:=hy6;have hw3:w64 ((a:Int)+(r:Int))=((a+r:Nat):Int):=zIQ (by omega);refine .inl ⟨a+r,?_,?_,?_,?_⟩
    ·simp only[ZF hi,e1,Da,Zo hi,ze,Aa,Zd,hw2,hy1,hy2,hw3,Zp hi (show c.list.length<=big by omega)]
    ·rw[Rq sizC hi];omega
    ·rw[Rq sizC hi];omega
    ·rw[Rq sizC hi];omega
   ·have e1:decide ((a:Int)<=(m:Int))=false:=Db (by omega);refine .inr (.inr ⟨(a:Int),?_,(a:Int),rfl,a,rfl,?_,fun m' hm'=>⟨fun h=> ?_,fun h=> ?_⟩⟩)
    ·simp only[ZF hi,e1,Da,Ba]
    ·show a<=sizC c;omega
    ·have hm':(m:Int)=(m':Int):=hm';have h:sizC c<=m':=h;show a=sizC c;omega
    ·have hm':(m:Int)=(m':Int):=hm';show m'<a;omega
  ·rw[Yc]at hI;obtain⟨i1,i2,i3⟩:=hI;refine⟨(a:Int),?_,(a:Int),rfl,a,rfl,?_,fun m' hm'=>⟨fun h=> ?_,fun h=> ?_⟩⟩
   ·simp only[qA,Ba]
   ·show a<=sizC c;omega
   ·have hm':(m:Int)=(m':Int):=hm';have h:sizC c<=m':=h;show a=sizC c;omega
   ·have hm':(m:Int)=(m':Int):=hm';have h:m'<sizC c:=h;show m'<a;omega
 obtain⟨y,h1,r,rfl,h2,h3⟩:=key;exact⟨r,h1,h2,h3 m rfl⟩
def Qk(c:zf):Bool:=c.kind==7||c.kind==8
mutual
def Vh:zf->Nat
 |⟨k,_,_,d,l⟩=>bif k==7 then 1+ZP d.value else bif k==8 then 1 else Fz l
def Fz:List zf->Nat
 |[]=>0
 |c::r=>max ((bif Qk c then 0 else 1)+Vh c) (Fz r)
end
def Pj(c:zf):Nat:=(bif Qk c then 0 else 1)+Vh c
theorem zAh(l:List zf):Fz l=mx Pj l:=by
 induction l with
 |nil=>rw[Fz];rfl
 |cons c l ih=>rw[Fz,ih];rfl
theorem NK(c:zf):Vh c=bif c.kind==7 then 1+ZP c.decl.value else bif c.kind==8 then 1 else mx Pj c.list:=by obtain⟨k,n,m,d,l⟩:=c;rw[Vh,zAh]
theorem zDQ: ∀c:zf,Vh c<=zx (zm c):=by
 have key: ∀(n:Nat) (c:zf),zx (zm c)<n->Vh c<=zx (zm c):=by
  intro n
  induction n with
  |zero=>intro c h;omega
  |succ n ih=>
   intro c h;have hz:=Vn c;have hd:=Uq c.decl;rw[NK];cases c.kind==7 with
   |true=> have h1:=Pw c.decl.value;have h2:=Nr c.decl.value;simp only[Da];omega
   |false=>
    cases c.kind==8 with
    |true=>simp only[Da,Ba];omega
    |false=>
     simp only[Ba];have: ∀l:List zf,(∀y∈l,y∈c.list)->mx Pj l<=1+zL zm l:=by
      intro l
      induction l with
      |nil=>intro _;exact Kc _
      |cons y l ihl=>
       intro hl;have h1:=ihl fun z hz=>hl z (ja _ hz);have h2:=qx (hl y Fb);have h3:=ih y (by omega);have h4:Pj y<=1+Vh y:=by unfold Pj;cases Qk y<;>simp only[Da,Ba]<;>omega
       rw[mx,Qf];omega
     have:=this c.list fun _ h=>h;omega
 exact fun c=>key _ c (Bf _)
mutual
def supC:zf->Bool
 |⟨k,n,m,d,l⟩=>bif k==7 then l.isEmpty&&(n==[]&&(m==0&&Dg d))else bif k==8 then l.isEmpty&&Pg ⟨k,n,m,d,l⟩else
  (k==3||(k==1||k==2))&&(Pg ⟨k,n,m,d,l⟩&&((bif k==3 then l.length==1 else decide (2<=l.length))&&WC l))
def WC:List zf->Bool
 |[]=>true
 |c::r=>supC c&&WC r
end
theorem zCS(l:List zf):WC l=l.all supC:=by
 induction l with
 |nil=>rw[WC];rfl
 |cons c l ih=>rw[WC,ih];rfl
theorem Jj(c:zf):supC c=bif c.kind==7 then c.list.isEmpty&&(c.name==[]&&(c.num==0&&Dg c.decl))else bif c.kind==8 then c.list.isEmpty&&Pg c else
  (c.kind==3||(c.kind==1||c.kind==2))&&(Pg c&&((bif c.kind==3 then c.list.length==1 else decide (2<=c.list.length))&&c.list.all supC)):=by
 obtain⟨k,n,m,d,l⟩:=c;rw[supC,zCS]
theorem zJN{α:Type}(l:List α):decide ((l.length:Int)<2)= !decide (2<=l.length):=by
 by_cases h:2<=l.length
 ·rw[Ga h,Db (by omega)];rfl
 ·rw[Db h,Ga (by omega)];rfl
theorem zEq{α:Type}(l:List α):((l.length:Int)==1)=(l.length==1):=by rw[Kg,Bb,Bb];omega
theorem jW(c:zf):Wt c=some (Qk c):=by unfold Wt Qk;cases c.kind==7<;>rfl
theorem Qe(c:zf):1<=sizC c:=by rw[QD];omega
theorem zqt{c:zf}{m:Nat}(h:zx (zm c)<=big)(hm:m<=1500):
  ∃y:(Int×Bool)×Int,yj (c,(m:Int))=some y/\y.1.2=(supC c&&decide (m+sizC c<=1500))/\(y.1.2=true->y.1.1=(Vh c:Int)/\y.2=((m+sizC c:Nat):Int)):=by
 have key: ∃y:(Int×Bool)×Int,yj (c,(m:Int))=some y/\ ∀m':Nat,(m:Int)=(m':Int)->y.1.2=(supC c&&decide (m'+sizC c<=1500))/\(y.1.2=true->y.1.1=(Vh c:Int)/\y.2=((m'+sizC c:Nat):Int)):=by
  refine Ws zoW (fun x:zf×Int=>zx (zm x.1)) (fun x=>zx (zm x.1)<=big/\ ∃m:Nat,x.2=(m:Int)/\m<=1500)
   (fun x (y:(Int×Bool)×Int)=> ∀m':Nat,x.2=(m':Int)->y.1.2=(supC x.1&&decide (m'+sizC x.1<=1500))/\(y.1.2=true->y.1.1=(Vh x.1:Int)/\y.2=((m'+sizC x.1:Nat):Int))) (fun S x hx hS=> ?_) (x:=(c,(m:Int))) ⟨h,m,rfl,hm⟩
  obtain⟨c,n⟩:=x;obtain⟨hc,m,hn,hm⟩:=hx;have hn:n=(m:Int):=hn;have hc:zx (zm c)<=big:=hc;subst hn;have hlen:=Nl c;have hd:=JB c;have hsz:=DI c;have he:=QD c;have hv:=Nr c.decl.value;have hzd:=Uq c.decl;have fin: ∀(d:Int) (b:Bool) (n:Int),b=(supC c&&decide (m+sizC c<=1500))->(b=true->d=(Vh c:Int)/\n=((m+sizC c:Nat):Int))->
    ∀m':Nat,(m:Int)=(m':Int)->b=(supC c&&decide (m'+sizC c<=1500))/\(b=true->d=(Vh c:Int)/\n=((m'+sizC c:Nat):Int)):=by
   intro d b n h1 h2 m' hm';obtain rfl:m=m':=by omega
   exact⟨h1,h2⟩
  have hw:w64 ((m:Int)+1)=((m+1:Nat):Int):=tH (by unfold big;omega);unfold Xx;simp only[hw,Zd];by_cases hm1:m+1>1500
  ·have e1:decide (((m+1:Nat):Int)>1500)=true:=Ga (by omega);simp only[e1,Da];have e2:decide (m+sizC c<=1500)=false:=Db (by omega);exact⟨_,rfl,fin _ _ _ (by rw[e2,Ic]) (fun h=>by cases h)⟩
  have e1:decide (((m+1:Nat):Int)>1500)=false:=Db (by omega);simp only[e1,Ba];have hs:=Jj c;have hdp:=NK c;cases h7:c.kind==7 with
  |true=>
   rw[h7]at hs hdp;simp only[Da]at hs hdp ⊢;rw[zyQ (show szL c.decl.value<=big by omega),zoO (show zx (Qs c.decl)<=big by omega)];simp only[ze,Aa,QV,Zr];refine⟨_,rfl,fin _ _ _ ?_ ?_⟩
   ·rw[hs];have hde:Dg c.decl=(Dg c.decl&&(errS c.decl.value==0)):=by unfold Dg;cases Sm c.decl.name<;>cases errS c.decl.value==0<;>simp
    cases hle:c.list.isEmpty with
    |false=>rfl
    |true=>
     have hl:c.list=[]:=Uc.1 hle;rw[hl]at he;have e2:decide (m+sizC c<=1500)=true:=Ga (by rw[he];simp;omega);rw[e2];by_cases her:errS c.decl.value=0
     ·rw[Ka her];cases c.name==[]<;>cases c.num==0<;>cases Dg c.decl<;>rfl
     ·rw[Ia her];have her':=Ha.2 her;rw[her',Ic]at hde;rw[hde];simp only[her'];cases c.name==[]<;>cases c.num==0<;>rfl
   ·intro hf;have her:errS c.decl.value=0:=by
     by_cases her:errS c.decl.value=0
     ·exact her
     ·rw[Ia her]at hf;have her':=Ha.2 her;simp only[her']at hf;revert hf;cases c.list.isEmpty<;>cases c.name==[]<;>cases c.num==0<;>intro h<;>cases h
    have hl:c.list=[]:=by
     cases hle:c.list.isEmpty with
     |true=>exact Uc.1 hle
     |false=>rw[hle]at hf;cases hf
    have h1:=Pw c.decl.value;rw[Ka her,hdp];rw[hl]at he;simp only[tH (show ZP c.decl.value<=big by omega)];refine⟨by rw[Nat.add_comm],?_⟩;rw[he];rfl
  |false=>
   rw[h7]at hs hdp;simp only[Ba]at hs hdp ⊢;cases h8:c.kind==8 with
   |true=>
    rw[h8]at hs hdp;simp only[Da]at hs hdp ⊢;simp only[ze,Aa,QV,Zr,jq];refine⟨_,rfl,fin _ _ _ ?_ ?_⟩
    ·rw[hs];cases hle:c.list.isEmpty with
     |false=>rfl
     |true=> have hl:c.list=[]:=Uc.1 hle;rw[hl]at he;have e2:decide (m+sizC c<=1500)=true:=Ga (by rw[he];simp;omega);rw[e2];cases Pg c<;>rfl
    ·intro hf;have hl:c.list=[]:=by
      cases hle:c.list.isEmpty with
      |true=>exact Uc.1 hle
      |false=>rw[hle]at hf;cases hf
     rw[hl]at he;rw[hdp,he];exact⟨rfl,rfl⟩
   |false=>
    rw[h8]at hs hdp;simp only[Ba]at hs hdp ⊢;have hj: ∀{R:Type} (k:Bool->Option R),Zk (X:=Bool) (bif c.kind==3 then some (LX.out (c.kind==3))else bif c.kind==1 then some (LX.out (c.kind==1))else some (LX.out (c.kind==2))) k=k (c.kind==3||(c.kind==1||c.kind==2)):=by intro R k;cases c.kind==3<;>cases c.kind==1<;>rfl
    rw[hj];cases hk:(c.kind==3||(c.kind==1||c.kind==2))with
    |false=>
     rw[hk]at hs;exact⟨_,rfl,fin _ _ _ (by rw[hs];rfl) (fun h=>by cases h)⟩
    |true=>
     rw[hk]at hs;simp only[Da,Cb]at hs ⊢;have hg:(bif bif !Pg c then true else bif c.kind==3 then(c.list.length:Int) != 1 else false then true else bif c.kind != 3 then decide ((c.list.length:Int)<2)else false)= !(Pg c&&(bif c.kind==3 then c.list.length==1 else decide (2<=c.list.length))):=by rw[zJN,bne,bne,zEq];cases Pg c<;>cases c.kind==3<;>cases c.list.length==1<;>rfl
     simp only[jq,ze,Aa,hg];cases hb:(Pg c&&(bif c.kind==3 then c.list.length==1 else decide (2<=c.list.length)))with
     |false=>
      rw[<-af,hb]at hs;exact⟨_,rfl,fin _ _ _ (by rw[hs];rfl) (fun h=>by cases h)⟩
     |true=>
      rw[<-af,hb,Cb]at hs;simp only[Va,Ba];refine Yw (A:=Nat×Nat) c.list.length (fun i a=>(((a.1:Int),(i:Int)),(a.2:Int))) (fun i a=>a.2=m+1+((c.list.take i).map sizC).sum/\a.2<=1500/\a.1=mx Pj (c.list.take i)/\(c.list.take i).all supC=true) _ (a0:=(0,m+1)) rfl ⟨by simp,by show m+1<=1500;omega,by simp[mx],by simp⟩ (fun i a hi hI=> ?_) (fun a hI=> .inl ?_)
      ·obtain⟨i1,i2,i3,i4⟩:=hI;have ht:=yx sizC c.list (i+1);rw[Rq sizC hi]at ht;have hmm:=qx (jb hi);obtain⟨y,hy1,hy2⟩:=hS (c.list[i],(a.2:Int)) ⟨by show zx (zm c.list[i])<=big;omega,a.2,rfl,i2⟩ hmm;obtain⟨hy3,hy4⟩:=hy2 a.2 rfl;have hy3:y.1.2=(supC c.list[i]&&decide (a.2+sizC c.list[i]<=1500)):=hy3;simp only[ZF hi,Da,Zo hi,Aa,Zd,hy1];cases hf:y.1.2 with
       |false=>
        refine .inr (.inl ⟨_,rfl,fin _ _ _ ?_ (fun h=>by cases h)⟩);rw[hf]at hy3;cases hsi:supC c.list[i]with
        |false=>rw[hs,zGK hi hsi];rfl
        |true=> rw[hsi,Cb]at hy3;have:=of_decide_eq_false hy3.symm;have e2:decide (m+sizC c<=1500)=false:=Db (by omega);rw[e2,Ic]
       |true=>
        obtain⟨hy5,hy6⟩:=hy4 hf;rw[hf]at hy3;have hy3:=hy3.symm;rw[Ca]at hy3;have hle:=Ac hy3.2;have hdl:=zDQ c.list[i];have hy5:y.1.1=(Vh c.list[i]:Int):=hy5;have hy6:y.2=((a.2+sizC c.list[i]:Nat):Int):=hy6;refine .inl ⟨(max a.1 (Pj c.list[i]),a.2+sizC c.list[i]),?_,?_,hle,?_,?_⟩
        ·have hst:Pj c.list[i]=(bif Qk c.list[i]then 0 else 1)+Vh c.list[i]:=rfl;have hw2:=tH (n:=Vh c.list[i]) (by omega);simp only[Va,Ba,jW,Aa,hy5,hy6,hw2,Zp hi (show c.list.length<=big by omega)];cases hlf:Qk c.list[i]with
         |true=> rw[hlf]at hst;rw[Da,Ce]at hst;simp only[Va,Ba,zq,hst,Y5]
         |false=> rw[hlf]at hst;rw[Ba,Nat.add_comm]at hst;simp only[Ta,Da,zq,hst,Y5]
        ·rw[Rq sizC hi,i1];show _+_+_+_=_;omega
        ·rw[C9 Pj hi,i3]
        ·rw[MR supC hi,i4,hy3.1];rfl
      ·rw[Yc]at hI;obtain⟨i1,i2,i3,i4⟩:=hI;refine⟨((a.1:Int),(a.2:Int)),?_,_,rfl,fin _ _ _ ?_ (fun _=>⟨?_,?_⟩)⟩
       ·simp only[qA,Ba]
       ·have e2:decide (m+sizC c<=1500)=true:=Ga (by omega);rw[hs,i4,e2];rfl
       ·rw[hdp,i3]
       ·show(a.2:Int)=_;rw[i1,he];congr 1;omega
 obtain⟨y,h1,h2⟩:=key;exact⟨y,h1,h2 m rfl⟩
def ZW(c:zf):Bool:=supC c&&(decide (sizC c<=1500)&&decide (Vh c<=16))
theorem MN{c:zf}(h:zx (zm c)<=big):ZI c=some (bif ZW c then 0 else 8):=by
 obtain⟨y,h1,h2,h3⟩:=zqt (m:=0) h (by omega);unfold ZI ZW;replace h1:yj (c,0)=some y:=h1;simp only[Zd,h1,ze,Aa];rw[Ce]at h2;cases hf:y.1.2 with
 |false=> rw[hf]at h2;rw[<-af,<-h2];rfl
 |true=> have e:decide ((Vh c:Int)>16)= !decide (Vh c<=16):=ry _ 16;rw[(h3 hf).1,e];rw[hf]at h2;rw[<-af,<-h2];cases decide (Vh c<=16)<;>rfl
mutual
/-- The declarations of a condition, in order. -/
def Zn:zf->List zD
 |⟨k,_,_,d,l⟩=>bif k==7 then [d]else Gz l
def Gz:List zf->List zD
 |[]=>[]
 |c::r=>Zn c++Gz r
end
theorem bV: ∀l:List zf,Gz l=l.flatMap Zn
 |[]=>by rw[Gz];rfl
 |c::r=>by rw[Gz,bV r,uf]
theorem QK(c:zf):Zn c=bif c.kind==7 then [c.decl]else c.list.flatMap Zn:=by obtain⟨⟩:=c;rw[Zn,bV]
def allW:Str:=[97,108,108]
def FE:Str:=[115,99,114,101,101,110]
mutual
/-- Whether a condition holds: a width in thousandths, a truth value for each declaration. -/
def holC(w:Int):zf->List Bool->Bool
 |⟨k,n,m,_,l⟩,ys=>
  bif k==4 then n==allW||n==FE else bif k==5 then decide (w>=m)else bif k==6 then decide (w<=m)else bif k==7 then ys.headD false else bif k==8 then false else
  bif k==1 then Eh w l ys else bif k==2 then ug w l ys else !ug w l ys
def Eh(w:Int):List zf->List Bool->Bool
 |[],_=>true
 |c::r,ys=>holC w c (ys.take (Zn c).length)&&Eh w r (ys.drop (Zn c).length)
def ug(w:Int):List zf->List Bool->Bool
 |[],_=>false
 |c::r,ys=>holC w c (ys.take (Zn c).length)||ug w r (ys.drop (Zn c).length)
end
theorem zHx(w:Int)(c:zf)(ys:List Bool):holC w c ys=
  bif c.kind==4 then c.name==allW||c.name==FE else bif c.kind==5 then decide (w>=c.num)else bif c.kind==6 then decide (w<=c.num)else bif c.kind==7 then ys.headD false else bif c.kind==8 then false else
  bif c.kind==1 then Eh w c.list ys else bif c.kind==2 then ug w c.list ys else !ug w c.list ys:=by
 obtain⟨⟩:=c;rw[holC]
def ny(c:zf)(w:Int)(ys:List Bool):Bool×Int:=
 bif !(Zu c||ZW c)then(false,8)else
 bif decide (w<0)||(decide (w>1000000000)|| !(ys.length==(Zn c).length))then(false,2)else(holC (1000*w) c ys,0)
theorem Qx{y:zf}: ∀{l:List zf},y∈l->sizC y<=(l.map sizC).sum
 |[],h=>by cases h
 |c::r,h=>by
  rw[Yb,Me];rcases Jb.1 h with rfl|h
  ·omega
  ·have:=Qx h;omega
theorem jR: ∀{c:zf},supC c=true-> ∀d∈Zn c,Dg d=true:=by
 have key: ∀(n:Nat) (c:zf),sizC c<=n->supC c=true-> ∀d∈Zn c,Dg d=true:=by
  intro n
  induction n with
  |zero=>intro c hc;have:=Qe c;omega
  |succ n ih=>
   intro c hc hs d hd;rw[QK]at hd;rw[Jj]at hs;cases h7:c.kind==7 with
   |true=> rw[h7,Da]at hs hd;simp only[Ca]at hs;rw[Gc.1 hd];exact hs.2.2.2
   |false=>
    rw[h7,Ba]at hs hd;obtain⟨y,hy,hd⟩:=Pd.1 hd;have hlt:sizC y<=n:=by have h1:=QD c;have h2:=Qx hy;omega
    refine ih y hlt ?_ d hd;cases h8:c.kind==8 with
    |true=>
     rw[h8,Da]at hs;simp only[Ca,Uc]at hs;rw[hs.1]at hy;cases hy
    |false=>
     rw[h8,Ba]at hs;cases h3:c.kind==3<;>rw[h3]at hs<;>simp at hs
     all_goals first|exact hs.2.2 y hy|exact hs.2.2.2 y hy|exact hs.2 y hy|skip
 intro c hs;exact key _ c (Ua _) hs
theorem yw{l:List zf}(h:Dq l=true){y:zf}(hy:y∈l): ∃f,ag f y=true:=by
 obtain⟨i,hi,rfl⟩:=Fg hy;have:=aa.1 h i (Ad.2 hi);refine⟨i==0,?_⟩
 rwa [Mf,Ya hi]at this
theorem zA5{f:Bool}{y:zf}(h:ag f y=true):Zn y=[]:=by
 unfold ag at h;simp only[Ca,Uc]at h;rw[QK,h.1];have h7:(y.kind==7)=false:=by rw[Ha];intro e;simp[e]at h
 rw[h7];rfl
theorem BV{c:zf}(h:qL c=true):Zn c=[]:=by unfold qL at h;simp only[Ca,Bb]at h;rw[QK,h.1,List.flatMap_eq_nil_iff.2 fun y hy=>let⟨_,e⟩:=yw h.2.2.2 hy;zA5 e];rfl
theorem zzx{c:zf}(h:Vg c=true):Zn c=[]:=by
 unfold Vg at h;cases h3:c.kind==3 with
 |false=>rw[h3]at h;exact BV h
 |true=>
  rw[h3,Da,Ca]at h;have:=h.2;revert this;rw[QK,eq_of_beq h3];cases hl:c.list with
  |nil=>intro _;rfl
  |cons y r=>
   cases r with
   |nil=> intro hq;simp only[Ca]at hq;simp[BV hq.1]
   |cons z r=>intro hq;cases hq
theorem zyM{c:zf}(h:Zu c=true):Zn c=[]:=by
 unfold Zu at h;simp only[Ca,Vb,Bb,Uc,aa]at h;rw[QK];rcases h.2 with⟨hk,hl⟩|⟨hk,_,_,hl⟩
 ·rw[hk,hl];rfl
 ·rw[hk,List.flatMap_eq_nil_iff.2 fun y hy=>zzx (hl y hy)];rfl
def atS(l:Str)(n:Nat):UInt8:=l.getD n 0
def digB(b:UInt8):Bool:=decide (48<=b.toNat)&&decide (b.toNat<=57)
def spB(b:UInt8):Bool:=b==10||b==9||b==32
def alB(b:UInt8):Bool:=decide (65<=b.toNat)&&decide (b.toNat<=90)||decide (97<=b.toNat)&&decide (b.toNat<=122)
def fstB(b:UInt8):Bool:=alB b||b==95||decide (128<=b.toNat)
def letB(b:UInt8):Bool:=fstB b||digB b||b==45
def hexN(b:UInt8):Nat:=
 if digB b then b.toNat - 48 else if 97<=b.toNat/\b.toNat<=102 then b.toNat - 87 else if 65<=b.toNat/\b.toNat<=70 then b.toNat - 55 else 16
def QW(b:UInt8):Bool:=decide (hexN b<16)
def escS(l:Str):Bool:=atS l 0==92&& !(atS l 1==10)
def nmS(l:Str):Bool:=if atS l 0==45 then fstB (atS l 1)||atS l 1==45||escS (l.drop 1)else fstB (atS l 0)||escS l
def Ng(b:UInt8):Bool:=b==43||b==45
def unsign(l:Str):Str:=if Ng (atS l 0)then l.drop 1 else l
def undot(l:Str):Str:=if atS l 0==46 then l.drop 1 else l
def nbS(l:Str):Bool:=digB (atS (undot (unsign l)) 0)
def Xo:Str:=[239,191,189]
def Yh(n:Nat):Str:=
 if n=0\/(55296<=n/\n<=57343)\/1114111<n then Xo
 else if n<128 then [UInt8.ofNat n]
 else if n<2048 then [UInt8.ofNat (192+n / 64),UInt8.ofNat (128+n%64)]
 else if n<65536 then [UInt8.ofNat (224+n / 4096),UInt8.ofNat (128+n / 64%64),UInt8.ofNat (128+n%64)]
 else [UInt8.ofNat (240+n / 262144),UInt8.ofNat (128+n / 4096%64),UInt8.ofNat (128+n / 64%64),UInt8.ofNat (128+n%64)]
def hexes:Nat->Nat->Str->Nat×Str
 |0,n,l=>(n,l)
 |_+1,n,[]=>(n,[])
 |k+1,n,c::r=>if QW c then hexes k (16*n+hexN c) r else(n,c::r)
def unsp:Str->Str
 |[]=>[]
 |c::r=>if spB c then r else c::r
def zy:Str->Str×Str
 |[]=>(Xo,[])
 |c::r=>if QW c then(Yh (hexes 6 0 (c::r)).1,unsp (hexes 6 0 (c::r)).2)else([c],r)
theorem WA: ∀(k n:Nat) (l:Str),(hexes k n l).2<:+l
 |0,n,l=>Jf l
 |k+1,n,[]=>Jf _
 |k+1,n,c::r=>by
  unfold hexes;split
  ·exact(WA k _ r).trans (Oe c r)
  grind
theorem uQ(l:Str):unsp l<:+l:=by
 cases l with
 |nil=>exact Jf _
 |cons c r=>
  show(if spB c then r else c::r)<:+c::r
  grind
theorem qy(l:Str):(zy l).2<:+l:=by
 cases l with
 |nil=>exact Jf _
 |cons c r=>
  show(if QW c then(Yh (hexes 6 0 (c::r)).1,unsp (hexes 6 0 (c::r)).2)else([c],r)).2<:+c::r;split
  ·exact(uQ _).trans (WA 6 0 _)
  grind
theorem Zl(l:Str):(zy l).2.length<=l.length:=(qy l).length_le
def zu:Str->Str×Str
 |[]=>([],[])
 |c::r=>
  if letB c then((c::(zu r).1),(zu r).2)
  else if escS (c::r)then((zy r).1++(zu (zy r).2).1,(zu (zy r).2).2)
  else([],c::r)
termination_by l=>l.length
decreasing_by
 all_goals first|(have:=Zl r;simp only[Fa];omega)|(simp only[Fa];omega)
def past(p:UInt8->Bool):Str->Str
 |[]=>[]
 |c::r=>if p c then past p r else c::r
theorem Oq(p:UInt8->Bool): ∀l:Str,past p l<:+l
 |[]=>Jf _
 |c::r=>by
  unfold past;split
  ·exact(Oq p r).trans (Oe c r)
  grind
def Zf(l:Str):Str×Bool:=
 if atS l 0==46&&digB (atS l 1)then(past digB (l.drop 1),false)else(l,true)
def expS(l:Str):Option Str:=
 if atS l 0==101||atS l 0==69 then(if digB (atS (unsign (l.drop 1)) 0)then some (past digB (unsign (l.drop 1)))else none)else none
def zX(l:Str):Str×Bool:=
 let x:=Zf (past digB (unsign l))
 match expS x.1 with
 |some r=>(r,false)
 |none=>x
def decN(n:Nat)(b:UInt8):Nat:=10*n+(b.toNat - 48)
def upto(l r:Str):Str:=l.take (l.length - r.length)
def Zg(m:UInt8):Str->Option Str×Str
 |[]=>(some [],[])
 |c::r=>
  if c==m then(some [],r)
  else if c==10 then(none,c::r)
  else if c==92 then
   (if r.isEmpty then(some [],[])
   else if atS r 0==10 then Zg m (r.drop 1)
   else((Zg m (zy r).2).1.map ((zy r).1++ ·),(Zg m (zy r).2).2))
  else((Zg m r).1.map (c:: ·),(Zg m r).2)
termination_by l=>l.length
decreasing_by
 all_goals first|(have:=Zl r;simp only[Fa];omega)|(simp only[Fa,Dc];omega)
def badS:Str->Str
 |[]=>[]
 |c::r=>if c==41 then r else if escS (c::r)then badS (zy r).2 else badS r
termination_by l=>l.length
decreasing_by
 all_goals first|(have:=Zl r;simp only[Fa];omega)|(simp only[Fa];omega)
def unB(b:UInt8):Bool:=decide (b.toNat<=8)||b==11||decide (14<=b.toNat)&&decide (b.toNat<=31)||b==127
def urlS:Str->Option Str×Str
 |[]=>(some [],[])
 |c::r=>
  if c==41 then(some [],r)
  else if spB c then(match past spB r with
   |[]=>(some [],[])
   |d::a=>if d==41 then(some [],a)else(none,badS (d::a)))
  else if c==34||c==39||c==40||unB c||c==92&& !escS (c::r)then(none,badS (c::r))
  else if c==92 then((urlS (zy r).2).1.map ((zy r).1++ ·),(urlS (zy r).2).2)
  else((urlS r).1.map (c:: ·),(urlS r).2)
termination_by l=>l.length
decreasing_by
 all_goals first|(have:=Zl r;simp only[Fa];omega)|(simp only[Fa];omega)
def Ih(b:UInt8):Int:=
 if b==58 then 16 else if b==59 then 17 else if b==44 then 18 else if b==91 then 19 else if b==93 then 20 else if b==40 then 21 else if b==41 then 22 else if b==123 then 23 else if b==125 then 24 else 0
def Rh(k:Int):zg:=⟨k,[],0,[],false⟩
def ni:Nat:=1000000000000
def Uj:Nat->Nat->Nat
 |0,n=>n
 |k+1,n=>if n=0\/ni<=n then n else Uj k (min ni (10*n))
set_option maxRecDepth 100000
abbrev sc(s:Str)(k:Nat):za:=⟨s,(k:Int)⟩
def pk(l:Str)(n:Nat):Int:=match l[n]? with|some b=>(b.toNat:Int)|none=> -1
def beh(s r:Str):Nat:=s.length - r.length
theorem Zq{n:Int}(a: -9223372036854775808<=n)(h2:n<=9223372036854775807):w64 n=n:=Zz a h2
theorem Nw{s r:Str}(h:r<:+s):s.drop (beh s r)=r:=by obtain⟨t,rfl⟩:=h;unfold beh;simp_all
theorem um(s r:Str):beh s r<=s.length:=by unfold beh;omega
theorem zDr{s:Str}{k:Nat}(h:k<=s.length):beh s (s.drop k)=k:=by unfold beh;grind
theorem NE{s:Str}{k n:Nat}(c:s.length<=big)(g:k<=s.length)(f:n<=8):zh ((n:Int),sc s k)=some (pk (s.drop k) n):=by
 have d:big=4194304:=rfl;have e:w64 ((k:Int)+(n:Int))=((k+n:Nat):Int):=by rw[Zq (by omega) (by omega)];omega
 unfold zh pk;simp only[e];rw[Vd];by_cases h:k+n<s.length
 ·rw[Ga (by omega),Da];have b:geti s ((k+n:Nat):Int)=some s[k+n]:=Zo h;have a:=Sb s[k+n];simp only[ze,b,Aa,Ya h];rw[Zq (by omega) (by omega)]
 ·grind
theorem lC{s:Str}{k:Nat}(b:s.length<=big)(a:k<=s.length):zh (0,sc s k)=some (pk (s.drop k) 0):=NE (n:=0) b a (by omega)
theorem aN{s:Str}{k:Nat}(b:s.length<=big)(a:k<=s.length):zh (1,sc s k)=some (pk (s.drop k) 1):=NE (n:=1) b a (by omega)
theorem zKZ{s:Str}{k:Nat}(b:s.length<=big)(a:k<=s.length):zh (2,sc s k)=some (pk (s.drop k) 2):=NE (n:=2) b a (by omega)
theorem rC{a:Type}{f:Int->Option a}{p:UInt8->a}(h: ∀b:UInt8,f (b.toNat:Int)=some (p b))(c:f (-1)=some (p 0))(l:Str)(n:Nat):f (pk l n)=some (p (atS l n)):=by
 unfold pk atS
 grind
theorem of_n{a:Type}{f:Int->Option a}{p:UInt8->a}(h: ∀n:Nat,n<256->f (n:Int)=some (p (UInt8.ofNat n)))(b:UInt8):f (b.toNat:Int)=some (p b):=by have:=h b.toNat (Sb b);simp_all
theorem Oz(l:Str)(n:Nat):qZ (pk l n)=some (spB (atS l n)):=rC (of_n (by decide+kernel)) (by decide+kernel) l n
theorem Hq(l:Str)(n:Nat):ZU (pk l n)=some (digB (atS l n)):=rC (of_n (by decide+kernel)) (by decide+kernel) l n
theorem zIG(l:Str)(n:Nat):Du (pk l n)=some (fstB (atS l n)):=rC (of_n (by decide+kernel)) (by decide+kernel) l n
theorem DR(l:Str)(n:Nat):Iy (pk l n)=some (letB (atS l n)):=rC (of_n (by decide+kernel)) (by decide+kernel) l n
def hexI(b:UInt8):Int:=if QW b then(hexN b:Int)else -1
theorem MH(l:Str)(n:Nat):Vq (pk l n)=some (hexI (atS l n)):=rC (of_n (by decide+kernel)) (by decide+kernel) l n
theorem Dj(l:Str)(n:Nat)(c:UInt8)(h:c≠0):(pk l n==(c.toNat:Int))=(atS l n==c):=by
 unfold pk atS;rw[Mf];cases l[n]? with
 |none=>
  grind
 |some b=>
  show((b.toNat:Int)==(c.toNat:Int))=(b==c);by_cases e:b=c
  ·grind
  ·have:b.toNat≠c.toNat:=fun h=>e (Gf.1 h)
   grind
theorem XN(l:Str)(n:Nat):(pk l n==10)=(atS l n==10):=Dj l n 10 (by decide)
theorem oZ(l:Str)(n:Nat):(pk l n==34)=(atS l n==34):=Dj l n 34 (by decide)
theorem zK0(l:Str)(n:Nat):(pk l n==35)=(atS l n==35):=Dj l n 35 (by decide)
theorem zK1(l:Str)(n:Nat):(pk l n==37)=(atS l n==37):=Dj l n 37 (by decide)
theorem nZ(l:Str)(n:Nat):(pk l n==39)=(atS l n==39):=Dj l n 39 (by decide)
theorem zK2(l:Str)(n:Nat):(pk l n==40)=(atS l n==40):=Dj l n 40 (by decide)
theorem WN(l:Str)(n:Nat):(pk l n==41)=(atS l n==41):=Dj l n 41 (by decide)
theorem VN(l:Str)(n:Nat):(pk l n==43)=(atS l n==43):=Dj l n 43 (by decide)
theorem wC(l:Str)(n:Nat):(pk l n==45)=(atS l n==45):=Dj l n 45 (by decide)
theorem UN(l:Str)(n:Nat):(pk l n==46)=(atS l n==46):=Dj l n 46 (by decide)
theorem zK3(l:Str)(n:Nat):(pk l n==64)=(atS l n==64):=Dj l n 64 (by decide)
theorem zK4(l:Str)(n:Nat):(pk l n==69)=(atS l n==69):=Dj l n 69 (by decide)
theorem mZ(l:Str)(n:Nat):(pk l n==92)=(atS l n==92):=Dj l n 92 (by decide)
theorem zKb(l:Str)(n:Nat):(pk l n==101)=(atS l n==101):=Dj l n 101 (by decide)
theorem Ur(l:Str):(pk l 0== -1)=l.isEmpty:=by
 cases l with
 |nil=>rfl
 |cons b r=>
  show((b.toNat:Int)== -1)=false
  grind
theorem Bj(l:Str)(k n:Nat):atS (l.drop k) n=atS l (k+n):=by
 unfold atS
 grind
theorem fQ {R:Type} {step:za->Option (LO za za R)} {s:Str} (p:UInt8->Bool) (h0:p 0=false)
  (h: ∀k,k<=s.length->step (sc s k)=some (bif p (atS (s.drop k) 0)then .again (sc s (k+1))else .out (sc s k))) {k:Nat} (hk:k<=s.length):
  Ph step (sc s k)=some (.out (sc s (beh s (past p (s.drop k))))):=by
 refine qa (fun z=> ∃j,z=sc s j/\j<=s.length/\past p (s.drop j)=past p (s.drop k)) (fun z=>s.length - z.at_.toNat) _ ?_ ⟨k,rfl,hk,rfl⟩;rintro _ ⟨j,rfl,hj,he⟩;rw[h j hj];cases hd:s.drop j with
 |nil=>
  rw[show atS ([]:Str) 0=0 from rfl,h0,Ba];refine .inr (.inl ⟨_,rfl,?_⟩);rw[<-he,hd];have:j=s.length:=by have:=Be.1 hd;omega
  subst this;show LX.out (sc s (beh s []))=_;unfold beh;rw[Eb,Nat.sub_zero]
 |cons c r=>
  have hlt:j<s.length:=by
   rcases Xd j s.length with h'|h'
   ·exact h'
   ·grind
  have hr:s.drop (j+1)=r:=by have:=Lb hlt;rw[hd]at this;injection this with _ h2;exact h2.symm
  rw[show atS (c::r) 0=c from rfl];cases hp:p c with
  |true=> refine .inl ⟨_,rfl,⟨j+1,rfl,by omega,?_⟩,by grind⟩;rw[hr,<-he,hd,past,hp];rfl
  |false=> refine .inr (.inl ⟨_,rfl,?_⟩);rw[<-he,hd,past,hp,Ia (by decide),<-hd,zDr hj]
theorem C8{s:Str}{k:Nat}(b:s.length<=big)(a:k<=s.length):w64 ((k:Int)+1)=((k+1:Nat):Int):=by have c:big=4194304:=rfl;rw[Zq (by omega) (by omega)];omega
theorem zFH{s:Str}{k:Nat}(a:s.length<=big)(c:k<=s.length):Zm (sc s k)=some (sc s (beh s (past spB (s.drop k)))):=by
 unfold Zm;rw[qK (fQ spB rfl (fun j b=> ?_) c)];simp only[ze,lC a b,Aa,Oz,C8 a b]
 grind
theorem zDe{s:Str}{k:Nat}(a:s.length<=big)(c:k<=s.length):Zi (sc s k)=some (sc s (beh s (past digB (s.drop k)))):=by
 unfold Zi;rw[qK (fQ digB rfl (fun j b=> ?_) c)];simp only[ze,lC a b,Aa,Hq,C8 a b]
 grind
theorem number_eq{s:Str}{k:Nat}(a:s.length<=big)(c:k<=s.length):ZV (sc s k)=some (nbS (s.drop k)):=by
 unfold ZV nbS unsign undot Ng;simp only[ze,lC a c,Aa,VN,wC];have d: ∀(b:Bool),(Zk (X:=Int) (bif b then some (LX.out 1)else some (LX.out 0)) fun e=>
   Zk (X:=Int) ((zh (e,sc s k)).bind fun f=>bif f==46 then some (LX.out (w64 (e+1)))else some (LX.out e)) fun g=>
   (zh (g,sc s k)).bind fun i=>(ZU i).bind fun j=>some j)=some (digB (atS (if atS (if b then(s.drop k).drop 1 else s.drop k) 0==46 then(if b then(s.drop k).drop 1 else s.drop k).drop 1 else(if b then(s.drop k).drop 1 else s.drop k)) 0)):=by
  intro b;cases b with
  |false=>
   simp only[Ba,zq,lC a c,Aa,UN,Cc,De];cases h:atS (s.drop k) 0==46 with
   |false=>simp only[Ba,zq,lC a c,Aa,Hq,Cc,De]
   |true=> simp only[Da,zq,Te];rw[show w64 (0+1)=1 from rfl,aN a c];simp only[Aa,Hq];rw[Bj (s.drop k) 1 0]
  |true=>
   simp only[Da,zq,aN a c,Aa,UN,Te];rw[Bj (s.drop k) 1 0];cases h:atS (s.drop k) (1+0)==46 with
   |false=> simp only[Ld]at h;simp only[h,Ba,zq,aN a c,Aa,Hq,Cc,De];rw[Bj (s.drop k) 1 0]
   |true=> simp only[Ld]at h;simp only[h,Da,zq,Te];rw[show w64 (1+1)=2 from rfl,zKZ a c];simp only[Aa,Hq];rw[Ve,Bj (s.drop k) (1+1) 0]
 have:=d (atS (s.drop k) 0==43||atS (s.drop k) 0==45)
 grind
abbrev sr(s r:Str):za:=sc s (beh s r)
theorem sr_0(s:Str):(⟨s,0⟩:za)=sr s s:=by show sc s 0=sc s (beh s s);unfold beh;rw[Nat.sub_self]
theorem Er{s r:Str}{n:Nat}(b:s.length<=big)(c:r<:+s)(a:n<=8):zh ((n:Int),sr s r)=some (pk r n):=by rw[NE b (um s r) a,Nw c]
theorem xh{s r:Str}(a:s.length<=big)(b:r<:+s):zh (0,sr s r)=some (pk r 0):=Er (n:=0) a b (by omega)
theorem xy{s r:Str}(a:s.length<=big)(b:r<:+s):zh (1,sr s r)=some (pk r 1):=Er (n:=1) a b (by omega)
theorem zKa{s r:Str}(a:s.length<=big)(b:r<:+s):zh (2,sr s r)=some (pk r 2):=Er (n:=2) a b (by omega)
theorem JD{s r:Str}(a:s.length<=big)(b:r<:+s):Zm (sr s r)=some (sr s (past spB r)):=by rw[zFH a (um s r),Nw b]
theorem lD{s r:Str}(a:s.length<=big)(b:r<:+s):Zi (sr s r)=some (sr s (past digB r)):=by rw[zDe a (um s r),Nw b]
theorem zH1{s r:Str}(a:s.length<=big)(b:r<:+s):ZV (sr s r)=some (nbS r):=by rw[number_eq a (um s r),Nw b]
theorem iP{s r:Str}{n:Nat}(a:r<:+s)(b:n<=r.length):beh s r+n=beh s (r.drop n):=by
 have:=a.length_le;unfold beh
 grind
theorem aH{s r:Str}{n:Nat}(c:s.length<=big)(a:r<:+s)(b:n<=r.length):(⟨s,w64 ((beh s r:Int)+(n:Int))⟩:za)=sr s (r.drop n):=by have d:big=4194304:=rfl;have:=um s r;have e:=a.length_le;rw[Zq (by omega) (by omega),show(beh s r:Int)+(n:Int)=((beh s r+n:Nat):Int) by omega,iP a b]
theorem Sy{l:Str}{n:Nat}(h:atS l n≠0):n<l.length:=by
 rcases Xd n l.length with a|a
 ·exact a
 ·exact absurd (by unfold atS;grind) h
theorem jC{s r:Str}(a:s.length<=big)(b:r<:+s)(h:atS r 0≠0):(⟨s,w64 ((beh s r:Int)+1)⟩:za)=sr s (r.drop 1):=aH (n:=1) a b (Sy h)
theorem Wn{s r:Str}(a:r<:+s)(n:Nat):r.drop n<:+s:=(Cf n r).trans a
theorem Vs{s r:Str}(p:UInt8->Bool)(a:r<:+s):past p r<:+s:=(Oq p r).trans a
theorem ML{s r:Str}(a:r<:+s):unsign r<:+s:=by
 unfold unsign;split
 ·exact Wn a 1
 ·exact a
theorem P8{b:UInt8}(h:Ng b=true):b≠0:=by rintro rfl;revert h;decide
theorem bN(a b:Bool):(bif a then true else b)=(a||b):=by cases a<;>rfl
theorem I7(a b:Bool):(bif a then b else false)=(a&&b):=by cases a<;>rfl
theorem yS{s r:Str}(a:r<:+s):(Zf r).1<:+s:=by
 unfold Zf;split
 ·exact Vs _ (Wn a 1)
 ·exact a
theorem Y9{s r q:Str}(a:r<:+s)(h:expS r=some q):q<:+s:=by
 unfold expS at h;split at h
 ·split at h
  ·cases h;exact Vs _ (ML (Wn a 1))
  ·cases h
 ·cases h
theorem zyS{s r:Str}(b:r<:+s):(zX r).1<:+s:=by
 unfold zX;have a:=yS (Vs digB (ML b));simp only;cases h:expS (Zf (past digB (unsign r))).1 with
 |some q=>exact Y9 a h
 |none=>exact a
theorem zD1{s l:Str}(hs:s.length<=big)(hl:l<:+s):qM (sr s l)=some ((zX l).2,sr s (zX l).1):=by
 unfold qM;simp only[ze,xh hs hl,Aa,VN,wC,bN];have e1:(bif (atS l 0==43||atS l 0==45)then some (LX.out (⟨s,w64 ((beh s l:Int)+1)⟩:za))else some (LX.out (sr s l)))=(some (LX.out (sr s (unsign l))):Option (LX za (Bool×za))):=by
  unfold unsign;cases h:Ng (atS l 0)with
  |true=> have h':(atS l 0==43||atS l 0==45)=true:=h;rw[h',Da,Ka rfl,jC hs hl (P8 h)]
  |false=>
   have h':(atS l 0==43||atS l 0==45)=false:=h
   grind
 rw[e1,zq];have hu:=ML hl;rw[lD hs hu];simp only[Aa];have hp:=Vs digB hu;unfold zX;generalize past digB (unsign l)=q at hp ⊢;have e2:Zk (X:=Bool×za) (R:=Bool×za) ((zh (0,sr s q)).bind fun y4=>
   (zA (y4==46) (zh (1,sr s q)) (default:Int)).bind fun y5=>
   (zA (y4==46) (ZU y5) (default:Bool)).bind fun y6=>
   bif bif y4==46 then y6 else false then(Zi (⟨s,w64 ((beh s q:Int)+1)⟩:za)).bind fun y7=>some (LX.out (false,y7))else some (LX.out (true,sr s q)))=Zk (some (LX.out ((Zf q).2,sr s (Zf q).1))):=by
  congr 1;unfold Zf;simp only[xh hs hp,xy hs hp,Aa,UN];cases h:atS q 0==46 with
  |false=>simp_all
  |true=>
   simp only[zB,Aa,Da,Hq,Cb];cases h2:digB (atS q 1)with
   |false=>grind
   |true=> rw[Da,Ka rfl,jC hs hp (by grind),lD hs (Wn hp 1)];rfl
 rw[e2,zq];have hw:=yS hp;generalize Zf q=W at hw ⊢;obtain⟨w,i⟩:=W;simp only at hw ⊢;have e3:((zh (0,sr s w)).bind fun y9=>
   (zA (!(y9==101)) (zh (0,sr s w)) (default:Int)).bind fun y10=>
   bif bif y9==101 then true else y10==69 then
    Zk (X:=(Bool×Int)×za) ((zh (1,sr s w)).bind fun y11=>bif bif y11==43 then true else y11==45 then some (LX.out ((i,2),sr s w))else some (LX.out ((i,1),sr s w))) fun j12=>
    (zh (j12.1.2,j12.2)).bind fun y13=>(ZU y13).bind fun y14=>
    bif y14 then(Zi (⟨j12.2.s,w64 (j12.2.at_+j12.1.2)⟩:za)).bind fun y15=>some (LX.out (false,y15))else some (LX.out (j12.1.1,j12.2))
   else some (LX.out (i,sr s w)))=(some (LX.out (match expS w with|some r=>(false,sr s r)|none=>(i,sr s w))):Option (LX (Bool×za) (Bool×za))):=by
  simp only[xh hs hw,Aa,zKb];have e4:((zA (!(atS w 0==101)) (some (pk w 0)) (default:Int)).bind fun y10=>(some (bif atS w 0==101 then true else y10==69):Option Bool))=some (atS w 0==101||atS w 0==69):=by
   cases h:atS w 0==101 with
   |true=>rfl
   |false=>simp only[Ta,zB,Aa,Ba,zK4,Jc]
  have e5: ∀(f:Bool->Option (LX (Bool×za) (Bool×za))),((zA (!(atS w 0==101)) (some (pk w 0)) (default:Int)).bind fun y10=>f (bif atS w 0==101 then true else y10==69))=f (atS w 0==101||atS w 0==69):=by intro f;have:=congrArg (fun o=>Option.bind o f) e4;simpa [Option.bind_assoc] using this
  refine(e5 (fun b=>bif b then _ else _)).trans ?_;unfold expS;cases h:(atS w 0==101||atS w 0==69)with
  |false=>rfl
  |true=>
   have hne:atS w 0≠0:=by intro e;rw[e]at h;revert h;decide
   simp only[Da,Te,xy hs hw,Aa,VN,wC,bN];unfold unsign;have hd:atS (w.drop 1) 0=atS w 1:=by rw[Bj w 1 0]
   rw[hd];cases hg:(atS w 1==43||atS w 1==45)with
   |true=>
    have hg':Ng (atS w 1)=true:=hg;have hl2:=Sy (P8 hg');simp only[Da,zq,zKa hs hw,Aa,Hq,hg',Te,Ve];rw[show atS (w.drop (1+1)) 0=atS w 2 by rw[Bj w 2 0]];cases hq:digB (atS w 2)with
    |false=>rfl
    |true=> rw[Da,Ka rfl,show(2:Int)=((2:Nat):Int)from rfl,aH hs hw (by omega),lD hs (Wn hw 2)];rfl
   |false=>
    have hg':Ng (atS w 1)=false:=hg;simp only[Ba,zq,xy hs hw,Aa,Hq,hg',Cc,De];rw[hd];cases hq:digB (atS w 1)with
    |false=>rfl
    |true=> rw[Da,Ka rfl,jC hs hw hne,lD hs (Wn hw 1)];rfl
 refine(congrArg (fun o=>Zk o _) e3).trans ?_;rw[zq];cases expS w<;>rfl
def valG(n:Nat)(l:Str):Nat:=l.foldl decN n
theorem WF(n:Nat)(a b:Str):valG n (a++b)=valG (valG n a) b:=List.foldl_append
theorem bR{k:Nat}(h:k<10):digB (UInt8.ofNat (48+k))=true/\(UInt8.ofNat (48+k)).toNat=48+k:=by
 have:(UInt8.ofNat (48+k)).toNat=48+k:=by rw[UInt8.toNat_ofNat'];omega
 refine⟨?_,this⟩;unfold digB
 grind
theorem Aw: ∀(u:Nat),(Lib.decDigits u).all digB=true/\valG 0 (Lib.decDigits u)=u/\Lib.decDigits u≠[]:=by
 intro u
 induction u using Nat.strongRecOn with
 |_ u e=>
  rw[Lib.decDigits];by_cases h:u<10
  ·rw[dif_pos h];obtain⟨f,d⟩:=bR h;refine⟨by grind,?_,by simp⟩;show decN 0 _=u;unfold decN;rw[d];omega
  ·rw[dif_neg h];obtain⟨a,b,c⟩:=e (u / 10) (by omega);obtain⟨f,d⟩:=bR (k:=u%10) (by omega);refine⟨by grind,?_,by simp⟩;rw[WF,b];show decN _ _=u;unfold decN;rw[d];omega
theorem lF: ∀(q t:Str),q.all digB=true->past digB (q++t)=past digB t
 |[],t,_=>rfl
 |c::q,t,h=>by rw[Od,Ca]at h;rw[Sa,past,Ka h.1,lF q t h.2]
def d48(k:Nat):UInt8:=UInt8.ofNat (48+k)
def Tj(r:Nat):Str:=Lib.trimRightB [d48 (r / 100),d48 (r / 10%10),d48 (r%10)] 48
theorem zDN{r:Nat}(h:r<1000):Lib.decDigits (1000+r)=49::[d48 (r / 100),d48 (r / 10%10),d48 (r%10)]:=by rw[Lib.decDigits,dif_neg (by omega),Lib.decDigits,dif_neg (by omega),Lib.decDigits,dif_neg (by omega),Lib.decDigits,dif_pos (by omega)];rw[show(1000+r) / 10 / 10 / 10=1 by omega,show(1000+r) / 10 / 10%10=r / 100 by omega,show(1000+r) / 10%10=r / 10%10 by omega,show(1000+r)%10=r%10 by omega];rfl
def bD(r:Nat):Bool:=(Tj r).all digB&&decide ((Tj r).length<=3)&&decide (valG 0 (Tj r)*10 ^ (3 - (Tj r).length)=r)&&((Tj r).isEmpty==(r==0))&& !((Tj r).getLast? ==some 48)
theorem CK: ∀r,r<1000->bD r=true:=by decide+kernel
def Ck(r:Nat)(p:Bool):Str:=bif (Tj r).isEmpty then(bif p then [46,48]else [])else 46::Tj r
def ig(m:Nat)(p:Bool):Str:=Lib.decDigits (m / 1000)++Ck (m%1000) p
def numT(n:Int)(p:Bool):Str:=(if n<0 then [45]else [])++ig n.natAbs p
theorem sK{u:Nat}(h:u<18446744073709551616):(Lib.decDigits u).length<=20:=by
 rw[Lib.decDigits_length];by_cases h1:u=0
 ·subst h1;rw[Lib.nDigits_small (by omega)];omega
 ·have:=Lib.numDigits_eq u (by omega) h;split at this<;>omega
theorem zFn{r:Nat}(h:r<1000)(p:Bool):(Ck r p).length<=4:=by
 have:=CK r h;simp only[bD,Ca,Ab]at this;unfold Ck
 grind
theorem NF{m:Nat}(h:m<=1000000000000)(p:Bool):(ig m p).length<=24:=by unfold ig;rw[Ja];have:=sK (u:=m / 1000) (by omega);have:=zFn (r:=m%1000) (by omega) p;omega
theorem Vm{n m b:Nat}(h:n+m<=100000)(a:b<=100):zW n m b=true:=by unfold zW;refine Ga ?_;have:=Nat.mul_le_mul h a;omega
theorem zzB(l:Str):(l==[])=l.isEmpty:=by cases l<;>rfl
theorem Tz: ∀(l:Str) (n:Nat),valG n l=n*10 ^ l.length+valG 0 l
 |[],n=>by simp[valG]
 |c::l,n=>by
  show valG (decN n c) l=n*10 ^ (l.length+1)+valG (decN 0 c) l;rw[Tz l (decN n c),Tz l (decN 0 c),Nat.pow_succ];unfold decN
  grind
theorem zDa(l:Str)(i:Nat):valG 0 (l.take i)<=valG 0 l:=by
 have h:valG 0 l=valG (valG 0 (l.take i)) (l.drop i):=by rw[<-WF,List.take_append_drop]
 rw[h,Tz (l.drop i)];have:=Ye (valG 0 (l.take i)) (yg (n:=(l.drop i).length) (show 0<10 by omega));omega
theorem jw{b:UInt8}(h:digB b=true):48<=b.toNat/\b.toNat<=57:=by unfold digB at h;simpa using h
theorem zFj {R:Type} {step:Int×Int->Option (LO (Int×Int) Int R)} {l:Str} (b:l.all digB=true) (g:l.length<=100000) (j:valG 0 l<=1000000000000)
  (a: ∀(v:Int) (i:Nat) (hi:i<l.length),step (v,(i:Int))=some (.again (if 1000000000000<w64 (w64 (10*v)+w64 (wu8 ((l[i].toNat:Int) - 48)))then 1000000000000 else w64 (w64 (10*v)+w64 (wu8 ((l[i].toNat:Int) - 48))),w64 ((i:Int)+1))))
  (h2: ∀v:Int,step (v,(l.length:Int))=some (.out v)):Ph step (0,0)=some (.out ((valG 0 l:Nat):Int)):=by
 refine qa (fun s=> ∃i:Nat,i<=l.length/\s=(((valG 0 (l.take i):Nat):Int),(i:Int))) (fun s=>l.length - s.2.toNat) _ ?_ ⟨0,by omega,rfl⟩;rintro _ ⟨i,hi,rfl⟩;rcases Xd i l.length with h|h
 ·refine .inl ⟨_,a _ i h,⟨i+1,by omega,?_⟩,by simp only;rw[Zq (by omega) (by omega)];omega⟩;have e:=jw (aa.1 b _ (jb h));have d:valG 0 (l.take (i+1))=decN (valG 0 (l.take i)) l[i]:=by rw[Xb h,WF];rfl
  have f:=zDa l (i+1);have c:wu8 ((l[i].toNat:Int) - 48)=((l[i].toNat - 48:Nat):Int):=by show IntKind.u8.wrap _=_;rw[IntKind.wrap_u8];omega
  unfold decN at d;rw[c,Zq (n:=10*_) (by omega) (by omega),Zq (n:=((l[i].toNat - 48:Nat):Int)) (by omega) (by omega),Zq (n:=(i:Int)+1) (by omega) (by omega),Zq (by omega) (by omega),Ia (by omega)];refine Prod.ext ?_ ?_
  ·grind
  ·grind
 grind
theorem zzb {R:Type} {step:Int×Int->Option (LO (Int×Int) Int R)} {v p:Nat} (g:p<=100) (i:v*10 ^ p<=1000000000000)
  (h: ∀(a b:Int),step (a,b)=bif bif bif decide (a>0)then decide (b>0)else false then decide (b<1000000000000)else false then some (.again (w64 (a - 1),if 1000000000000<w64 (10*b)then 1000000000000 else w64 (10*b)))else some (.out b)):
  Ph step ((p:Int),(v:Int))=some (.out ((v*10 ^ p:Nat):Int)):=by
 refine qa (fun s=> ∃a b:Nat,s=((a:Int),(b:Int))/\a<=100/\b*10 ^ a=v*10 ^ p) (fun s=>s.1.toNat) _ ?_ ⟨p,v,rfl,g,rfl⟩;rintro _ ⟨a,b,rfl,j,d⟩;rw[h];cases a with
 |zero=>
  grind
 |succ a=>
  rw[Ga (show((a+1:Nat):Int)>0 by omega),Da];rw[Nat.pow_succ,<-Nat.mul_assoc]at d;have c:0<10 ^ a:=yg (by omega);cases bf b with
  |inl e=> subst e;refine .inr (.inl ⟨0,rfl,?_⟩);rw[<-d];simp
  |inr e=>
   rw[Ga (show((b:Nat):Int)>0 by omega),Da];have f:b<=b*10 ^ a:=Ye b c;rw[Ga (show((b:Nat):Int)<1000000000000 by omega),Da];refine .inl ⟨_,rfl,⟨a,10*b,?_,by omega,?_⟩,by simp only;rw[Zq (by omega) (by omega)];omega⟩
   ·rw[Zq (by omega) (by omega),Zq (by omega) (by omega),Ia (by omega)];refine Prod.ext ?_ ?_
    ·show((a+1:Nat):Int) - 1=(a:Int);omega
    ·show 10*(b:Int)=((10*b:Nat):Int);omega
   ·rw[<-d,Nat.mul_comm 10 b,Nat.mul_assoc,Nat.mul_assoc,Nat.mul_comm 10 (10 ^ a)]
theorem NI: ∀(q:Str),q.all digB=true->Lib.indexByte q 46= -1
 |[],_=>rfl
 |c::q,h=>by
  rw[Od,Ca]at h;have a:=jw h.1;have b:(c==46)=false:=by refine Ha.2 (fun e=> ?_);subst e;revert a;decide
  rw[Lib.indexByte,b,NI q h.2];rfl
theorem OI: ∀(q g:Str),q.all digB=true->Lib.indexByte (q++46::g) 46=(q.length:Int)
 |[],g,_=>by rw[Pb,Lib.indexByte];rfl
 |c::q,g,h=>by
  rw[Od,Ca]at h;have hd:=jw h.1;have hc:(c==46)=false:=by refine Ha.2 (fun e=> ?_);subst e;revert hd;decide
  rw[Sa,Lib.indexByte,hc,OI q g h.2];have:((q.length:Int)== -1)=false:=Ha.2 (by omega);rw[this,Fa];simp
theorem IJ: ∀(l:Str),(l.all fun b=>digB b||b==46)=true->Lib.indexAny l [101,69]= -1
 |[],_=>rfl
 |c::l,h=>by
  rw[Od,Ca]at h;have hc:List.contains [101,69] c=false:=by
   have: ∀n:Nat,n<256->(digB (UInt8.ofNat n)||UInt8.ofNat n==46)=true->List.contains [101,69] (UInt8.ofNat n)=false:=by decide+kernel
   have:=this c.toNat (Sb c);rw[jd]at this;exact this h.1
  rw[Lib.indexAny,hc,IJ l h.2];rfl
abbrev tS:zg:=⟨13,[],0,[],false⟩
theorem c1:QE [⟨9,[92],0,[],false⟩]=some 8:=dX 60 _ _ (by decide+kernel)
theorem c2:QE [⟨2,[85,114,108],0,[],false⟩,tS]=some 8:=dX 60 _ _ (by decide+kernel)
end Go.Lv.VT
