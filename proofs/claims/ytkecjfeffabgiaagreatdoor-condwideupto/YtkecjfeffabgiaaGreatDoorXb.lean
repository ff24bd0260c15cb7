/- Lemmas on conditions: what the texts of the older seat had. -/
import Derived.Test.YtkecjfeffabgiaaGreatDoorXa
import Derived.Test.YtkecjfeffabgiaaGreatDoorMo
import Derived.KernelRfl
set_option linter.unusedSimpArgs false
set_option linter.unusedVariables false
namespace Go.Lv.VT
theorem Bn(x:zA):zF (QV x)=3+x.name.length+zL zY x.value:=by simp only[QV,zF,bPV,zL];omega
theorem Ai(x:zg):zF (zo x)=4+x.name.length+zF (QV x.decl)+zL zo x.list - 1+1:=by rw[Bn];rw[EY];simp only[zF,bPV,zL];omega
theorem Dr(x:zA):1<=zF (QV x):=by have:=Bn x;omega
theorem YA{α:Type}(l:List α):decide ((l.length:Int)>0)= !l.isEmpty:=by
 cases l with
 |nil=>rfl
 |cons a l=>exact Va (by simp only[Db];omega)
theorem yR(x:zg):1<=zF (zo x):=by have:=Ai x;omega
theorem kQ{a b:Nat}(h:a+b<=big):w64 ((a:Int)+(b:Int))=((a+b:Nat):Int):=by rw[w64,ZG (by omega) (by unfold big at h;omega)];omega
theorem fu{d:zA}(h:zF (QV d)<=big):szL d.value<=big/\d.name.length<=big:=by have:=Bn d;have:=Xz d.value;constructor<;>omega
theorem eZ{d:zA}(h:zF (QV d)<=big):Qn d=some (bif Jg d then 0 else 8):=GY (fu h).1 (fu h).2
theorem qA(c:zg):(⟨c.kind,c.name,c.num,c.decl,c.list⟩:zg)=c:=by cases c;rfl
def Lh(d:zA):Bool:=d.name==[]&&(d.value.isEmpty&& !d.important)
def Ff(c:zg):Bool:=c.name==[]&&(c.num==0&&Lh c.decl)
theorem Bj(c:zg):ZO c=some (Ff c):=by unfold ZO Ff Lh;rw[Ei];cases c.name==[]<;>cases c.num==0<;>cases c.decl.name==[]<;>cases c.decl.value.isEmpty<;>rfl
theorem EM(d:zA):Cj d=some (Lh d):=by unfold Cj Lh;rw[Ei];cases d.name==[]<;>cases d.value.isEmpty<;>rfl
theorem ut(c:zg):QC c=some (Ff c):=by unfold QC Ff;simp only[EM,Zg,zb,Ba];cases c.name==[]<;>cases c.num==0<;>rfl
def keyS(x:Str):Bool:=x==[]||(x==[97,110,100]||(x==[111,114]||(x==[110,111,116]||x==[111,110,108,121])))
def medS(x:Str):Bool:= !keyS x&&(decide (x.length<=64)&&(lowS x==x&&Re x))
theorem M5(l:List Str)(x:Str)(h:l.length<=big):slices_Contains_string (l,x)=some (l.any fun v=>x==v):=by
 unfold slices_Contains_string slices_Index_string;refine Aw (kv l (fun v=>x==v) h (fun i hi=> ?_) ?_) (mq _ _)
 ·simp only[ZK hi,Ia,ZT hi,zb,Ba]
 ·simp only[QY,Ea]
theorem rP(x:Str):(([[],[97,110,100],[111,114],[110,111,116],[111,110,108,121]]:List Str).any fun v=>x==v)=keyS x:=by simp only[List.any_cons,List.any_nil,Ed];rfl
theorem gZ{x:Str}(h:x.length<=big):QF x=some (medS x):=by
 have e:decide ((x.length:Int)<=64)=decide (x.length<=64):=eG _ 64;have e1:decide (Lib.indexByte x (0:Int).toNat.toUInt8<0)=Re x:=by rw[kG,xA,bf]
 have hcs:=M5 [[],[97,110,100],[111,114],[110,111,116],[111,110,108,121]] x (by decide);unfold QF medS;simp only[hcs,rP,Rw h,lD,Zg,zb,Ba,e];cases keyS x<;>cases decide (x.length<=64)<;>try rfl
 simp only[Ab,Ia,Ya];cases lowS x==x
 ·rfl
 ·exact congrArg some e1
theorem xY{x:Str}(h:x.length<=big):Bo x=some (medS x):=by
 have e:decide ((x.length:Int)>64)= !decide (x.length<=64):=Pp _ 64;have ec:=BJ x (lowS x);unfold Bo medS;simp only[rT h,Zg,zb,Ba,e];have hl:Zb (fun(s1:Int)=>bif decide (s1<(x.length:Int))then
    (geti x s1).bind fun y2=>bif (y2.toNat:Int)==0 then some (LO.ret false)else some (LO.again (w64 (s1+1)))
   else some (LO.out ()):Int->Option (LO (Int) (Unit) _)) 0 (fun _=>some true)=some (Re x):=by
  refine(Sw x (fun b=>bif (!(b==0))then none else some false) () (fun i hi=> ?_) ?_).trans ?_
  ·simp only[ZK hi,Ia,ZT hi,Ba,byte_zero,Zo hi h];cases x[i]==0<;>rfl
  ·simp only[QY,Ea]
  ·rw[gq];unfold Re;cases x.all (fun b=> !(b==0))<;>rfl
 rw[hl];unfold keyS;cases x==[]<;>cases decide (x.length<=64)<;>cases x==[97,110,100]<;>cases x==[111,114]<;>cases x==[110,111,116]<;>cases x==[111,110,108,121]<;>
  first|rfl|(simp only[Ia,Ea,Ed,Ab,Jb,Ya,ec];cases lowS x==x<;>rfl)
def isN(n:Int):Bool:=decide (-1000000000000<=n)&&decide (n<=1000000000000)
theorem jW(n:Int):lm n=some (isN n):=by unfold lm isN;show some (bif decide (-1000000000000<=n)then _ else _)=_;cases decide (-1000000000000<=n)<;>rfl
theorem aZ(n:Int):QH n=some (bif isN n then 0 else 8):=by
 unfold QH Ej;have e1:decide (n< -1000000000000)= !decide (-1000000000000<=n):=by have:=bu n (-1000000000000);show _= !decide (n>=_);rw[this,bf]
 have e2:decide (n>1000000000000)= !decide (n<=1000000000000):=by have:=bu 1000000000000 n;show decide (1000000000000<n)= !decide (1000000000000>=n);rw[this,bf]
 have:Zb (fun(s1:Int)=>
   bif decide (s1<(([n]:List Int).length:Int))then
    zb (geti [n] s1) fun y2=>
    bif bif decide (y2<(-1000000000000))then true else decide (y2>1000000000000)then
     some (LO.ret (8:Int))
    else
     some (LO.again (w64 (s1+1)))
   else
    some (LO.out ()):Int->Option (LO (Int) (Unit) Int)) 0 (fun o3=>some (0:Int))=some (bif isN n then 0 else 8):=by
  refine(Sw [n] (fun n=>bif isN n then none else some 8) () (fun i hi=> ?_) ?_).trans ?_
  ·obtain rfl:i=0:=by simpa using hi
   simp only[ZK hi,Ia,ZT hi,zb,Ba,List.getElem_cons_zero,e1,e2,isN];cases decide (-1000000000000<=n)<;>cases decide (n<=1000000000000)<;>rfl
  ·simp only[QY,Ea]
  ·rw[gq];simp only[List.all_cons,List.all_nil,Jc];cases isN n<;>rfl
 rw[this];rfl
def Pf(first:Bool)(y:zg):Bool:=
 y.list.isEmpty&&(Lh y.decl&&((first&&(y.kind==4&&(y.num==0&&medS y.name)))||((y.kind==5||y.kind==6)&&(y.name==[]&&(decide (0<=y.num)&&isN y.num)))))
def Tq(l:List zg):Bool:=(List.range l.length).all fun i=>Pf (i==0) (l.getD i default)
def mf(c:zg):Bool:=c.kind==1&&(Ff c&&(!c.list.isEmpty&&Tq c.list))
def Jm(c:zg):Bool:=match c.list with
 |[]=>false
 |y::_=>y.kind==4
theorem lQ(i:Nat):((i:Int)==0)=(i==0):=by rw[Bool.eq_iff_iff,Sb,Sb];omega
theorem VQ(i:Nat):decide ((i:Int)>0)= !(i==0):=by
 cases i with
 |zero=>rfl
 |succ i=>exact Va (by omega)
theorem pU{c:zg}(h:zF (zo c)<=big)(i:Nat)(R:Type)(A:Option R)(k:Int->Option R):
  (zR (X:=Int) (
       zb (zw (!(decide ((c.list.length:Int)>0))) (ZO (⟨c.kind,[],0,c.decl,c.list⟩:zg)) (default:Bool)) fun y4=>
       bif bif decide ((c.list.length:Int)>0)then true else !y4 then
        A.map LX.ret
       else
        bif c.kind==4 then
         zb (zw (!(bif decide ((i:Int)>0)then true else c.num != 0)) (QF c.name) (default:Bool)) fun y5=>
         bif bif bif decide ((i:Int)>0)then true else c.num != 0 then true else !y5 then
          A.map LX.ret
         else
          some (LX.out (i:Int))
        else
         zR (X:=Bool) (
           bif c.kind==5 then
            some (LX.out (c.kind==5))
           else
            some (LX.out (c.kind==6))) fun j6=>
         bif j6 then
          zb (zw (!(bif !(c.name==[])then true else decide (c.num<0))) (QH c.num) (default:Int)) fun y7=>
          bif bif bif !(c.name==[])then true else decide (c.num<0)then true else y7 != 0 then
           A.map LX.ret
          else
           some (LX.out (i:Int))
         else
          A.map LX.ret) k)=bif Pf (i==0) c then k (i:Int)else A:=by
 have hz:=Ai c;have hn:c.name.length<=big:=by have:=Dr c.decl;omega
 have hA:zR (A.map LX.ret) k=A:=by cases A<;>rfl
 have e1:decide (c.num<0)= !decide (0<=c.num):=by have:=bu c.num 0;show _= !decide (c.num>=0);rw[this,bf]
 have e2:((bif isN c.num then(0:Int)else 8) != 0)= !isN c.num:=by cases isN c.num<;>rfl
 have eb:Ff ⟨c.kind,[],0,c.decl,c.list⟩=Lh c.decl:=rfl;unfold Pf;simp only[Bj,eb,YA,Zg,zb,Ba,gZ hn,aZ,VQ i,e1,bne];cases c.list.isEmpty with
 |false=>exact hA
 |true=>
  cases Lh c.decl with
  |false=>exact hA
  |true=>
   simp only[Jb,Ab,Ia,Ea,Ya];by_cases k4:c.kind=4
   ·simp only[k4,Int.reduceBEq,Ia,Ed,Oc,Ya];cases (i==0)<;>cases c.num==0<;>cases medS c.name<;>first|rfl|exact hA
   ·have b4:=Ka.2 k4;simp only[b4,Ea,Oc,Gd,Ud];by_cases k5:c.kind=5
    ·simp only[k5,Int.reduceBEq,Ia,zX,Pe,Ya];cases c.name==[]<;>cases decide (0<=c.num)<;>cases isN c.num<;>first|rfl|exact hA
    ·have b5:=Ka.2 k5;simp only[b5,Ea,zX,Ud];cases c.kind==6
     ·exact hA
     ·cases c.name==[]<;>cases decide (0<=c.num)<;>cases isN c.num<;>first|rfl|exact hA
theorem Z5{c y:zg}(h:y∈c.list):zF (zo y)<zF (zo c):=by have hz:=Ai c;have:=NG (f:=zo) h;have:=Dr c.decl;omega
theorem Q8(c:zg):c.list.length<=zF (zo c):=by have hz:=Ai c;have:=OG yR c.list;have:=Dr c.decl;omega
theorem rC(c:zg):zF (QV c.decl)<=zF (zo c):=by have hz:=Ai c;omega
theorem PL{c:zg}(h:zF (zo c)<=big):ui c=some (mf c):=by
 have hlen:=Q8 c;unfold ui mf;simp only[qA,Bj,Zg,zb,Ba,Ei,bne];cases c.kind==1 with
 |false=>rfl
 |true=>
  cases Ff c with
  |false=>rfl
  |true=>
   cases c.list.isEmpty with
   |true=>rfl
   |false=>
    simp only[Jb,Ab,Ia,Ea,Ya];refine(xC c.list.length (fun i=>Pf (i==0) (c.list.getD i default)) false (fun i hi=> ?_) ?_).trans ?_
    ·have hm:=Z5 (Ib hi);have hgd:c.list.getD i default=c.list[i]:=by simp[hi]
     have:=pU (c:=c.list[i]) (by omega) i (LO Int Unit Bool) (some (LO.ret false)) fun j=>some (.again (w64 (j+1)));simp only[Bj,ut,Zg,zb,Ba,bne,Be]at this;simp only[ZK hi,Ia,ZT hi,Ba,hgd];refine this.trans ?_;rw[Zo hi (by omega)];cases Pf (i==0) c.list[i]<;>rfl
    ·simp only[QY,Ea]
    ·unfold Tq;cases (List.range c.list.length).all fun i=>Pf (i==0) (c.list.getD i default)<;>rfl
theorem MS{c:zg}(h:zF (zo c)<=big)(i:Nat)(R:Type)(A:Option R)(k:Int->Option R):
  (zR (X:=Int) (
       zb (zw (!(decide ((c.list.length:Int)>0))) (Cj c.decl) (default:Bool)) fun y4=>
       bif bif decide ((c.list.length:Int)>0)then true else !y4 then
        A.map LX.ret
       else
        zb (zw (bif bif (i:Int)==0 then c.kind==4 else false then c.num==0 else false) (Bo c.name) (default:Bool)) fun y5=>
        bif bif bif bif (i:Int)==0 then c.kind==4 else false then c.num==0 else false then y5 else false then
         some (LX.out (i:Int))
        else
         zb (zw (!(bif bif bif c.kind != 5 then c.kind != 6 else false then true else !(c.name==[])then true else decide (c.num<0))) (lm c.num) (default:Bool)) fun y6=>
         bif bif bif bif bif c.kind != 5 then c.kind != 6 else false then true else !(c.name==[])then true else decide (c.num<0)then true else !y6 then
          A.map LX.ret
         else
          some (LX.out (i:Int))) k)=bif Pf (i==0) c then k (i:Int)else A:=by
 have hz:=Ai c;have hn:c.name.length<=big:=by have:=Dr c.decl;omega
 have hA:zR (A.map LX.ret) k=A:=by cases A<;>rfl
 have e1:decide (c.num<0)= !decide (0<=c.num):=by have:=bu c.num 0;show _= !decide (c.num>=0);rw[this,bf]
 unfold Pf;simp only[EM,YA,Zg,zb,Ba,xY hn,jW,lQ i,e1,bne];cases c.list.isEmpty with
 |false=>exact hA
 |true=>
  cases Lh c.decl with
  |false=>exact hA
  |true=>
   simp only[Jb,Ab,Ia,Ea,Ya];by_cases k4:c.kind=4
   ·simp only[k4,Int.reduceBEq,Ia,Ed,Oc,Ya,Ab,Bool.or_self];cases (i==0)<;>cases c.num==0<;>cases medS c.name<;>first|rfl|exact hA
   ·have b4:=Ka.2 k4;have hc:(bif bif (i==0)then false else false then c.num==0 else false)=false:=by cases (i==0)<;>rfl
    simp only[b4,hc,Ea,Oc,Gd,Ud];cases c.kind==5<;>cases c.kind==6<;>cases c.name==[]<;>cases decide (0<=c.num)<;>cases isN c.num<;>first|rfl|exact hA
theorem uK{c:zg}(h:zF (zo c)<=big):Dn c=some (mf c,mf c&&Jm c):=by
 have hlen:=Q8 c;unfold Dn mf;simp only[qA,ut,Zg,zb,Ba,Ei,bne];cases c.kind==1 with
 |false=>rfl
 |true=>
  cases Ff c with
  |false=>rfl
  |true=>
   cases he:c.list.isEmpty with
   |true=>rfl
   |false=>
    simp only[Jb,Ab,Ia,Ea,Ya];refine(xC c.list.length (fun i=>Pf (i==0) (c.list.getD i default)) (false,false) (fun i hi=> ?_) ?_).trans ?_
    ·have hm:=Z5 (Ib hi);have hgd:c.list.getD i default=c.list[i]:=by simp[hi]
     have:=MS (c:=c.list[i]) (by omega) i (LO Int Unit (Bool×Bool)) (some (LO.ret (false,false))) fun j=>some (.again (w64 (j+1)));simp only[Bj,ut,Zg,zb,Ba,bne,Be]at this;simp only[ZK hi,Ia,ZT hi,Ba,hgd];refine this.trans ?_;rw[Zo hi (by omega)];cases Pf (i==0) c.list[i]<;>rfl
    ·simp only[QY,Ea]
    ·unfold Tq Jm;cases hl:c.list with
     |nil=>rw[hl]at he;cases he
     |cons y r=> have:geti (y::r) 0=some y:=rfl;simp only[this,Ba];cases (List.range (y::r).length).all fun i=>Pf (i==0) ((y::r).getD i default)<;>rfl
theorem mY(c:zg):Tn c=some (Jm c):=by
 unfold Tn Jm;cases c.list with
 |nil=>rfl
 |cons y r=> have e1:decide (((y::r).length:Int)>0)=true:=Va (by simp only[Db];omega);have e2:geti (y::r) 0=some y:=rfl;simp only[e1,e2,ZN,zb,Ba,Ia]
def Gf(c:zg):Bool:=bif c.kind==3 then Ff c&&(match c.list with
 |[y]=>mf y&&Jm y
 |_=>false)else mf c
theorem GH{α:Type}(y z:α)(r:List α):(((y::z::r).length:Int)==1)=false:=Ka.2 (by simp only[Db];omega)
theorem pX{c:zg}(h:zF (zo c)<=big):Kk c=some (Gf c):=by
 unfold Kk Gf;simp only[qA,Bj,zb,Ba,PL h,mY];cases c.kind==3 with
 |false=>rfl
 |true=>
  simp only[Ia];cases Ff c with
  |false=>rfl
  |true=>
   cases hl:c.list with
   |nil=>rfl
   |cons y r=>
    cases r with
    |nil=>
     have hm:=Z5 (c:=c) (y:=y) (by rw[hl];exact Lb);have e2:geti [y] 0=some y:=rfl;have e3:(([y]:List zg).length:Int)==1:=rfl;simp only[e2,e3,Ia,ZN,Ba,PL (show zF (zo y)<=big by omega),Ya];cases mf y
     ·rfl
     ·simp only[ZN,Ba,Ia,Ya]
    |cons z r=> simp only[GH,Ia,qY,Ba,Ea,Gd]
theorem lY{c:zg}(h:zF (zo c)<=big):Wn c=some (Gf c):=by
 unfold Wn Gf;simp only[qA,ut,zb,Ba,uK h,bne];cases c.kind==3 with
 |false=>rfl
 |true=>
  simp only[Ia];cases Ff c with
  |false=>rfl
  |true=>
   cases hl:c.list with
   |nil=>rfl
   |cons y r=>
    cases r with
    |nil=>
     have hm:=Z5 (c:=c) (y:=y) (by rw[hl];exact Lb);have e2:geti [y] 0=some y:=rfl;have e3:(([y]:List zg).length:Int)==1:=rfl;simp only[e2,e3,Ea,Jb,Ba,uK (show zF (zo y)<=big by omega),Ya];cases mf y<;>cases Jm y<;>rfl
    |cons z r=> simp only[GH,Jb,Ab,Ea,Ia,Gd]
def qH(c:zg):Bool:=Ff c&&((c.kind==1&&c.list.isEmpty)||(c.kind==2&&(!c.list.isEmpty&&(decide (c.list.length<=64)&&c.list.all Gf))))
theorem HY{l:List zg}(hl:l.length<=big)(h: ∀c∈l,zF (zo c)<=big):Zc l=some (!l.all Gf):=by
 unfold Zc ZP;refine Aw (kv l (fun c=> !Gf c) hl (fun i hi=> ?_) ?_) ((mq _ _).trans (IR _ _))
 ·have:qd l[i]=some (!Gf l[i]):=by unfold qd;simp only[qA,pX (h _ (Ib hi)),zb,Ba]
  simp only[ZK hi,Ia,ZT hi,zb,Ba,qA,this]
 ·simp only[QY,Ea]
theorem O5{c:zg}(h:zF (zo c)<=big):ZV c=some (bif qH c then 0 else 8):=by
 have hlen:=Q8 c;have e:decide ((c.list.length:Int)<=64)=decide (c.list.length<=64):=eG _ 64;unfold ZV qH;simp only[qA,Bj,HY (show c.list.length<=big by omega) (fun y hy=>by have:=Z5 hy;omega),Zg,zb,Ba,YA,Ei,e];have h12:c.kind==1->c.kind==2->False:=fun a b=>by rw[Sb]at a b;omega
 cases Ff c with
 |false=>rfl
 |true=> cases c.kind==1<;>cases c.kind==2<;>cases c.list.isEmpty<;>cases decide (c.list.length<=64)<;>cases c.list.all Gf<;>rfl
theorem yY{c:zg}(h:zF (zo c)<=big):Ms c=some (qH c):=by
 have hlen:=Q8 c;have e:decide ((c.list.length:Int)>64)= !decide (c.list.length<=64):=Pp _ 64;unfold Ms qH;simp only[qA,ut,zb,Ba,VW,Ei,e,bne];cases Ff c with
 |false=>rfl
 |true=>
  simp only[Jb,Ea,Ya];by_cases k1:c.kind=1
  ·simp only[k1,Int.reduceBEq,Ia,Ya,Oc,Ed]
  ·have b1:=Ka.2 k1;simp only[b1,Ea,Oc,Ud];have hl:Zb (fun(s2:Int)=>
      bif decide (s2<(c.list.length:Int))then
       (geti c.list s2).bind fun y3=>
       (Wn y3).bind fun y4=>
       bif !y4 then
        some (LO.ret false)
       else
        some (LO.again (w64 (s2+1)))
      else
       some (LO.out ()):Int->Option (LO (Int) (Unit) _)) 0 (fun _=>some true)=some (c.list.all Gf):=by
    refine(Sw c.list (fun v=>bif Gf v then none else some false) () (fun i hi=> ?_) ?_).trans ?_
    ·have hm:=Z5 (Ib hi);simp only[ZK hi,Ia,ZT hi,Ba,lY (show zF (zo c.list[i])<=big by omega),Zo hi (show c.list.length<=big by omega)];cases Gf c.list[i]<;>rfl
    ·simp only[QY,Ea]
    ·rw[gq];cases c.list.all Gf<;>rfl
   rw[hl];cases c.kind==2<;>cases c.list.isEmpty<;>cases decide (c.list.length<=64)<;>rfl
theorem AA{n:Nat}(h:n<=big):w64 ((n:Int)+1)=((n+1:Nat):Int):=by rw[w64,ZG (by omega) (by unfold big at h;omega)];omega
theorem mi{α:Type}(f:α->Nat): ∀{l:List α} {i:Nat} (h:i<l.length),((l.take (i+1)).map f).sum=((l.take i).map f).sum+f l[i]
 |[],_,h=>by cases h
 |v::l,0,_=>by simp
 |v::l,i+1,h=>by simp only[Jd,Ub,Ee,List.getElem_cons_succ];rw[mi f (l:=l) (i:=i) (by simpa using h)];omega
theorem Hr{α:Type}(f:α->Nat): ∀(l:List α) (i:Nat),((l.take i).map f).sum<=(l.map f).sum
 |[],_=>by simp
 |v::l,0=>by simp
 |v::l,i+1=>by simp only[Jd,Ub,Ee];have:=Hr f l i;omega
theorem lG{α:Type}(f:α->Nat): ∀{l:List α} {i:Nat} (h:i<l.length),mx f (l.take (i+1))=max (mx f (l.take i)) (f l[i])
 |[],_,h=>by cases h
 |v::l,0,_=>by simp[mx]
 |v::l,i+1,h=>by simp only[Jd,mx,List.getElem_cons_succ];rw[lG f (l:=l) (i:=i) (by simpa using h)];omega
theorem eH{α:Type}(p:α->Bool): ∀{l:List α} {i:Nat} (h:i<l.length),(l.take (i+1)).all p=((l.take i).all p&&p l[i])
 |[],_,h=>by cases h
 |v::l,0,_=>by simp
 |v::l,i+1,h=>by simp only[Jd,List.all_cons,List.getElem_cons_succ];rw[eH p (l:=l) (i:=i) (by simpa using h),Je]
theorem MR{α:Type}{p:α->Bool}{l:List α}{i:Nat}(h:i<l.length)(hp:p l[i]=false):l.all p=false:=by rw[List.all_eq_false];exact⟨l[i],Ib h,by rw[hp];simp⟩
mutual
def sizC:zg->Nat
 |⟨_,_,_,_,l⟩=>1+pg l
def pg:List zg->Nat
 |[]=>0
 |c::r=>sizC c+pg r
end
theorem YI(l:List zg):pg l=(l.map sizC).sum:=by
 induction l with
 |nil=>rw[pg];rfl
 |cons c l ih=>rw[pg,ih];rfl
theorem uh(c:zg):sizC c=1+(c.list.map sizC).sum:=by obtain⟨k,n,m,d,l⟩:=c;rw[sizC,YI]
theorem rQ: ∀l:List zg,pg l<=zL zo l:=by
 have key: ∀(n:Nat) (l:List zg),zL zo l<n->pg l<=zL zo l:=by
  intro n
  induction n with
  |zero=>intro l h;omega
  |succ n ih=>
   intro l
   induction l with
   |nil=>intro _;rw[pg];exact Ec _
   |cons v l ihl=> intro h;rw[yh]at h ⊢;rw[pg,uh,<-YI];have hz:=Ai v;have hd:=Dr v.decl;have h1:=ih v.list (by omega);have h2:=ihl (by omega);omega
 exact fun l=>key _ l (Nat.lt_succ_self _)
theorem yA(c:zg):sizC c<=zF (zo c):=by have:=rQ [c];rw[pg,pg,yh,Ou]at this;omega
theorem kZ{c:zg}{m:Nat}(h:zF (zo c)<=big)(hm:m<=big):
  ∃r:Nat,qU (c,(m:Int))=some (r:Int)/\r<=sizC c/\(sizC c<=m->r=sizC c)/\(m<sizC c->m<r):=by
 have key: ∃y:Int,qU (c,(m:Int))=some y/\ ∃r:Nat,y=(r:Int)/\r<=sizC c/\ ∀m':Nat,(m:Int)=(m':Int)->(sizC c<=m'->r=sizC c)/\(m'<sizC c->m'<r):=by
  refine Rv Y2 (fun x:zg×Int=>zF (zo x.1)) (fun x=>zF (zo x.1)<=big/\ ∃m:Nat,x.2=(m:Int)/\m<=big)
   (fun x (y:Int)=> ∃r:Nat,y=(r:Int)/\r<=sizC x.1/\ ∀m':Nat,x.2=(m':Int)->(sizC x.1<=m'->r=sizC x.1)/\(m'<sizC x.1->m'<r)) (fun S x hx hS=> ?_) (x:=(c,(m:Int))) ⟨h,m,rfl,hm⟩
  obtain⟨c,n⟩:=x;obtain⟨hc,m,hn,hm⟩:=hx;have hn:n=(m:Int):=hn;have hc:zF (zo c)<=big:=hc;subst hn;have hlen:=Q8 c;have hsz:=yA c;have he:=uh c;unfold Eo;have hw: ∀a:Nat,a<=big->w64 ((a:Int)+0)=(a:Int):=fun a ha=>by rw[w64,ZG (by omega) (by unfold big at ha;omega)];omega
  refine jv (A:=Nat) c.list.length (fun i a=>((a:Int),(i:Int))) (fun i a=>a<=1+((c.list.take i).map sizC).sum/\(1+((c.list.take i).map sizC).sum<=m->a=1+((c.list.take i).map sizC).sum)/\(m<1+((c.list.take i).map sizC).sum->m<a)) _ (a0:=1) rfl (by simp) (fun i a hi hI=> ?_) (fun a hI=> .inl ?_)
  ·obtain⟨i1,i2,i3⟩:=hI;have ht:=Hr sizC c.list i;have ht1:=Hr sizC c.list (i+1);rw[mi sizC hi]at ht1;have hmm:=Z5 (Ib hi);by_cases ham:a<=m
   ·have ha:a=1+((c.list.take i).map sizC).sum:=i2 (by omega);have e1:decide ((a:Int)<=(m:Int))=true:=Va (by omega);have hw2:w64 ((m:Int) - (a:Int))=((m - a:Nat):Int):=by rw[w64,ZG (by omega) (by unfold big at hm;omega)];omega
    obtain⟨y,hy1,r,hy2,hy3,hy4⟩:=hS (c.list[i],((m - a:Nat):Int)) ⟨by show zF (zo c.list[i])<=big;omega,m - a,rfl,by omega⟩ hmm;have hy3:r<=sizC c.list[i]:=hy3;obtain⟨hy5,hy6⟩:=hy4 (m - a) rfl;have hy5:sizC c.list[i]<=m - a->r=sizC c.list[i]:=hy5;have hy6:m - a<sizC c.list[i]->m - a<r:=hy6;have hw3:w64 ((a:Int)+(r:Int))=((a+r:Nat):Int):=kQ (by omega);refine .inl ⟨a+r,?_,?_,?_,?_⟩
    ·simp only[ZK hi,e1,Ia,ZT hi,zb,Ba,qA,hw2,hy1,hy2,hw3,Zo hi (show c.list.length<=big by omega)]
    ·rw[mi sizC hi];omega
    ·rw[mi sizC hi];omega
    ·rw[mi sizC hi];omega
   ·have e1:decide ((a:Int)<=(m:Int))=false:=Xb (by omega);refine .inr (.inr ⟨(a:Int),?_,(a:Int),rfl,a,rfl,?_,fun m' hm'=>⟨fun h=> ?_,fun h=> ?_⟩⟩)
    ·simp only[ZK hi,e1,Ia,Ea]
    ·show a<=sizC c;omega
    ·have hm':(m:Int)=(m':Int):=hm';have h:sizC c<=m':=h;show a=sizC c;omega
    ·have hm':(m:Int)=(m':Int):=hm';show m'<a;omega
  ·rw[Md]at hI;obtain⟨i1,i2,i3⟩:=hI;refine⟨(a:Int),?_,(a:Int),rfl,a,rfl,?_,fun m' hm'=>⟨fun h=> ?_,fun h=> ?_⟩⟩
   ·simp only[QY,Ea]
   ·show a<=sizC c;omega
   ·have hm':(m:Int)=(m':Int):=hm';have h:sizC c<=m':=h;show a=sizC c;omega
   ·have hm':(m:Int)=(m':Int):=hm';have h:m'<sizC c:=h;show m'<a;omega
 obtain⟨y,h1,r,rfl,h2,h3⟩:=key;exact⟨r,h1,h2,h3 m rfl⟩
def Nj(c:zg):Bool:=c.kind==7||c.kind==8
mutual
def df:zg->Nat
 |⟨k,_,_,d,l⟩=>bif k==7 then 1+Te d.value else bif k==8 then 1 else Hq l
def Hq:List zg->Nat
 |[]=>0
 |c::r=>max ((bif Nj c then 0 else 1)+df c) (Hq r)
end
def Uh(c:zg):Nat:=(bif Nj c then 0 else 1)+df c
theorem nU(l:List zg):Hq l=mx Uh l:=by
 induction l with
 |nil=>rw[Hq];rfl
 |cons c l ih=>rw[Hq,ih];rfl
theorem PH(c:zg):df c=bif c.kind==7 then 1+Te c.decl.value else bif c.kind==8 then 1 else mx Uh c.list:=by obtain⟨k,n,m,d,l⟩:=c;rw[df,nU]
theorem VR: ∀c:zg,df c<=zF (zo c):=by
 have key: ∀(n:Nat) (c:zg),zF (zo c)<n->df c<=zF (zo c):=by
  intro n
  induction n with
  |zero=>intro c h;omega
  |succ n ih=>
   intro c h;have hz:=Ai c;have hd:=Bn c.decl;rw[PH];cases c.kind==7 with
   |true=> have h1:=wm c.decl.value;have h2:=Xz c.decl.value;simp only[Ia];omega
   |false=>
    cases c.kind==8 with
    |true=>simp only[Ia,Ea];omega
    |false=>
     simp only[Ea];have: ∀l:List zg,(∀y∈l,y∈c.list)->mx Uh l<=1+zL zo l:=by
      intro l
      induction l with
      |nil=>intro _;exact Ec _
      |cons y l ihl=>
       intro hl;have h1:=ihl fun z hz=>hl z (Eb _ hz);have h2:=Z5 (hl y Lb);have h3:=ih y (by omega);have h4:Uh y<=1+df y:=by unfold Uh;cases Nj y<;>simp only[Ia,Ea]<;>omega
       rw[mx,yh];omega
     have:=this c.list fun _ h=>h;omega
 exact fun c=>key _ c (Nat.lt_succ_self _)
mutual
def supC:zg->Bool
 |⟨k,n,m,d,l⟩=>bif k==7 then l.isEmpty&&(n==[]&&(m==0&&Jg d))else bif k==8 then l.isEmpty&&Ff ⟨k,n,m,d,l⟩else
  (k==3||(k==1||k==2))&&(Ff ⟨k,n,m,d,l⟩&&((bif k==3 then l.length==1 else decide (2<=l.length))&&yo l))
def yo:List zg->Bool
 |[]=>true
 |c::r=>supC c&&yo r
end
theorem AU(l:List zg):yo l=l.all supC:=by
 induction l with
 |nil=>rw[yo];rfl
 |cons c l ih=>rw[yo,ih];rfl
theorem IA(c:zg):supC c=bif c.kind==7 then c.list.isEmpty&&(c.name==[]&&(c.num==0&&Jg c.decl))else bif c.kind==8 then c.list.isEmpty&&Ff c else
  (c.kind==3||(c.kind==1||c.kind==2))&&(Ff c&&((bif c.kind==3 then c.list.length==1 else decide (2<=c.list.length))&&c.list.all supC)):=by
 obtain⟨k,n,m,d,l⟩:=c;rw[supC,AU]
theorem cO{α:Type}(l:List α):decide ((l.length:Int)<2)= !decide (2<=l.length):=by
 by_cases h:2<=l.length
 ·rw[Va h,Xb (by omega)];rfl
 ·rw[Xb h,Va (by omega)];rfl
theorem JS{α:Type}(l:List α):((l.length:Int)==1)=(l.length==1):=by rw[Bool.eq_iff_iff,Sb,Sb];omega
theorem nX(c:zg):Di c=some (Nj c):=by unfold Di Nj;cases c.kind==7<;>rfl
theorem Yq(c:zg):1<=sizC c:=by rw[uh];omega
theorem nY{c:zg}{m:Nat}(h:zF (zo c)<=big)(hm:m<=1500):
  ∃y:(Int×Bool)×Int,ZW (c,(m:Int))=some y/\y.1.2=(supC c&&decide (m+sizC c<=1500))/\(y.1.2=true->y.1.1=(df c:Int)/\y.2=((m+sizC c:Nat):Int)):=by
 have key: ∃y:(Int×Bool)×Int,ZW (c,(m:Int))=some y/\ ∀m':Nat,(m:Int)=(m':Int)->y.1.2=(supC c&&decide (m'+sizC c<=1500))/\(y.1.2=true->y.1.1=(df c:Int)/\y.2=((m'+sizC c:Nat):Int)):=by
  refine Rv NZ (fun x:zg×Int=>zF (zo x.1)) (fun x=>zF (zo x.1)<=big/\ ∃m:Nat,x.2=(m:Int)/\m<=1500)
   (fun x (y:(Int×Bool)×Int)=> ∀m':Nat,x.2=(m':Int)->y.1.2=(supC x.1&&decide (m'+sizC x.1<=1500))/\(y.1.2=true->y.1.1=(df x.1:Int)/\y.2=((m'+sizC x.1:Nat):Int))) (fun S x hx hS=> ?_) (x:=(c,(m:Int))) ⟨h,m,rfl,hm⟩
  obtain⟨c,n⟩:=x;obtain⟨hc,m,hn,hm⟩:=hx;have hn:n=(m:Int):=hn;have hc:zF (zo c)<=big:=hc;subst hn;have hlen:=Q8 c;have hd:=rC c;have hsz:=yA c;have he:=uh c;have hv:=Xz c.decl.value;have hzd:=Bn c.decl;have fin: ∀(d:Int) (b:Bool) (n:Int),b=(supC c&&decide (m+sizC c<=1500))->(b=true->d=(df c:Int)/\n=((m+sizC c:Nat):Int))->
    ∀m':Nat,(m:Int)=(m':Int)->b=(supC c&&decide (m'+sizC c<=1500))/\(b=true->d=(df c:Int)/\n=((m'+sizC c:Nat):Int)):=by
   intro d b n h1 h2 m' hm';obtain rfl:m=m':=by omega
   exact⟨h1,h2⟩
  have hw:w64 ((m:Int)+1)=((m+1:Nat):Int):=AA (by unfold big;omega);unfold Gj;simp only[hw,qA];by_cases hm1:m+1>1500
  ·have e1:decide (((m+1:Nat):Int)>1500)=true:=Va (by omega);simp only[e1,Ia];have e2:decide (m+sizC c<=1500)=false:=Xb (by omega);exact⟨_,rfl,fin _ _ _ (by rw[e2,Gd]) (fun h=>by cases h)⟩
  have e1:decide (((m+1:Nat):Int)>1500)=false:=Xb (by omega);simp only[e1,Ea];have hs:=IA c;have hdp:=PH c;cases h7:c.kind==7 with
  |true=>
   rw[h7]at hs hdp;simp only[Ia]at hs hdp ⊢;rw[kV (show szL c.decl.value<=big by omega),eZ (show zF (QV c.decl)<=big by omega)];simp only[zb,Ba,Ei,Zg];refine⟨_,rfl,fin _ _ _ ?_ ?_⟩
   ·rw[hs];have hde:Jg c.decl=(Jg c.decl&&(errS c.decl.value==0)):=by unfold Jg;cases Bl c.decl.name<;>cases errS c.decl.value==0<;>simp
    cases hle:c.list.isEmpty with
    |false=>rfl
    |true=>
     have hl:c.list=[]:=Ad.1 hle;rw[hl]at he;have e2:decide (m+sizC c<=1500)=true:=Va (by rw[he];simp;omega);rw[e2];by_cases her:errS c.decl.value=0
     ·rw[Na her];cases c.name==[]<;>cases c.num==0<;>cases Jg c.decl<;>rfl
     ·rw[Ra her];have her':=Ka.2 her;rw[her',Gd]at hde;rw[hde];simp only[her'];cases c.name==[]<;>cases c.num==0<;>rfl
   ·intro hf;have her:errS c.decl.value=0:=by
     by_cases her:errS c.decl.value=0
     ·exact her
     ·rw[Ra her]at hf;have her':=Ka.2 her;simp only[her']at hf;revert hf;cases c.list.isEmpty<;>cases c.name==[]<;>cases c.num==0<;>intro h<;>cases h
    have hl:c.list=[]:=by
     cases hle:c.list.isEmpty with
     |true=>exact Ad.1 hle
     |false=>rw[hle]at hf;cases hf
    have h1:=wm c.decl.value;rw[Na her,hdp];rw[hl]at he;simp only[AA (show Te c.decl.value<=big by omega)];refine⟨by rw[Nat.add_comm],?_⟩;rw[he];rfl
  |false=>
   rw[h7]at hs hdp;simp only[Ea]at hs hdp ⊢;cases h8:c.kind==8 with
   |true=>
    rw[h8]at hs hdp;simp only[Ia]at hs hdp ⊢;simp only[zb,Ba,Ei,Zg,Bj];refine⟨_,rfl,fin _ _ _ ?_ ?_⟩
    ·rw[hs];cases hle:c.list.isEmpty with
     |false=>rfl
     |true=> have hl:c.list=[]:=Ad.1 hle;rw[hl]at he;have e2:decide (m+sizC c<=1500)=true:=Va (by rw[he];simp;omega);rw[e2];cases Ff c<;>rfl
    ·intro hf;have hl:c.list=[]:=by
      cases hle:c.list.isEmpty with
      |true=>exact Ad.1 hle
      |false=>rw[hle]at hf;cases hf
     rw[hl]at he;rw[hdp,he];exact⟨rfl,rfl⟩
   |false=>
    rw[h8]at hs hdp;simp only[Ea]at hs hdp ⊢;have hj: ∀{R:Type} (k:Bool->Option R),zR (X:=Bool) (bif c.kind==3 then some (LX.out (c.kind==3))else bif c.kind==1 then some (LX.out (c.kind==1))else some (LX.out (c.kind==2))) k=k (c.kind==3||(c.kind==1||c.kind==2)):=by intro R k;cases c.kind==3<;>cases c.kind==1<;>rfl
    rw[hj];cases hk:(c.kind==3||(c.kind==1||c.kind==2))with
    |false=>
     rw[hk]at hs;exact⟨_,rfl,fin _ _ _ (by rw[hs];rfl) (fun h=>by cases h)⟩
    |true=>
     rw[hk]at hs;simp only[Ia,Ya]at hs ⊢;have hg:(bif bif !Ff c then true else bif c.kind==3 then(c.list.length:Int) != 1 else false then true else bif c.kind != 3 then decide ((c.list.length:Int)<2)else false)= !(Ff c&&(bif c.kind==3 then c.list.length==1 else decide (2<=c.list.length))):=by rw[cO,bne,bne,JS];cases Ff c<;>cases c.kind==3<;>cases c.list.length==1<;>rfl
     simp only[Bj,zb,Ba,hg];cases hb:(Ff c&&(bif c.kind==3 then c.list.length==1 else decide (2<=c.list.length)))with
     |false=>
      rw[<-Je,hb]at hs;exact⟨_,rfl,fin _ _ _ (by rw[hs];rfl) (fun h=>by cases h)⟩
     |true=>
      rw[<-Je,hb,Ya]at hs;simp only[Jb,Ea];refine jv (A:=Nat×Nat) c.list.length (fun i a=>(((a.1:Int),(i:Int)),(a.2:Int))) (fun i a=>a.2=m+1+((c.list.take i).map sizC).sum/\a.2<=1500/\a.1=mx Uh (c.list.take i)/\(c.list.take i).all supC=true) _ (a0:=(0,m+1)) rfl ⟨by simp,by show m+1<=1500;omega,by simp[mx],by simp⟩ (fun i a hi hI=> ?_) (fun a hI=> .inl ?_)
      ·obtain⟨i1,i2,i3,i4⟩:=hI;have ht:=Hr sizC c.list (i+1);rw[mi sizC hi]at ht;have hmm:=Z5 (Ib hi);obtain⟨y,hy1,hy2⟩:=hS (c.list[i],(a.2:Int)) ⟨by show zF (zo c.list[i])<=big;omega,a.2,rfl,i2⟩ hmm;obtain⟨hy3,hy4⟩:=hy2 a.2 rfl;have hy3:y.1.2=(supC c.list[i]&&decide (a.2+sizC c.list[i]<=1500)):=hy3;simp only[ZK hi,Ia,ZT hi,Ba,qA,hy1];cases hf:y.1.2 with
       |false=>
        refine .inr (.inl ⟨_,rfl,fin _ _ _ ?_ (fun h=>by cases h)⟩);rw[hf]at hy3;cases hsi:supC c.list[i]with
        |false=>rw[hs,MR hi hsi];rfl
        |true=> rw[hsi,Ya]at hy3;have:=Ag hy3.symm;have e2:decide (m+sizC c<=1500)=false:=Xb (by omega);rw[e2,Gd]
       |true=>
        obtain⟨hy5,hy6⟩:=hy4 hf;rw[hf]at hy3;have hy3:=hy3.symm;rw[Ca]at hy3;have hle:=Bb hy3.2;have hdl:=VR c.list[i];have hy5:y.1.1=(df c.list[i]:Int):=hy5;have hy6:y.2=((a.2+sizC c.list[i]:Nat):Int):=hy6;refine .inl ⟨(max a.1 (Uh c.list[i]),a.2+sizC c.list[i]),?_,?_,hle,?_,?_⟩
        ·have hst:Uh c.list[i]=(bif Nj c.list[i]then 0 else 1)+df c.list[i]:=rfl;have hw2:=AA (n:=df c.list[i]) (by omega);simp only[Jb,Ea,nX,Ba,hy5,hy6,hw2,Zo hi (show c.list.length<=big by omega)];cases hlf:Nj c.list[i]with
         |true=> rw[hlf]at hst;rw[Ia,Gc]at hst;simp only[Jb,Ea,zX,hst,bG]
         |false=> rw[hlf]at hst;rw[Ea,Nat.add_comm]at hst;simp only[Ab,Ia,zX,hst,bG]
        ·rw[mi sizC hi,i1];show _+_+_+_=_;omega
        ·rw[lG Uh hi,i3]
        ·rw[eH supC hi,i4,hy3.1];rfl
      ·rw[Md]at hI;obtain⟨i1,i2,i3,i4⟩:=hI;refine⟨((a.1:Int),(a.2:Int)),?_,_,rfl,fin _ _ _ ?_ (fun _=>⟨?_,?_⟩)⟩
       ·simp only[QY,Ea]
       ·have e2:decide (m+sizC c<=1500)=true:=Va (by omega);rw[hs,i4,e2];rfl
       ·rw[hdp,i3]
       ·show(a.2:Int)=_;rw[i1,he];congr 1;omega
 obtain⟨y,h1,h2⟩:=key;exact⟨y,h1,h2 m rfl⟩
def Oh(c:zg):Bool:=supC c&&(decide (sizC c<=1500)&&decide (df c<=16))
theorem J6{c:zg}(h:zF (zo c)<=big):zZ c=some (bif Oh c then 0 else 8):=by
 obtain⟨y,h1,h2,h3⟩:=nY (m:=0) h (by omega);unfold zZ Oh;replace h1:ZW (c,0)=some y:=h1;simp only[qA,h1,zb,Ba];rw[Gc]at h2;cases hf:y.1.2 with
 |false=> rw[hf]at h2;rw[<-Je,<-h2];rfl
 |true=> have e:decide ((df c:Int)>16)= !decide (df c<=16):=Pp _ 16;rw[(h3 hf).1,e];rw[hf]at h2;rw[<-Je,<-h2];cases decide (df c<=16)<;>rfl
mutual
/-- The declarations of a condition, in order. -/
def Zn:zg->List zA
 |⟨k,_,_,d,l⟩=>bif k==7 then [d]else Iq l
def Iq:List zg->List zA
 |[]=>[]
 |c::r=>Zn c++Iq r
end
theorem LK: ∀l:List zg,Iq l=l.flatMap Zn
 |[]=>by rw[Iq];rfl
 |c::r=>by rw[Iq,LK r,xe]
theorem Yg(c:zg):Zn c=bif c.kind==7 then [c.decl]else c.list.flatMap Zn:=by obtain⟨⟩:=c;rw[Zn,LK]
def allW:Str:=[97,108,108]
def nu:Str:=[115,99,114,101,101,110]
mutual
/-- Whether a condition holds: a width in thousandths, a truth value for each declaration. -/
def holC(w:Int):zg->List Bool->Bool
 |⟨k,n,m,_,l⟩,ys=>
  bif k==4 then n==allW||n==nu else bif k==5 then decide (w>=m)else bif k==6 then decide (w<=m)else bif k==7 then ys.headD false else bif k==8 then false else
  bif k==1 then QO w l ys else bif k==2 then Qa w l ys else !Qa w l ys
def QO(w:Int):List zg->List Bool->Bool
 |[],_=>true
 |c::r,ys=>holC w c (ys.take (Zn c).length)&&QO w r (ys.drop (Zn c).length)
def Qa(w:Int):List zg->List Bool->Bool
 |[],_=>false
 |c::r,ys=>holC w c (ys.take (Zn c).length)||Qa w r (ys.drop (Zn c).length)
end
theorem Xi(w:Int)(c:zg)(ys:List Bool):holC w c ys=
  bif c.kind==4 then c.name==allW||c.name==nu else bif c.kind==5 then decide (w>=c.num)else bif c.kind==6 then decide (w<=c.num)else bif c.kind==7 then ys.headD false else bif c.kind==8 then false else
  bif c.kind==1 then QO w c.list ys else bif c.kind==2 then Qa w c.list ys else !Qa w c.list ys:=by
 obtain⟨⟩:=c;rw[holC]
def Np(c:zg)(w:Int)(ys:List Bool):Bool×Int:=
 bif !(qH c||Oh c)then(false,8)else
 bif decide (w<0)||(decide (w>1000000000)|| !(ys.length==(Zn c).length))then(false,2)else(holC (1000*w) c ys,0)
theorem Oq{y:zg}: ∀{l:List zg},y∈l->sizC y<=(l.map sizC).sum
 |[],h=>by cases h
 |c::r,h=>by
  rw[Ub,Ee];rcases Ua.1 h with rfl|h
  ·omega
  ·have:=Oq h;omega
theorem WR: ∀{c:zg},supC c=true-> ∀d∈Zn c,Jg d=true:=by
 have key: ∀(n:Nat) (c:zg),sizC c<=n->supC c=true-> ∀d∈Zn c,Jg d=true:=by
  intro n
  induction n with
  |zero=>intro c hc;have:=Yq c;omega
  |succ n ih=>
   intro c hc hs d hd;rw[Yg]at hd;rw[IA]at hs;cases h7:c.kind==7 with
   |true=> rw[h7,Ia]at hs hd;simp only[Ca]at hs;rw[Pb.1 hd];exact hs.2.2.2
   |false=>
    rw[h7,Ea]at hs hd;obtain⟨y,hy,hd⟩:=Wd.1 hd;have hlt:sizC y<=n:=by have h1:=uh c;have h2:=Oq hy;omega
    refine ih y hlt ?_ d hd;cases h8:c.kind==8 with
    |true=>
     rw[h8,Ia]at hs;simp only[Ca,Ad]at hs;rw[hs.1]at hy;cases hy
    |false=>
     rw[h8,Ea]at hs;cases h3:c.kind==3<;>rw[h3]at hs<;>simp at hs
     all_goals first|exact hs.2.2 y hy|exact hs.2.2.2 y hy|exact hs.2 y hy|skip
 intro c hs;exact key _ c (La _) hs
theorem Tw{l:List zg}(h:Tq l=true){y:zg}(hy:y∈l): ∃f,Pf f y=true:=by
 obtain⟨i,hi,rfl⟩:=Xf hy;have:=Xa.1 h i (jb.2 hi);refine⟨i==0,?_⟩
 rwa [Bg,Ja hi]at this
theorem Mw{f:Bool}{y:zg}(h:Pf f y=true):Zn y=[]:=by
 unfold Pf at h;simp only[Ca,Ad]at h;rw[Yg,h.1];have h7:(y.kind==7)=false:=by rw[Ka];intro e;simp[e]at h
 rw[h7];rfl
theorem iJ{c:zg}(h:mf c=true):Zn c=[]:=by unfold mf at h;simp only[Ca,Sb]at h;rw[Yg,h.1,List.flatMap_eq_nil_iff.2 fun y hy=>let⟨_,e⟩:=Tw h.2.2.2 hy;Mw e];rfl
theorem EC{c:zg}(h:Gf c=true):Zn c=[]:=by
 unfold Gf at h;cases h3:c.kind==3 with
 |false=>rw[h3]at h;exact iJ h
 |true=>
  rw[h3,Ia,Ca]at h;have:=h.2;revert this;rw[Yg,eq_of_beq h3];cases hl:c.list with
  |nil=>intro _;rfl
  |cons y r=>
   cases r with
   |nil=> intro hq;simp only[Ca]at hq;simp[iJ hq.1]
   |cons z r=>intro hq;cases hq
theorem IJ{c:zg}(h:qH c=true):Zn c=[]:=by
 unfold qH at h;simp only[Ca,Cc,Sb,Ad,Xa]at h;rw[Yg];rcases h.2 with⟨hk,hl⟩|⟨hk,_,_,hl⟩
 ·rw[hk,hl];rfl
 ·rw[hk,List.flatMap_eq_nil_iff.2 fun y hy=>EC (hl y hy)];rfl
theorem Ww{w:Int}: ∀{l:List zg},(∀y∈l,Zn y=[])->Qa w l []=l.any fun y=>holC w y []
 |[],_=>by rw[Qa];rfl
 |c::r,h=>by rw[Qa,h c (by simp),Lf,Ie,Af,Ww fun y hy=>h y (by simp[hy])];rfl
theorem iC{w:Int}: ∀{l:List zg},(∀y∈l,Zn y=[])->QO w l []=l.all fun y=>holC w y []
 |[],_=>by rw[QO];rfl
 |c::r,h=>by rw[QO,h c (by simp),Lf,Ie,Af,iC fun y hy=>h y (by simp[hy])];rfl
def Wi(x:zg):zg:=⟨2,[],0,⟨[],[],false⟩,[⟨1,[],0,⟨[],[],false⟩,[x]⟩]⟩
def Eg(y:zg):zg:=⟨2,[],0,⟨[],[],false⟩,[y]⟩
theorem kJ{y:zg}(h:Gf y=true):qH (Eg y)=true:=by unfold qH Eg;simp[h,Ff,Lh]
theorem IW{f:Bool}{x:zg}(h:Pf f x=true)(h4:(x.kind==4)=false):qH (Wi x)=true:=by
 have hq:mf (⟨1,[],0,⟨[],[],false⟩,[x]⟩:zg)=true:=by
  unfold mf Tq;have:Pf true x=true:=by unfold Pf at h ⊢;rw[h4]at h ⊢;simpa using h
  simp[Ff,Lh,this]
 unfold Wi;refine kJ ?_;unfold Gf;exact hq
theorem OB{w:Int}{y:zg}(h:Gf y=true):holC w (Eg y) []=holC w y []:=by rw[Xi];show Qa w [y] []=_;rw[Ww fun z hz=>by rw[Pb.1 hz];exact EC h];simp
theorem VI{w:Int}{f:Bool}{x:zg}(h:Pf f x=true):holC w (Wi x) []=holC w x []:=by
 rw[Xi];show Qa w [_] []=_;have hx:Zn (⟨1,[],0,⟨[],[],false⟩,[x]⟩:zg)=[]:=by rw[Yg];show List.flatMap Zn [x]=_;simp[Mw h]
 rw[Ww fun z hz=>by rw[Pb.1 hz];exact hx];simp only[List.any_cons,List.any_nil,Ed];rw[Xi];show QO w [x] []=_;rw[iC fun z hz=>by rw[Pb.1 hz];exact Mw h];simp
theorem YU{w:Int}{c:zg}(h:qH c=true):holC w c []=((c.kind==1)||c.list.any fun y=>holC w (Eg y) []):=by
 have h0:=h;unfold qH at h;simp only[Ca,Cc,Sb,Ad,Xa]at h;rw[Xi];rcases h.2 with⟨hk,hl⟩|⟨hk,_,_,hl⟩
 ·rw[hk,hl];rfl
 ·rw[hk];show Qa w c.list []=_;rw[Ww fun y hy=>EC (hl y hy)];show _=(false||_);rw[Ud,Bool.eq_iff_iff,List.any_eq_true,List.any_eq_true];constructor
  ·rintro⟨y,hy,e⟩;exact⟨y,hy,by rw[OB (hl y hy)];exact e⟩
  ·rintro⟨y,hy,e⟩;exact⟨y,hy,by rw[<-OB (w:=w) (hl y hy)];exact e⟩
theorem vP{a b:Int}{x:zg}(hk:x.kind=5)(hab:a<=b)(h:holC a x []=true):holC b x []=true:=by rw[Xi,hk]at h ⊢;exact Va (Int.le_trans (Bb h) hab)
theorem wP{a b:Int}{x:zg}(hk:x.kind=6)(hab:a<=b)(h:holC b x []=true):holC a x []=true:=by rw[Xi,hk]at h ⊢;exact Va (Int.le_trans hab (Bb h))
theorem WS{w:Int}{y x:zg}(hk:y.kind=1)(h:Gf y=true)(hx:x∈y.list)(hy:holC w y []=true):holC w x []=true:=by
 have hq:mf y=true:=by unfold Gf at h;rw[hk]at h;exact h
 unfold mf at hq;simp only[Ca]at hq;rw[Xi,hk]at hy;have hy:QO w y.list []=true:=hy;rw[iC fun z hz=>let⟨_,e⟩:=Tw hq.2.2.2 hz;Mw e]at hy;exact Xa.1 hy x hx
theorem oV{R:Type}(x:Option R):both x x=x:=by unfold both;rw[Na rfl]
theorem kR{l:List ze}(h:szL l<=big):qB l=some l:=by
 unfold qB;have b:=Dh l;unfold big at h;have a:zQ 0 l.length 80=true:=ji (by omega);cases l with
 |nil=>simp only[a,oV,Qy,List.isEmpty_nil,Ia]
 |cons v r=>simp_all
theorem LQ{l:List ze}(h:szL l<=big):ZY l=some l:=by
 refine Nk (fun l=>szL l) (fun l=>szL l<=big) (fun l=>l) (fun S l hl hS=> ?_) h;unfold Xn;have hlen:=Dh l;simp only[zb,kR hl,Ba];refine(um l (fun i (a:List ze)=>((i:Int),a)) (fun v a=>some (.again a)) (fun a=>some (.out a)) (fun i a=>a=l) (a:=l) rfl rfl (fun i a hi hI=> ?_) (fun a hI=> ?_) (r:= .out l) ?_)
 ·subst hI;have hsz:=Yi (Ib hi);have hv2:=Xh a[i];refine⟨?_,fun a' ha=>by cases ha;rfl⟩;have h1:S a[i].list=some a[i].list:=hS a[i].list (by omega) (by omega);have h2:decide ((0:Int)<=(i:Int))=true:=Va (by omega);have h3:a[i]? =some a[i]:=Ja hi;have h4:a.set i ⟨a[i].token,a[i].list⟩=a:=by
   have:(⟨a[i].token,a[i].list⟩:ze)=a[i]:=by cases a[i];rfl
   rw[this,List.set_getElem_self]
  simp only[ZK hi,h2,Bool.and_self,Ia,Qy,ib,h3,Ba,h1,h4,Zo hi (by omega),Be]
 ·grind
 ·rw[Rn (fun a v=>a) (fun v a=>rfl)];congr 2;clear hl hS hlen h;generalize l=b at*;have: ∀(m b:List ze),m.foldl (fun a _=>a) b=b:=by
   intro m
   induction m with
   |nil=>intro b;rfl
   |cons v m ih=>grind
  exact this _ _
theorem Au{l:List ze}{i:Nat}(h:i<l.length):Dj ((i:Int),l)=some (isSp l[i]):=by unfold Dj;simp only[zb,ZT h,Ba];rfl
theorem eT{l:List ze}(h:szL l<=big):QZ l=some (if errS l=0 then(trimS l,0)else([],errS l)):=by
 unfold QZ;have hlen:=Dh l;simp only[zb,XC h,Ba];by_cases h1:errS l=0
 ·rw[Na h1];have hne:(errS l != 0)=false:=by simp[h1]
  simp only[hne,Ea];have hdl:=List.Sublist.length_le (Cf isSp (l:=l));have hdd:=Cv isSp l;refine(Ph (r:= .out ((l.length - (l.dropWhile isSp).length:Nat):Int)) (JC (fun s=> ∃k:Nat,s=(k:Int)/\k<=l.length/\(l.drop k).dropWhile isSp=l.dropWhile isSp) (fun s=>l.length - s.toNat) _ (fun s hs=> ?_) ⟨0,rfl,Ec _,rfl⟩)).trans ?_
  ·obtain⟨k,rfl,hk,he⟩:=hs;by_cases hlt:k<l.length
   ·rw[ja hlt,Ld]at he;have hw:=Zo hlt (by grind);cases hv:isSp l[k]with
    |true=> rw[Na hv]at he;refine .inl ⟨((k+1:Nat):Int),?_,⟨k+1,rfl,hlt,he⟩,by omega⟩;simp only[ZK hlt,ZN,Au hlt,Ba,hv,Ia,hw]
    |false=>
     rw[Ra (by rw[hv];simp)]at he;refine .inr (.inl ⟨(k:Int),?_,?_⟩)
     ·simp only[ZK hlt,ZN,Au hlt,Ba,hv,Ia,Ea]
     grind
   ·have hkk:k=l.length:=by omega
    simp_all
  ·rw[zuK];generalize hf:l.length - (l.dropWhile isSp).length=f at hdd;have hfl:f<=l.length:=by omega
   generalize l.dropWhile isSp=d at hdd;subst hdd;refine(Ph (r:= .out ((f+(trimB (l.drop f)).length:Nat):Int)) (JC (fun s=> ∃m:Nat,s=(m:Int)/\f<=m/\m<=l.length/\trimB ((l.take m).drop f)=trimB (l.drop f)) (fun s=>s.toNat) _ (fun s hs=> ?_) ⟨l.length,rfl,hfl,La _,by grind⟩)).trans ?_
   ·obtain⟨m,rfl,hm1,hm2,he⟩:=hs;by_cases hlt:f<m
    ·have hm:m - 1<l.length:=by omega
     have hsn:(l.take m).drop f=(l.take (m - 1)).drop f++[l[m - 1]]:=by
      have:l.take m=l.take (m - 1)++[l[m - 1]]:=by
       have:=Vb hm
       rwa [show m - 1+1=m by omega]at this
      rw[this,List.drop_append_of_le_length (by rw[xc];omega)]
     rw[hsn,Ow]at he;have h2:decide ((f:Int)<(m:Int))=true:=Va (by omega);have hw:w64 ((m:Int) - 1)=((m - 1:Nat):Int):=by rw[w64,ZG (by omega) (by unfold big at h;omega)];omega
     cases hv:isSp l[m - 1]with
     |true=> rw[Na hv]at he;refine .inl ⟨((m - 1:Nat):Int),?_,⟨m - 1,rfl,by omega,by omega,he⟩,by omega⟩;simp only[h2,ZN,hw,Au hm,Ba,hv,Ia]
     |false=>
      rw[Ra (by rw[hv];simp)]at he;refine .inr (.inl ⟨(m:Int),?_,?_⟩)
      ·simp only[h2,ZN,hw,Au hm,Ba,hv,Ia,Ea]
      ·rw[<-he];congr 1;simp;omega
    ·have hmm:m=f:=by omega
     subst hmm;have h2:decide ((m:Int)<(m:Int))=false:=Xb (by omega);refine .inr (.inl ⟨(m:Int),?_,?_⟩)
     ·simp only[h2,qY,Ba,Ea]
     ·rw[List.drop_eq_nil_of_le (by rw[xc];omega),yT]at he;rw[<-he];simp
   ·rw[zuK];have htl:=List.Sublist.length_le (Dw (l.drop f));rw[yc]at htl;have hcut:List.drop f (List.take (f+(trimB (l.drop f)).length) l)=trimB (l.drop f):=by
     rw[List.drop_take];have: ∀d:List ze,d.take (trimB d).length=trimB d:=by intro d;unfold trimB;rw[List.length_reverse];have h3:=Cv isSp d.reverse;have h4:=List.Sublist.length_le (Cf isSp (l:=d.reverse));rw[List.length_reverse]at h3 h4;rw[<-h3,List.drop_reverse,List.reverse_reverse];congr 1;simp
     have e:=this (l.drop f);rw[show f+(trimB (l.drop f)).length - f=(trimB (l.drop f)).length by omega];exact e
    have hneed:(decide ((0:Int)<=(f:Int))&&(decide ((f:Int)<=((f+(trimB (l.drop f)).length:Nat):Int))&&(decide (((f+(trimB (l.drop f)).length:Nat):Int)<=((f+(trimB (l.drop f)).length:Nat):Int))&&decide (((f+(trimB (l.drop f)).length:Nat):Int)<=(l.length:Int))))&&decide True)=true:=by simp only[Ca,aa];refine⟨?_,trivial⟩;omega
    have hts:trimS l=trimB (l.drop f):=by unfold trimS;rw[<-Cv isSp l,hf]
    simp only[hneed,Qy,ib,hcut,LQ (Ob (NQ ((Dw _).trans (List.drop_sublist _ _))) h),Ba,hts]
 grind
set_option maxRecDepth 100000
inductive Cuts (k:Int):List ze->List (List ze)->Prop
 |one (p:List ze) (h: ∀x∈p,(x.token.kind==k)=false):Cuts k p [p]
 |more (p:List ze) (s:ze) (v:List ze) (ps:List (List ze)) (h: ∀x∈p,(x.token.kind==k)=false) (hs:(s.token.kind==k)=true) (hc:Cuts k v ps):Cuts k (p++s::v) (p::ps)
theorem UV(v:List ze):(trimS v).Sublist v:=(Dw _).trans (Cf _)
end Go.Lv.VT
