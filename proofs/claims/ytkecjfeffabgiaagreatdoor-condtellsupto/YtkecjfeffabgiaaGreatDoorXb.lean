/- Lemmas on conditions: what the texts of the older seat had. -/
import Derived.Test.YtkecjfeffabgiaaGreatDoorXa
import Derived.Test.YtkecjfeffabgiaaGreatDoorTy
import Derived.Test.YtkecjfeffabgiaaGreatDoorMo
set_option linter.unusedSimpArgs false
set_option linter.unusedVariables false
namespace Go.Lv.VT
theorem Dr(x:z8):zx (QW x)=3+x.name.length+zL Zt x.value:=by simp only[QW,zx,bPV,zL];omega
theorem Ym(x:zg):zx (zn x)=4+x.name.length+zx (QW x.decl)+zL zn x.list - 1+1:=by rw[Dr];rw[zsp];simp only[zx,bPV,zL];omega
theorem Hz(x:z8):1<=zx (QW x):=by have:=Dr x;omega
theorem rH{α:Type}(l:List α):decide ((l.length:Int)>0)= !l.isEmpty:=by
 cases l with
 |nil=>rfl
 |cons a l=>exact Ga (by simp only[Fa];omega)
theorem zDS(x:zg):1<=zx (zn x):=by have:=Ym x;omega
theorem zID{a b:Nat}(h:a+b<=big):w64 ((a:Int)+(b:Int))=((a+b:Nat):Int):=by rw[w64,Zx (by omega) (by unfold big at h;omega)];omega
theorem Wu{d:z8}(h:zx (QW d)<=big):szL d.value<=big/\d.name.length<=big:=by have:=Dr d;have:=sw d.value;constructor<;>omega
theorem zqs{d:z8}(h:zx (QW d)<=big):wo d=some (bif Ng d then 0 else 8):=AX (Wu h).1 (Wu h).2
theorem zpQ{d:z8}(h:zx (QW d)<=big):kv d=some (bif Ng d then 0 else 8):=zq1 (Wu h).1 (Wu h).2
theorem Zc(c:zg):(⟨c.kind,c.name,c.num,c.decl,c.list⟩:zg)=c:=by cases c;rfl
def Co(d:z8):Bool:=d.name==[]&&(d.value.isEmpty&& !d.important)
def Xg(c:zg):Bool:=c.name==[]&&(c.num==0&&Co c.decl)
theorem Lp(c:zg):QV c=some (Xg c):=by unfold QV Xg Co;rw[QF];cases c.name==[]<;>cases c.num==0<;>cases c.decl.name==[]<;>cases c.decl.value.isEmpty<;>rfl
theorem RX(d:z8):Bp d=some (Co d):=by unfold Bp Co;rw[QF];cases d.name==[]<;>cases d.value.isEmpty<;>rfl
theorem Ow(c:zg):qh c=some (Xg c):=by unfold qh Xg;simp only[RX,Zd,za,Aa];cases c.name==[]<;>cases c.num==0<;>rfl
def keyS(x:Str):Bool:=x==[]||(x==[97,110,100]||(x==[111,114]||(x==[110,111,116]||x==[111,110,108,121])))
def medS(x:Str):Bool:= !keyS x&&(decide (x.length<=64)&&(lowS x==x&&Zz x))
theorem zkZ(l:List Str)(x:Str)(h:l.length<=big):slices_Contains_string (l,x)=some (l.any fun v=>x==v):=by
 unfold slices_Contains_string slices_Index_string;refine NE (mE l (fun v=>x==v) h (fun i hi=> ?_) ?_) (Vy _ _)
 ·simp only[Zr hi,Ca,Zb hi,za,Aa]
 ·simp only[ql,Ba]
theorem zHG(x:Str):(([[],[97,110,100],[111,114],[110,111,116],[111,110,108,121]]:List Str).any fun v=>x==v)=keyS x:=by simp only[List.any_cons,List.any_nil,Rc];rfl
theorem zqp{x:Str}(h:x.length<=big):Wv x=some (medS x):=by
 have e:decide ((x.length:Int)<=64)=decide (x.length<=64):=IP _ 64;have e1:decide (Lib.indexByte x (0:Int).toNat.toUInt8<0)=Zz x:=by rw[G7,mD,Eg]
 have hcs:=zkZ [[],[97,110,100],[111,114],[110,111,116],[111,110,108,121]] x (by decide);unfold Wv medS;simp only[hcs,zHG,kF h,mr,Zd,za,Aa,e];cases keyS x<;>cases decide (x.length<=64)<;>try rfl
 simp only[Ra,Ca,aa];cases lowS x==x
 ·rfl
 ·exact congrArg some e1
theorem zpT{x:Str}(h:x.length<=big):Ew x=some (medS x):=by
 have e:decide ((x.length:Int)>64)= !decide (x.length<=64):=Gt _ 64;have ec:=aK x (lowS x);unfold Ew medS;simp only[CF h,Zd,za,Aa,e];have hl:zS (fun(s1:Int)=>bif decide (s1<(x.length:Int))then
    (geti x s1).bind fun y2=>bif (y2.toNat:Int)==0 then some (LO.ret false)else some (LO.again (w64 (s1+1)))
   else some (LO.out ()):Int->Option (LO (Int) (Unit) _)) 0 (fun _=>some true)=some (Zz x):=by
  refine(En x (fun b=>bif (!(b==0))then none else some false) () (fun i hi=> ?_) ?_).trans ?_
  ·simp only[Zr hi,Ca,Zb hi,Aa,byte_zero,zX hi h];cases x[i]==0<;>rfl
  ·simp only[ql,Ba]
  ·rw[Uo];unfold Zz;cases x.all (fun b=> !(b==0))<;>rfl
 rw[hl];unfold keyS;cases x==[]<;>cases decide (x.length<=64)<;>cases x==[97,110,100]<;>cases x==[111,114]<;>cases x==[110,111,116]<;>cases x==[111,110,108,121]<;>
  first|rfl|(simp only[Ca,Ba,Rc,Ra,Ta,aa,ec];cases lowS x==x<;>rfl)
def isN(n:Int):Bool:=decide (-1000000000000<=n)&&decide (n<=1000000000000)
theorem zxE(n:Int):wu n=some (isN n):=by unfold wu isN;show some (bif decide (-1000000000000<=n)then _ else _)=_;cases decide (-1000000000000<=n)<;>rfl
theorem jX(n:Int):Ur n=some (bif isN n then 0 else 8):=by
 unfold Ur Gp;have e1:decide (n< -1000000000000)= !decide (-1000000000000<=n):=by have:=NC n (-1000000000000);show _= !decide (n>=_);rw[this,Eg]
 have e2:decide (n>1000000000000)= !decide (n<=1000000000000):=by have:=NC 1000000000000 n;show decide (1000000000000<n)= !decide (1000000000000>=n);rw[this,Eg]
 have:zS (fun(s1:Int)=>
   bif decide (s1<(([n]:List Int).length:Int))then
    za (geti [n] s1) fun y2=>
    bif bif decide (y2<(-1000000000000))then true else decide (y2>1000000000000)then
     some (LO.ret (8:Int))
    else
     some (LO.again (w64 (s1+1)))
   else
    some (LO.out ()):Int->Option (LO (Int) (Unit) Int)) 0 (fun o3=>some (0:Int))=some (bif isN n then 0 else 8):=by
  refine(En [n] (fun n=>bif isN n then none else some 8) () (fun i hi=> ?_) ?_).trans ?_
  ·obtain rfl:i=0:=by simpa using hi
   simp only[Zr hi,Ca,Zb hi,za,Aa,List.getElem_cons_zero,e1,e2,isN];cases decide (-1000000000000<=n)<;>cases decide (n<=1000000000000)<;>rfl
  ·simp only[ql,Ba]
  ·rw[Uo];simp only[Xc,List.all_nil,Lb];cases isN n<;>rfl
 rw[this];rfl
def Dh(first:Bool)(y:zg):Bool:=
 y.list.isEmpty&&(Co y.decl&&((first&&(y.kind==4&&(y.num==0&&medS y.name)))||((y.kind==5||y.kind==6)&&(y.name==[]&&(decide (0<=y.num)&&isN y.num)))))
def iD(l:List zg):Bool:=(List.range l.length).all fun i=>Dh (i==0) (l.getD i default)
def qZ(c:zg):Bool:=c.kind==1&&(Xg c&&(!c.list.isEmpty&&iD c.list))
def Au(c:zg):Bool:=match c.list with
 |[]=>false
 |y::_=>y.kind==4
theorem zFU(i:Nat):((i:Int)==0)=(i==0):=by rw[Ef,ma,ma];omega
theorem zIg(i:Nat):decide ((i:Int)>0)= !(i==0):=by
 cases i with
 |zero=>rfl
 |succ i=>exact Ga (by omega)
theorem zB8{c:zg}(h:zx (zn c)<=big)(i:Nat)(R:Type)(A:Option R)(k:Int->Option R):
  (zP (X:=Int) (
       za (zq (!(decide ((c.list.length:Int)>0))) (QV (⟨c.kind,[],0,c.decl,c.list⟩:zg)) (default:Bool)) fun y4=>
       bif bif decide ((c.list.length:Int)>0)then true else !y4 then
        A.map LX.ret
       else
        bif c.kind==4 then
         za (zq (!(bif decide ((i:Int)>0)then true else c.num != 0)) (Wv c.name) (default:Bool)) fun y5=>
         bif bif bif decide ((i:Int)>0)then true else c.num != 0 then true else !y5 then
          A.map LX.ret
         else
          some (LX.out (i:Int))
        else
         zP (X:=Bool) (
           bif c.kind==5 then
            some (LX.out (c.kind==5))
           else
            some (LX.out (c.kind==6))) fun j6=>
         bif j6 then
          za (zq (!(bif !(c.name==[])then true else decide (c.num<0))) (Ur c.num) (default:Int)) fun y7=>
          bif bif bif !(c.name==[])then true else decide (c.num<0)then true else y7 != 0 then
           A.map LX.ret
          else
           some (LX.out (i:Int))
         else
          A.map LX.ret) k)=bif Dh (i==0) c then k (i:Int)else A:=by
 have hz:=Ym c;have hn:c.name.length<=big:=by have:=Hz c.decl;omega
 have hA:zP (A.map LX.ret) k=A:=by cases A<;>rfl
 have e1:decide (c.num<0)= !decide (0<=c.num):=by have:=NC c.num 0;show _= !decide (c.num>=0);rw[this,Eg]
 have e2:((bif isN c.num then(0:Int)else 8) != 0)= !isN c.num:=by cases isN c.num<;>rfl
 have eb:Xg ⟨c.kind,[],0,c.decl,c.list⟩=Co c.decl:=rfl;unfold Dh;simp only[Lp,eb,rH,Zd,za,Aa,zqp hn,jX,zIg i,e1,bne];cases c.list.isEmpty with
 |false=>exact hA
 |true=>
  cases Co c.decl with
  |false=>exact hA
  |true=>
   simp only[Ta,Ra,Ca,Ba,aa];by_cases k4:c.kind=4
   ·simp only[k4,Int.reduceBEq,Ca,Rc,Ob,aa];cases (i==0)<;>cases c.num==0<;>cases medS c.name<;>first|rfl|exact hA
   ·have b4:=Ia.2 k4;simp only[b4,Ba,Ob,Ec,Xb];by_cases k5:c.kind=5
    ·simp only[k5,Int.reduceBEq,Ca,zk,jc,aa];cases c.name==[]<;>cases decide (0<=c.num)<;>cases isN c.num<;>first|rfl|exact hA
    ·have b5:=Ia.2 k5;simp only[b5,Ba,zk,Xb];cases c.kind==6
     ·exact hA
     ·cases c.name==[]<;>cases decide (0<=c.num)<;>cases isN c.num<;>first|rfl|exact hA
theorem ZA{c y:zg}(h:y∈c.list):zx (zn y)<zx (zn c):=by have hz:=Ym c;have:=Y4 (f:=zn) h;have:=Hz c.decl;omega
theorem QA(c:zg):c.list.length<=zx (zn c):=by have hz:=Ym c;have:=UO zDS c.list;have:=Hz c.decl;omega
theorem VF(c:zg):zx (QW c.decl)<=zx (zn c):=by have hz:=Ym c;omega
theorem MW{c:zg}(h:zx (zn c)<=big):Sv c=some (qZ c):=by
 have hlen:=QA c;unfold Sv qZ;simp only[Zc,Lp,Zd,za,Aa,QF,bne];cases c.kind==1 with
 |false=>rfl
 |true=>
  cases Xg c with
  |false=>rfl
  |true=>
   cases c.list.isEmpty with
   |true=>rfl
   |false=>
    simp only[Ta,Ra,Ca,Ba,aa];refine(pF c.list.length (fun i=>Dh (i==0) (c.list.getD i default)) false (fun i hi=> ?_) ?_).trans ?_
    ·have hm:=ZA (Kb hi);have hgd:c.list.getD i default=c.list[i]:=by simp[hi]
     have:=zB8 (c:=c.list[i]) (by omega) i (LO Int Unit Bool) (some (LO.ret false)) fun j=>some (.again (w64 (j+1)));simp only[Lp,Ow,Zd,za,Aa,bne,Gd]at this;simp only[Zr hi,Ca,Zb hi,Aa,hgd];refine this.trans ?_;rw[zX hi (by omega)];cases Dh (i==0) c.list[i]<;>rfl
    ·simp only[ql,Ba]
    ·unfold iD;cases (List.range c.list.length).all fun i=>Dh (i==0) (c.list.getD i default)<;>rfl
theorem zEK{c:zg}(h:zx (zn c)<=big)(i:Nat)(R:Type)(A:Option R)(k:Int->Option R):
  (zP (X:=Int) (
       za (zq (!(decide ((c.list.length:Int)>0))) (Bp c.decl) (default:Bool)) fun y4=>
       bif bif decide ((c.list.length:Int)>0)then true else !y4 then
        A.map LX.ret
       else
        za (zq (bif bif (i:Int)==0 then c.kind==4 else false then c.num==0 else false) (Ew c.name) (default:Bool)) fun y5=>
        bif bif bif bif (i:Int)==0 then c.kind==4 else false then c.num==0 else false then y5 else false then
         some (LX.out (i:Int))
        else
         za (zq (!(bif bif bif c.kind != 5 then c.kind != 6 else false then true else !(c.name==[])then true else decide (c.num<0))) (wu c.num) (default:Bool)) fun y6=>
         bif bif bif bif bif c.kind != 5 then c.kind != 6 else false then true else !(c.name==[])then true else decide (c.num<0)then true else !y6 then
          A.map LX.ret
         else
          some (LX.out (i:Int))) k)=bif Dh (i==0) c then k (i:Int)else A:=by
 have hz:=Ym c;have hn:c.name.length<=big:=by have:=Hz c.decl;omega
 have hA:zP (A.map LX.ret) k=A:=by cases A<;>rfl
 have e1:decide (c.num<0)= !decide (0<=c.num):=by have:=NC c.num 0;show _= !decide (c.num>=0);rw[this,Eg]
 unfold Dh;simp only[RX,rH,Zd,za,Aa,zpT hn,zxE,zFU i,e1,bne];cases c.list.isEmpty with
 |false=>exact hA
 |true=>
  cases Co c.decl with
  |false=>exact hA
  |true=>
   simp only[Ta,Ra,Ca,Ba,aa];by_cases k4:c.kind=4
   ·simp only[k4,Int.reduceBEq,Ca,Rc,Ob,aa,Ra,Ue];cases (i==0)<;>cases c.num==0<;>cases medS c.name<;>first|rfl|exact hA
   ·have b4:=Ia.2 k4;have hc:(bif bif (i==0)then false else false then c.num==0 else false)=false:=by cases (i==0)<;>rfl
    simp only[b4,hc,Ba,Ob,Ec,Xb];cases c.kind==5<;>cases c.kind==6<;>cases c.name==[]<;>cases decide (0<=c.num)<;>cases isN c.num<;>first|rfl|exact hA
theorem nL{c:zg}(h:zx (zn c)<=big):jo c=some (qZ c,qZ c&&Au c):=by
 have hlen:=QA c;unfold jo qZ;simp only[Zc,Ow,Zd,za,Aa,QF,bne];cases c.kind==1 with
 |false=>rfl
 |true=>
  cases Xg c with
  |false=>rfl
  |true=>
   cases he:c.list.isEmpty with
   |true=>rfl
   |false=>
    simp only[Ta,Ra,Ca,Ba,aa];refine(pF c.list.length (fun i=>Dh (i==0) (c.list.getD i default)) (false,false) (fun i hi=> ?_) ?_).trans ?_
    ·have hm:=ZA (Kb hi);have hgd:c.list.getD i default=c.list[i]:=by simp[hi]
     have:=zEK (c:=c.list[i]) (by omega) i (LO Int Unit (Bool×Bool)) (some (LO.ret (false,false))) fun j=>some (.again (w64 (j+1)));simp only[Lp,Ow,Zd,za,Aa,bne,Gd]at this;simp only[Zr hi,Ca,Zb hi,Aa,hgd];refine this.trans ?_;rw[zX hi (by omega)];cases Dh (i==0) c.list[i]<;>rfl
    ·simp only[ql,Ba]
    ·unfold iD Au;cases hl:c.list with
     |nil=>rw[hl]at he;cases he
     |cons y r=> have:geti (y::r) 0=some y:=rfl;simp only[this,Aa];cases (List.range (y::r).length).all fun i=>Dh (i==0) ((y::r).getD i default)<;>rfl
theorem zsf(c:zg):nz c=some (Au c):=by
 unfold nz Au;cases c.list with
 |nil=>rfl
 |cons y r=> have e1:decide (((y::r).length:Int)>0)=true:=Ga (by simp only[Fa];omega);have e2:geti (y::r) 0=some y:=rfl;simp only[e1,e2,zu,za,Aa,Ca]
def mg(c:zg):Bool:=bif c.kind==3 then Xg c&&(match c.list with
 |[y]=>qZ y&&Au y
 |_=>false)else qZ c
theorem R8{α:Type}(y z:α)(r:List α):(((y::z::r).length:Int)==1)=false:=Ia.2 (by simp only[Fa];omega)
theorem zuU{c:zg}(h:zx (zn c)<=big):Oz c=some (mg c):=by
 unfold Oz mg;simp only[Zc,Lp,za,Aa,MW h,zsf];cases c.kind==3 with
 |false=>rfl
 |true=>
  simp only[Ca];cases Xg c with
  |false=>rfl
  |true=>
   cases hl:c.list with
   |nil=>rfl
   |cons y r=>
    cases r with
    |nil=>
     have hm:=ZA (c:=c) (y:=y) (by rw[hl];exact Ac);have e2:geti [y] 0=some y:=rfl;have e3:(([y]:List zg).length:Int)==1:=rfl;simp only[e2,e3,Ca,zu,Aa,MW (show zx (zn y)<=big by omega),aa];cases qZ y
     ·rfl
     ·simp only[zu,Aa,Ca,aa]
    |cons z r=> simp only[R8,Ca,zU,Aa,Ba,Ec]
theorem PX{c:zg}(h:zx (zn c)<=big):QK c=some (mg c):=by
 unfold QK mg;simp only[Zc,Ow,za,Aa,nL h,bne];cases c.kind==3 with
 |false=>rfl
 |true=>
  simp only[Ca];cases Xg c with
  |false=>rfl
  |true=>
   cases hl:c.list with
   |nil=>rfl
   |cons y r=>
    cases r with
    |nil=>
     have hm:=ZA (c:=c) (y:=y) (by rw[hl];exact Ac);have e2:geti [y] 0=some y:=rfl;have e3:(([y]:List zg).length:Int)==1:=rfl;simp only[e2,e3,Ba,Ta,Aa,nL (show zx (zn y)<=big by omega),aa];cases qZ y<;>cases Au y<;>rfl
    |cons z r=> simp only[R8,Ta,Ra,Ba,Ca,Ec]
def ZE(c:zg):Bool:=Xg c&&((c.kind==1&&c.list.isEmpty)||(c.kind==2&&(!c.list.isEmpty&&(decide (c.list.length<=64)&&c.list.all mg))))
theorem zsh{l:List zg}(hl:l.length<=big)(h: ∀c∈l,zx (zn c)<=big):qi l=some (!l.all mg):=by
 unfold qi Q6;refine NE (mE l (fun c=> !mg c) hl (fun i hi=> ?_) ?_) ((Vy _ _).trans (zGO _ _))
 ·have:UB l[i]=some (!mg l[i]):=by unfold UB;simp only[Zc,zuU (h _ (Kb hi)),za,Aa]
  simp only[Zr hi,Ca,Zb hi,za,Aa,Zc,this]
 ·simp only[ql,Ba]
theorem EN{c:zg}(h:zx (zn c)<=big):qy c=some (bif ZE c then 0 else 8):=by
 have hlen:=QA c;have e:decide ((c.list.length:Int)<=64)=decide (c.list.length<=64):=IP _ 64;unfold qy ZE;simp only[Zc,Lp,zsh (show c.list.length<=big by omega) (fun y hy=>by have:=ZA hy;omega),Zd,za,Aa,rH,QF,e];have h12:c.kind==1->c.kind==2->False:=fun a b=>by rw[ma]at a b;omega
 cases Xg c with
 |false=>rfl
 |true=> cases c.kind==1<;>cases c.kind==2<;>cases c.list.isEmpty<;>cases decide (c.list.length<=64)<;>cases c.list.all mg<;>rfl
theorem sM{c:zg}(h:zx (zn c)<=big):Q4 c=some (ZE c):=by
 have hlen:=QA c;have e:decide ((c.list.length:Int)>64)= !decide (c.list.length<=64):=Gt _ 64;unfold Q4 ZE;simp only[Zc,Ow,za,Aa,zxi,QF,e,bne];cases Xg c with
 |false=>rfl
 |true=>
  simp only[Ta,Ba,aa];by_cases k1:c.kind=1
  ·simp only[k1,Int.reduceBEq,Ca,aa,Ob,Rc]
  ·have b1:=Ia.2 k1;simp only[b1,Ba,Ob,Xb];have hl:zS (fun(s2:Int)=>
      bif decide (s2<(c.list.length:Int))then
       (geti c.list s2).bind fun y3=>
       (QK y3).bind fun y4=>
       bif !y4 then
        some (LO.ret false)
       else
        some (LO.again (w64 (s2+1)))
      else
       some (LO.out ()):Int->Option (LO (Int) (Unit) _)) 0 (fun _=>some true)=some (c.list.all mg):=by
    refine(En c.list (fun v=>bif mg v then none else some false) () (fun i hi=> ?_) ?_).trans ?_
    ·have hm:=ZA (Kb hi);simp only[Zr hi,Ca,Zb hi,Aa,PX (show zx (zn c.list[i])<=big by omega),zX hi (show c.list.length<=big by omega)];cases mg c.list[i]<;>rfl
    ·simp only[ql,Ba]
    ·rw[Uo];cases c.list.all mg<;>rfl
   rw[hl];cases c.kind==2<;>cases c.list.isEmpty<;>cases decide (c.list.length<=64)<;>rfl
theorem JI{n:Nat}(h:n<=big):w64 ((n:Int)+1)=((n+1:Nat):Int):=by rw[w64,Zx (by omega) (by unfold big at h;omega)];omega
theorem zFQ{n:Nat}(h:n<=big):w64 (1+(n:Int))=((n+1:Nat):Int):=by rw[w64,Zx (by omega) (by unfold big at h;omega)];omega
theorem Xo{α:Type}(f:α->Nat): ∀{l:List α} {i:Nat} (h:i<l.length),((l.take (i+1)).map f).sum=((l.take i).map f).sum+f l[i]
 |[],_,h=>by cases h
 |v::l,0,_=>by simp
 |v::l,i+1,h=>by simp only[Md,ib,Ke,List.getElem_cons_succ];rw[Xo f (l:=l) (i:=i) (by simpa using h)];omega
theorem bv{α:Type}(f:α->Nat): ∀(l:List α) (i:Nat),((l.take i).map f).sum<=(l.map f).sum
 |[],_=>by simp
 |v::l,0=>by simp
 |v::l,i+1=>by simp only[Md,ib,Ke];have:=bv f l i;omega
theorem I7{α:Type}(f:α->Nat): ∀{l:List α} {i:Nat} (h:i<l.length),mx f (l.take (i+1))=max (mx f (l.take i)) (f l[i])
 |[],_,h=>by cases h
 |v::l,0,_=>by simp[mx]
 |v::l,i+1,h=>by simp only[Md,mx,List.getElem_cons_succ];rw[I7 f (l:=l) (i:=i) (by simpa using h)];omega
theorem yQ{α:Type}(p:α->Bool): ∀{l:List α} {i:Nat} (h:i<l.length),(l.take (i+1)).all p=((l.take i).all p&&p l[i])
 |[],_,h=>by cases h
 |v::l,0,_=>by simp
 |v::l,i+1,h=>by simp only[Md,Xc,List.getElem_cons_succ];rw[yQ p (l:=l) (i:=i) (by simpa using h),Rf]
theorem zGM{α:Type}{p:α->Bool}{l:List α}{i:Nat}(h:i<l.length)(hp:p l[i]=false):l.all p=false:=by rw[List.all_eq_false];exact⟨l[i],Kb h,by rw[hp];simp⟩
mutual
def sizC:zg->Nat
 |⟨_,_,_,_,l⟩=>1+Ck l
def Ck:List zg->Nat
 |[]=>0
 |c::r=>sizC c+Ck r
end
theorem aR(l:List zg):Ck l=(l.map sizC).sum:=by
 induction l with
 |nil=>rw[Ck];rfl
 |cons c l ih=>rw[Ck,ih];rfl
theorem dh(c:zg):sizC c=1+(c.list.map sizC).sum:=by obtain⟨k,n,m,d,l⟩:=c;rw[sizC,aR]
theorem zFu: ∀l:List zg,Ck l<=zL zn l:=by
 have key: ∀(n:Nat) (l:List zg),zL zn l<n->Ck l<=zL zn l:=by
  intro n
  induction n with
  |zero=>intro l h;omega
  |succ n ih=>
   intro l
   induction l with
   |nil=>intro _;rw[Ck];exact Mc _
   |cons v l ihl=> intro h;rw[Lu]at h ⊢;rw[Ck,dh,<-aR];have hz:=Ym v;have hd:=Hz v.decl;have h1:=ih v.list (by omega);have h2:=ihl (by omega);omega
 exact fun l=>key _ l (lg _)
theorem PD(c:zg):sizC c<=zx (zn c):=by have:=zFu [c];rw[Ck,Ck,Lu,zKi]at this;omega
theorem SX{c:zg}{m:Nat}(h:zx (zn c)<=big)(hm:m<=big):
  ∃r:Nat,qD (c,(m:Int))=some (r:Int)/\r<=sizC c/\(sizC c<=m->r=sizC c)/\(m<sizC c->m<r):=by
 have key: ∃y:Int,qD (c,(m:Int))=some y/\ ∃r:Nat,y=(r:Int)/\r<=sizC c/\ ∀m':Nat,(m:Int)=(m':Int)->(sizC c<=m'->r=sizC c)/\(m'<sizC c->m'<r):=by
  refine IE zpk (fun x:zg×Int=>zx (zn x.1)) (fun x=>zx (zn x.1)<=big/\ ∃m:Nat,x.2=(m:Int)/\m<=big)
   (fun x (y:Int)=> ∃r:Nat,y=(r:Int)/\r<=sizC x.1/\ ∀m':Nat,x.2=(m':Int)->(sizC x.1<=m'->r=sizC x.1)/\(m'<sizC x.1->m'<r)) (fun S x hx hS=> ?_) (x:=(c,(m:Int))) ⟨h,m,rfl,hm⟩
  obtain⟨c,n⟩:=x;obtain⟨hc,m,hn,hm⟩:=hx;have hn:n=(m:Int):=hn;have hc:zx (zn c)<=big:=hc;subst hn;have hlen:=QA c;have hsz:=PD c;have he:=dh c;unfold Gw;have hw: ∀a:Nat,a<=big->w64 ((a:Int)+0)=(a:Int):=fun a ha=>by rw[w64,Zx (by omega) (by unfold big at ha;omega)];omega
  refine jE (A:=Nat) c.list.length (fun i a=>((a:Int),(i:Int))) (fun i a=>a<=1+((c.list.take i).map sizC).sum/\(1+((c.list.take i).map sizC).sum<=m->a=1+((c.list.take i).map sizC).sum)/\(m<1+((c.list.take i).map sizC).sum->m<a)) _ (a0:=1) rfl (by simp) (fun i a hi hI=> ?_) (fun a hI=> .inl ?_)
  ·obtain⟨i1,i2,i3⟩:=hI;have ht:=bv sizC c.list i;have ht1:=bv sizC c.list (i+1);rw[Xo sizC hi]at ht1;have hmm:=ZA (Kb hi);by_cases ham:a<=m
   ·have ha:a=1+((c.list.take i).map sizC).sum:=i2 (by omega);have e1:decide ((a:Int)<=(m:Int))=true:=Ga (by omega);have hw2:w64 ((m:Int) - (a:Int))=((m - a:Nat):Int):=by rw[w64,Zx (by omega) (by unfold big at hm;omega)];omega
    obtain⟨y,hy1,r,hy2,hy3,hy4⟩:=hS (c.list[i],((m - a:Nat):Int)) ⟨by show zx (zn c.list[i])<=big;omega,m - a,rfl,by omega⟩ hmm;have hy3:r<=sizC c.list[i]:=hy3;obtain⟨hy5,hy6⟩:=hy4 (m - a) rfl;have hy5:sizC c.list[i]<=m - a->r=sizC c.list[i]:=hy5;have hy6:m - a<sizC c.list[i]->m - a<r:=hy6;have hw3:w64 ((a:Int)+(r:Int))=((a+r:Nat):Int):=zID (by omega);refine .inl ⟨a+r,?_,?_,?_,?_⟩
    ·simp only[Zr hi,e1,Ca,Zb hi,za,Aa,Zc,hw2,hy1,hy2,hw3,zX hi (show c.list.length<=big by omega)]
    ·rw[Xo sizC hi];omega
    ·rw[Xo sizC hi];omega
    ·rw[Xo sizC hi];omega
   ·have e1:decide ((a:Int)<=(m:Int))=false:=La (by omega);refine .inr (.inr ⟨(a:Int),?_,(a:Int),rfl,a,rfl,?_,fun m' hm'=>⟨fun h=> ?_,fun h=> ?_⟩⟩)
    ·simp only[Zr hi,e1,Ca,Ba]
    ·show a<=sizC c;omega
    ·have hm':(m:Int)=(m':Int):=hm';have h:sizC c<=m':=h;show a=sizC c;omega
    ·have hm':(m:Int)=(m':Int):=hm';show m'<a;omega
  ·rw[Oc]at hI;obtain⟨i1,i2,i3⟩:=hI;refine⟨(a:Int),?_,(a:Int),rfl,a,rfl,?_,fun m' hm'=>⟨fun h=> ?_,fun h=> ?_⟩⟩
   ·simp only[ql,Ba]
   ·show a<=sizC c;omega
   ·have hm':(m:Int)=(m':Int):=hm';have h:sizC c<=m':=h;show a=sizC c;omega
   ·have hm':(m:Int)=(m':Int):=hm';have h:m'<sizC c:=h;show m'<a;omega
 obtain⟨y,h1,r,rfl,h2,h3⟩:=key;exact⟨r,h1,h2,h3 m rfl⟩
def Fg(c:zg):Bool:=c.kind==7||c.kind==8
mutual
def Yg:zg->Nat
 |⟨k,_,_,d,l⟩=>bif k==7 then 1+Hg d.value else bif k==8 then 1 else Wx l
def Wx:List zg->Nat
 |[]=>0
 |c::r=>max ((bif Fg c then 0 else 1)+Yg c) (Wx r)
end
def Cj(c:zg):Nat:=(bif Fg c then 0 else 1)+Yg c
theorem zBh(l:List zg):Wx l=mx Cj l:=by
 induction l with
 |nil=>rw[Wx];rfl
 |cons c l ih=>rw[Wx,ih];rfl
theorem aJ(c:zg):Yg c=bif c.kind==7 then 1+Hg c.decl.value else bif c.kind==8 then 1 else mx Cj c.list:=by obtain⟨k,n,m,d,l⟩:=c;rw[Yg,zBh]
theorem LQ: ∀c:zg,Yg c<=zx (zn c):=by
 have key: ∀(n:Nat) (c:zg),zx (zn c)<n->Yg c<=zx (zn c):=by
  intro n
  induction n with
  |zero=>intro c h;omega
  |succ n ih=>
   intro c h;have hz:=Ym c;have hd:=Dr c.decl;rw[aJ];cases c.kind==7 with
   |true=> have h1:=jq c.decl.value;have h2:=sw c.decl.value;simp only[Ca];omega
   |false=>
    cases c.kind==8 with
    |true=>simp only[Ca,Ba];omega
    |false=>
     simp only[Ba];have: ∀l:List zg,(∀y∈l,y∈c.list)->mx Cj l<=1+zL zn l:=by
      intro l
      induction l with
      |nil=>intro _;exact Mc _
      |cons y l ihl=>
       intro hl;have h1:=ihl fun z hz=>hl z (Cc _ hz);have h2:=ZA (hl y Ac);have h3:=ih y (by omega);have h4:Cj y<=1+Yg y:=by unfold Cj;cases Fg y<;>simp only[Ca,Ba]<;>omega
       rw[mx,Lu];omega
     have:=this c.list fun _ h=>h;omega
 exact fun c=>key _ c (lg _)
theorem ztR{c:zg}(h:zx (zn c)<=big):ll c=some (Yg c:Int):=by
 refine ZX (fun c=>zx (zn c)) (fun c=>zx (zn c)<=big) (fun c=>(Yg c:Int)) (fun S c hc hS=> ?_) h;have hz:=Ym c;have hd:=Dr c.decl;have hlen:=QA c;have hv:=sw c.decl.value;unfold EG;rw[aJ];cases h7:c.kind==7 with
 |true=> have h1:=jq c.decl.value;simp only[Ca,KJ (show szL c.decl.value<=big by omega),za,Aa,zFQ (show Hg c.decl.value<=big by omega)];rw[Rh]
 |false=>
  cases h8:c.kind==8 with
  |true=>rfl
  |false=>
   simp only[Ba];refine(zEQ c.list Cj (fun a i=>((a:Int),(i:Int))) (fun a=>(a:Int)) (a0:=0) rfl (fun i a hi=> ?_) (fun a=> ?_)).trans ?_
   ·have hm:=ZA (Kb hi);have hs:=hS c.list[i] (by omega) hm;have hst:=LQ c.list[i];simp only[Zr hi,Ca,Zb hi,za,Aa,Zc,hs,zX hi (show c.list.length<=big by omega)];have hlf:(bif c.list[i].kind==7 then true else c.list[i].kind==8)=Fg c.list[i]:=by unfold Fg;cases c.list[i].kind==7<;>rfl
    rw[hlf];have hst':Cj c.list[i]=(bif Fg c.list[i]then 0 else 1)+Yg c.list[i]:=rfl;cases hlc:Fg c.list[i]with
    |true=>
     rw[hlc,Ca,Od]at hst';have hw:w64 (0+(Yg c.list[i]:Int))=(Cj c.list[i]:Int):=by rw[w64,Zx (by omega) (by unfold big at hc;omega)];omega
     simp only[Ca,zk,hw,kC]
    |false=>
     rw[hlc,Ba]at hst';have hw:w64 (1+(Yg c.list[i]:Int))=(Cj c.list[i]:Int):=by rw[w64,Zx (by omega) (by unfold big at hc;omega)];omega
     simp only[Ba,zk,hw,kC]
   ·simp only[ql,Ba]
   ·rw[Nat.zero_max]
mutual
def supC:zg->Bool
 |⟨k,n,m,d,l⟩=>bif k==7 then l.isEmpty&&(n==[]&&(m==0&&Ng d))else bif k==8 then l.isEmpty&&Xg ⟨k,n,m,d,l⟩else
  (k==3||(k==1||k==2))&&(Xg ⟨k,n,m,d,l⟩&&((bif k==3 then l.length==1 else decide (2<=l.length))&&aB l))
def aB:List zg->Bool
 |[]=>true
 |c::r=>supC c&&aB r
end
theorem zDx(l:List zg):aB l=l.all supC:=by
 induction l with
 |nil=>rw[aB];rfl
 |cons c l ih=>rw[aB,ih];rfl
theorem Kl(c:zg):supC c=bif c.kind==7 then c.list.isEmpty&&(c.name==[]&&(c.num==0&&Ng c.decl))else bif c.kind==8 then c.list.isEmpty&&Xg c else
  (c.kind==3||(c.kind==1||c.kind==2))&&(Xg c&&((bif c.kind==3 then c.list.length==1 else decide (2<=c.list.length))&&c.list.all supC)):=by
 obtain⟨k,n,m,d,l⟩:=c;rw[supC,zDx]
theorem J4{α:Type}(l:List α):decide ((l.length:Int)<2)= !decide (2<=l.length):=by
 by_cases h:2<=l.length
 ·rw[Ga h,La (by omega)];rfl
 ·rw[La h,Ga (by omega)];rfl
theorem iQ{α:Type}(l:List α):((l.length:Int)==1)=(l.length==1):=by rw[Ef,ma,ma];omega
theorem zlQ{c:zg}(h:zx (zn c)<=big):ZR c=some (supC c):=by
 refine ZX (fun c=>zx (zn c)) (fun c=>zx (zn c)<=big) (fun c=>supC c) (fun S c hc hS=> ?_) h;have hlen:=QA c;have hd:=VF c;unfold GH;rw[Kl];simp only[Zc,Ow,zpQ (show zx (QW c.decl)<=big by omega),QF,Zd,za,Aa];cases h7:c.kind==7 with
 |true=>
  simp only[Ca];cases c.name==[]<;>cases c.num==0<;>cases c.list.isEmpty<;>cases Ng c.decl<;>rfl
 |false=>
  cases h8:c.kind==8 with
  |true=>
   simp only[Ca,Ba];cases Xg c<;>cases c.list.isEmpty<;>rfl
  |false=>
   simp only[Ba];cases h3:c.kind==3 with
   |true=>
    simp only[Ca,jc,aa,iQ];cases Xg c with
    |false=>rfl
    |true=>
     cases hl:c.list with
     |nil=>rfl
     |cons y r=>
      cases r with
      |nil=> have hm:=ZA (c:=c) (y:=y) (by rw[hl];exact Ac);have e2:geti [y] 0=some y:=rfl;have e3:(([y]:List zg).length==1)=true:=rfl;simp only[e2,e3,Ca,zu,Aa,hS y (show zx (zn y)<=big by omega) hm,aa,Xc,List.all_nil,Lb]
      |cons z r=>
       have e3:((y::z::r).length==1)=false:=by simp
       simp only[e3,Ca,zU,Aa,Ba,Ob,Ec]
   |false=>
    have hj: ∀{R:Type} (k:Bool->Option R),zP (X:=Bool) (bif c.kind==1 then some (LX.out (c.kind==1))else some (LX.out (c.kind==2))) k=k (c.kind==1||c.kind==2):=by intro R k;cases c.kind==1<;>rfl
    simp only[Ba,Xb];rw[hj];cases (c.kind==1||c.kind==2)with
    |false=>rfl
    |true=>
     simp only[Ca,J4,aa];have hl:zS (fun(s8:Int)=>
        bif decide (s8<(c.list.length:Int))then
         (geti c.list s8).bind fun y9=>
         (S y9).bind fun y10=>
         bif !y10 then
          some (LO.ret false)
         else
          some (LO.again (w64 (s8+1)))
        else
         some (LO.out ()):Int->Option (LO (Int) (Unit) _)) 0 (fun _=>some true)=some (c.list.all supC):=by
      refine(En c.list (fun v=>bif supC v then none else some false) () (fun i hi=> ?_) ?_).trans ?_
      ·have hm:=ZA (Kb hi);simp only[Zr hi,Ca,Zb hi,Aa,hS _ (show zx (zn c.list[i])<=big by omega) hm,zX hi (show c.list.length<=big by omega)];cases supC c.list[i]<;>rfl
      ·simp only[ql,Ba]
      ·rw[Uo];cases c.list.all supC<;>rfl
     rw[hl];cases Xg c<;>cases decide (2<=c.list.length)<;>rfl
theorem OV(c:zg):Cr c=some (Fg c):=by unfold Cr Fg;cases c.kind==7<;>rfl
theorem ji(c:zg):1<=sizC c:=by rw[dh];omega
theorem zsd{c:zg}{m:Nat}(h:zx (zn c)<=big)(hm:m<=1500):
  ∃y:(Int×Bool)×Int,Nj (c,(m:Int))=some y/\y.1.2=(supC c&&decide (m+sizC c<=1500))/\(y.1.2=true->y.1.1=(Yg c:Int)/\y.2=((m+sizC c:Nat):Int)):=by
 have key: ∃y:(Int×Bool)×Int,Nj (c,(m:Int))=some y/\ ∀m':Nat,(m:Int)=(m':Int)->y.1.2=(supC c&&decide (m'+sizC c<=1500))/\(y.1.2=true->y.1.1=(Yg c:Int)/\y.2=((m'+sizC c:Nat):Int)):=by
  refine IE zqC (fun x:zg×Int=>zx (zn x.1)) (fun x=>zx (zn x.1)<=big/\ ∃m:Nat,x.2=(m:Int)/\m<=1500)
   (fun x (y:(Int×Bool)×Int)=> ∀m':Nat,x.2=(m':Int)->y.1.2=(supC x.1&&decide (m'+sizC x.1<=1500))/\(y.1.2=true->y.1.1=(Yg x.1:Int)/\y.2=((m'+sizC x.1:Nat):Int))) (fun S x hx hS=> ?_) (x:=(c,(m:Int))) ⟨h,m,rfl,hm⟩
  obtain⟨c,n⟩:=x;obtain⟨hc,m,hn,hm⟩:=hx;have hn:n=(m:Int):=hn;have hc:zx (zn c)<=big:=hc;subst hn;have hlen:=QA c;have hd:=VF c;have hsz:=PD c;have he:=dh c;have hv:=sw c.decl.value;have hzd:=Dr c.decl;have fin: ∀(d:Int) (b:Bool) (n:Int),b=(supC c&&decide (m+sizC c<=1500))->(b=true->d=(Yg c:Int)/\n=((m+sizC c:Nat):Int))->
    ∀m':Nat,(m:Int)=(m':Int)->b=(supC c&&decide (m'+sizC c<=1500))/\(b=true->d=(Yg c:Int)/\n=((m'+sizC c:Nat):Int)):=by
   intro d b n h1 h2 m' hm';obtain rfl:m=m':=by omega
   exact⟨h1,h2⟩
  have hw:w64 ((m:Int)+1)=((m+1:Nat):Int):=JI (by unfold big;omega);unfold Xv;simp only[hw,Zc];by_cases hm1:m+1>1500
  ·have e1:decide (((m+1:Nat):Int)>1500)=true:=Ga (by omega);simp only[e1,Ca];have e2:decide (m+sizC c<=1500)=false:=La (by omega);exact⟨_,rfl,fin _ _ _ (by rw[e2,Ec]) (fun h=>by cases h)⟩
  have e1:decide (((m+1:Nat):Int)>1500)=false:=La (by omega);simp only[e1,Ba];have hs:=Kl c;have hdp:=aJ c;cases h7:c.kind==7 with
  |true=>
   rw[h7]at hs hdp;simp only[Ca]at hs hdp ⊢;rw[zz2 (show szL c.decl.value<=big by omega),zqs (show zx (QW c.decl)<=big by omega)];simp only[za,Aa,QF,Zd];refine⟨_,rfl,fin _ _ _ ?_ ?_⟩
   ·rw[hs];have hde:Ng c.decl=(Ng c.decl&&(errS c.decl.value==0)):=by unfold Ng;cases Si c.decl.name<;>cases errS c.decl.value==0<;>simp
    cases hle:c.list.isEmpty with
    |false=>rfl
    |true=>
     have hl:c.list=[]:=Be.1 hle;rw[hl]at he;have e2:decide (m+sizC c<=1500)=true:=Ga (by rw[he];simp;omega);rw[e2];by_cases her:errS c.decl.value=0
     ·rw[Ka her];cases c.name==[]<;>cases c.num==0<;>cases Ng c.decl<;>rfl
     ·rw[Ja her];have her':=Ia.2 her;rw[her',Ec]at hde;rw[hde];simp only[her'];cases c.name==[]<;>cases c.num==0<;>rfl
   ·intro hf;have her:errS c.decl.value=0:=by
     by_cases her:errS c.decl.value=0
     ·exact her
     ·rw[Ja her]at hf;have her':=Ia.2 her;simp only[her']at hf;revert hf;cases c.list.isEmpty<;>cases c.name==[]<;>cases c.num==0<;>intro h<;>cases h
    have hl:c.list=[]:=by
     cases hle:c.list.isEmpty with
     |true=>exact Be.1 hle
     |false=>rw[hle]at hf;cases hf
    have h1:=jq c.decl.value;rw[Ka her,hdp];rw[hl]at he;simp only[JI (show Hg c.decl.value<=big by omega)];refine⟨by rw[Rh],?_⟩;rw[he];rfl
  |false=>
   rw[h7]at hs hdp;simp only[Ba]at hs hdp ⊢;cases h8:c.kind==8 with
   |true=>
    rw[h8]at hs hdp;simp only[Ca]at hs hdp ⊢;simp only[za,Aa,QF,Zd,Lp];refine⟨_,rfl,fin _ _ _ ?_ ?_⟩
    ·rw[hs];cases hle:c.list.isEmpty with
     |false=>rfl
     |true=> have hl:c.list=[]:=Be.1 hle;rw[hl]at he;have e2:decide (m+sizC c<=1500)=true:=Ga (by rw[he];simp;omega);rw[e2];cases Xg c<;>rfl
    ·intro hf;have hl:c.list=[]:=by
      cases hle:c.list.isEmpty with
      |true=>exact Be.1 hle
      |false=>rw[hle]at hf;cases hf
     rw[hl]at he;rw[hdp,he];exact⟨rfl,rfl⟩
   |false=>
    rw[h8]at hs hdp;simp only[Ba]at hs hdp ⊢;have hj: ∀{R:Type} (k:Bool->Option R),zP (X:=Bool) (bif c.kind==3 then some (LX.out (c.kind==3))else bif c.kind==1 then some (LX.out (c.kind==1))else some (LX.out (c.kind==2))) k=k (c.kind==3||(c.kind==1||c.kind==2)):=by intro R k;cases c.kind==3<;>cases c.kind==1<;>rfl
    rw[hj];cases hk:(c.kind==3||(c.kind==1||c.kind==2))with
    |false=>
     rw[hk]at hs;exact⟨_,rfl,fin _ _ _ (by rw[hs];rfl) (fun h=>by cases h)⟩
    |true=>
     rw[hk]at hs;simp only[Ca,aa]at hs ⊢;have hg:(bif bif !Xg c then true else bif c.kind==3 then(c.list.length:Int) != 1 else false then true else bif c.kind != 3 then decide ((c.list.length:Int)<2)else false)= !(Xg c&&(bif c.kind==3 then c.list.length==1 else decide (2<=c.list.length))):=by rw[J4,bne,bne,iQ];cases Xg c<;>cases c.kind==3<;>cases c.list.length==1<;>rfl
     simp only[Lp,za,Aa,hg];cases hb:(Xg c&&(bif c.kind==3 then c.list.length==1 else decide (2<=c.list.length)))with
     |false=>
      rw[<-Rf,hb]at hs;exact⟨_,rfl,fin _ _ _ (by rw[hs];rfl) (fun h=>by cases h)⟩
     |true=>
      rw[<-Rf,hb,aa]at hs;simp only[Ta,Ba];refine jE (A:=Nat×Nat) c.list.length (fun i a=>(((a.1:Int),(i:Int)),(a.2:Int))) (fun i a=>a.2=m+1+((c.list.take i).map sizC).sum/\a.2<=1500/\a.1=mx Cj (c.list.take i)/\(c.list.take i).all supC=true) _ (a0:=(0,m+1)) rfl ⟨by simp,by show m+1<=1500;omega,by simp[mx],by simp⟩ (fun i a hi hI=> ?_) (fun a hI=> .inl ?_)
      ·obtain⟨i1,i2,i3,i4⟩:=hI;have ht:=bv sizC c.list (i+1);rw[Xo sizC hi]at ht;have hmm:=ZA (Kb hi);obtain⟨y,hy1,hy2⟩:=hS (c.list[i],(a.2:Int)) ⟨by show zx (zn c.list[i])<=big;omega,a.2,rfl,i2⟩ hmm;obtain⟨hy3,hy4⟩:=hy2 a.2 rfl;have hy3:y.1.2=(supC c.list[i]&&decide (a.2+sizC c.list[i]<=1500)):=hy3;simp only[Zr hi,Ca,Zb hi,Aa,Zc,hy1];cases hf:y.1.2 with
       |false=>
        refine .inr (.inl ⟨_,rfl,fin _ _ _ ?_ (fun h=>by cases h)⟩);rw[hf]at hy3;cases hsi:supC c.list[i]with
        |false=>rw[hs,zGM hi hsi];rfl
        |true=> rw[hsi,aa]at hy3;have:=of_decide_eq_false hy3.symm;have e2:decide (m+sizC c<=1500)=false:=La (by omega);rw[e2,Ec]
       |true=>
        obtain⟨hy5,hy6⟩:=hy4 hf;rw[hf]at hy3;have hy3:=hy3.symm;rw[Da]at hy3;have hle:=Ub hy3.2;have hdl:=LQ c.list[i];have hy5:y.1.1=(Yg c.list[i]:Int):=hy5;have hy6:y.2=((a.2+sizC c.list[i]:Nat):Int):=hy6;refine .inl ⟨(max a.1 (Cj c.list[i]),a.2+sizC c.list[i]),?_,?_,hle,?_,?_⟩
        ·have hst:Cj c.list[i]=(bif Fg c.list[i]then 0 else 1)+Yg c.list[i]:=rfl;have hw2:=JI (n:=Yg c.list[i]) (by omega);simp only[Ta,Ba,OV,Aa,hy5,hy6,hw2,zX hi (show c.list.length<=big by omega)];cases hlf:Fg c.list[i]with
         |true=> rw[hlf]at hst;rw[Ca,Od]at hst;simp only[Ta,Ba,zk,hst,kC]
         |false=> rw[hlf]at hst;rw[Ba,Rh]at hst;simp only[Ra,Ca,zk,hst,kC]
        ·rw[Xo sizC hi,i1];show _+_+_+_=_;omega
        ·rw[I7 Cj hi,i3]
        ·rw[yQ supC hi,i4,hy3.1];rfl
      ·rw[Oc]at hI;obtain⟨i1,i2,i3,i4⟩:=hI;refine⟨((a.1:Int),(a.2:Int)),?_,_,rfl,fin _ _ _ ?_ (fun _=>⟨?_,?_⟩)⟩
       ·simp only[ql,Ba]
       ·have e2:decide (m+sizC c<=1500)=true:=Ga (by omega);rw[hs,i4,e2];rfl
       ·rw[hdp,i3]
       ·show(a.2:Int)=_;rw[i1,he];congr 1;omega
 obtain⟨y,h1,h2⟩:=key;exact⟨y,h1,h2 m rfl⟩
def Zv(c:zg):Bool:=supC c&&(decide (sizC c<=1500)&&decide (Yg c<=16))
theorem KN{c:zg}(h:zx (zn c)<=big):ZH c=some (bif Zv c then 0 else 8):=by
 obtain⟨y,h1,h2,h3⟩:=zsd (m:=0) h (by omega);unfold ZH Zv;replace h1:Nj (c,0)=some y:=h1;simp only[Zc,h1,za,Aa];rw[Od]at h2;cases hf:y.1.2 with
 |false=> rw[hf]at h2;rw[<-Rf,<-h2];rfl
 |true=> have e:decide ((Yg c:Int)>16)= !decide (Yg c<=16):=Gt _ 16;rw[(h3 hf).1,e];rw[hf]at h2;rw[<-Rf,<-h2];cases decide (Yg c<=16)<;>rfl
theorem MH{c:zg}(h:zx (zn c)<=big):ZF c=some (Zv c):=by
 obtain⟨r,h1,h2,h3,h4⟩:=SX (m:=1500) h (by unfold big;omega);replace h1:qD (c,1500)=some (r:Int):=h1;have e:decide ((Yg c:Int)<=16)=decide (Yg c<=16):=IP _ 16;have e2:decide ((r:Int)<=1500)=decide (sizC c<=1500):=by
  by_cases hs:sizC c<=1500
  ·rw[Ga hs,h3 hs,Ga (by omega)]
  ·have:=h4 (by omega);rw[La hs,La (by omega)]
 unfold ZF Zv;simp only[Zc,h1,za,Aa,ztR h,zlQ h,Zd,e2];cases decide (sizC c<=1500)with
 |false=>simp
 |true=>simp only[Ca,e];cases decide (Yg c<=16)<;>cases supC c<;>rfl
mutual
/-- The declarations of a condition, in order. -/
def Za:zg->List z8
 |⟨k,_,_,d,l⟩=>bif k==7 then [d]else Px l
def Px:List zg->List z8
 |[]=>[]
 |c::r=>Za c++Px r
end
theorem mU: ∀l:List zg,Px l=l.flatMap Za
 |[]=>by rw[Px];rfl
 |c::r=>by rw[Px,mU r,df]
theorem QL(c:zg):Za c=bif c.kind==7 then [c.decl]else c.list.flatMap Za:=by obtain⟨⟩:=c;rw[Za,mU]
def allW:Str:=[97,108,108]
def Xu:Str:=[115,99,114,101,101,110]
mutual
/-- Whether a condition holds: a width in thousandths, a truth value for each declaration. -/
def holC(w:Int):zg->List Bool->Bool
 |⟨k,n,m,_,l⟩,ys=>
  bif k==4 then n==allW||n==Xu else bif k==5 then decide (w>=m)else bif k==6 then decide (w<=m)else bif k==7 then ys.headD false else bif k==8 then false else
  bif k==1 then ag w l ys else bif k==2 then QE w l ys else !QE w l ys
def ag(w:Int):List zg->List Bool->Bool
 |[],_=>true
 |c::r,ys=>holC w c (ys.take (Za c).length)&&ag w r (ys.drop (Za c).length)
def QE(w:Int):List zg->List Bool->Bool
 |[],_=>false
 |c::r,ys=>holC w c (ys.take (Za c).length)||QE w r (ys.drop (Za c).length)
end
theorem M8(w:Int)(c:zg)(ys:List Bool):holC w c ys=
  bif c.kind==4 then c.name==allW||c.name==Xu else bif c.kind==5 then decide (w>=c.num)else bif c.kind==6 then decide (w<=c.num)else bif c.kind==7 then ys.headD false else bif c.kind==8 then false else
  bif c.kind==1 then ag w c.list ys else bif c.kind==2 then QE w c.list ys else !QE w c.list ys:=by
 obtain⟨⟩:=c;rw[holC]
def oC(c:zg)(w:Int)(ys:List Bool):Bool×Int:=
 bif !(ZE c||Zv c)then(false,8)else
 bif decide (w<0)||(decide (w>1000000000)|| !(ys.length==(Za c).length))then(false,2)else(holC (1000*w) c ys,0)
theorem QO{y:zg}: ∀{l:List zg},y∈l->sizC y<=(l.map sizC).sum
 |[],h=>by cases h
 |c::r,h=>by
  rw[ib,Ke];rcases Rb.1 h with rfl|h
  ·omega
  ·have:=QO h;omega
theorem MQ: ∀{c:zg},supC c=true-> ∀d∈Za c,Ng d=true:=by
 have key: ∀(n:Nat) (c:zg),sizC c<=n->supC c=true-> ∀d∈Za c,Ng d=true:=by
  intro n
  induction n with
  |zero=>intro c hc;have:=ji c;omega
  |succ n ih=>
   intro c hc hs d hd;rw[QL]at hd;rw[Kl]at hs;cases h7:c.kind==7 with
   |true=> rw[h7,Ca]at hs hd;simp only[Da]at hs;rw[xc.1 hd];exact hs.2.2.2
   |false=>
    rw[h7,Ba]at hs hd;obtain⟨y,hy,hd⟩:=Ae.1 hd;have hlt:sizC y<=n:=by have h1:=dh c;have h2:=QO hy;omega
    refine ih y hlt ?_ d hd;cases h8:c.kind==8 with
    |true=>
     rw[h8,Ca]at hs;simp only[Da,Be]at hs;rw[hs.1]at hy;cases hy
    |false=>
     rw[h8,Ba]at hs;cases h3:c.kind==3<;>rw[h3]at hs<;>simp at hs
     all_goals first|exact hs.2.2 y hy|exact hs.2.2.2 y hy|exact hs.2 y hy|skip
 intro c hs;exact key _ c (ja _) hs
theorem bz{l:List zg}(h:iD l=true){y:zg}(hy:y∈l): ∃f,Dh f y=true:=by
 obtain⟨i,hi,rfl⟩:=Kh hy;have:=Ab.1 h i (Jd.2 hi);refine⟨i==0,?_⟩
 rwa [Jf,Xa hi]at this
theorem zB7{f:Bool}{y:zg}(h:Dh f y=true):Za y=[]:=by
 unfold Dh at h;simp only[Da,Be]at h;rw[QL,h.1];have h7:(y.kind==7)=false:=by rw[Ia];intro e;simp[e]at h
 rw[h7];rfl
theorem KU{c:zg}(h:qZ c=true):Za c=[]:=by unfold qZ at h;simp only[Da,ma]at h;rw[QL,h.1,List.flatMap_eq_nil_iff.2 fun y hy=>let⟨_,e⟩:=bz h.2.2.2 hy;zB7 e];rfl
theorem zAF{c:zg}(h:mg c=true):Za c=[]:=by
 unfold mg at h;cases h3:c.kind==3 with
 |false=>rw[h3]at h;exact KU h
 |true=>
  rw[h3,Ca,Da]at h;have:=h.2;revert this;rw[QL,eq_of_beq h3];cases hl:c.list with
  |nil=>intro _;rfl
  |cons y r=>
   cases r with
   |nil=> intro hq;simp only[Da]at hq;simp[KU hq.1]
   |cons z r=>intro hq;cases hq
theorem zz1{c:zg}(h:ZE c=true):Za c=[]:=by
 unfold ZE at h;simp only[Da,Sb,ma,Be,Ab]at h;rw[QL];rcases h.2 with⟨hk,hl⟩|⟨hk,_,_,hl⟩
 ·rw[hk,hl];rfl
 ·rw[hk,List.flatMap_eq_nil_iff.2 fun y hy=>zAF (hl y hy)];rfl
def atS(l:Str)(n:Nat):UInt8:=l.getD n 0
def digB(b:UInt8):Bool:=decide (48<=b.toNat)&&decide (b.toNat<=57)
def spB(b:UInt8):Bool:=b==10||b==9||b==32
def alB(b:UInt8):Bool:=decide (65<=b.toNat)&&decide (b.toNat<=90)||decide (97<=b.toNat)&&decide (b.toNat<=122)
def fstB(b:UInt8):Bool:=alB b||b==95||decide (128<=b.toNat)
def letB(b:UInt8):Bool:=fstB b||digB b||b==45
def hexN(b:UInt8):Nat:=
 if digB b then b.toNat - 48 else if 97<=b.toNat/\b.toNat<=102 then b.toNat - 87 else if 65<=b.toNat/\b.toNat<=70 then b.toNat - 55 else 16
def Qw(b:UInt8):Bool:=decide (hexN b<16)
def escS(l:Str):Bool:=atS l 0==92&& !(atS l 1==10)
def nmS(l:Str):Bool:=if atS l 0==45 then fstB (atS l 1)||atS l 1==45||escS (l.drop 1)else fstB (atS l 0)||escS l
def Lg(b:UInt8):Bool:=b==43||b==45
def unsign(l:Str):Str:=if Lg (atS l 0)then l.drop 1 else l
def undot(l:Str):Str:=if atS l 0==46 then l.drop 1 else l
def nbS(l:Str):Bool:=digB (atS (undot (unsign l)) 0)
def Hl:Str:=[239,191,189]
def xg(n:Nat):Str:=
 if n=0\/(55296<=n/\n<=57343)\/1114111<n then Hl
 else if n<128 then [UInt8.ofNat n]
 else if n<2048 then [UInt8.ofNat (192+n / 64),UInt8.ofNat (128+n%64)]
 else if n<65536 then [UInt8.ofNat (224+n / 4096),UInt8.ofNat (128+n / 64%64),UInt8.ofNat (128+n%64)]
 else [UInt8.ofNat (240+n / 262144),UInt8.ofNat (128+n / 4096%64),UInt8.ofNat (128+n / 64%64),UInt8.ofNat (128+n%64)]
def hexes:Nat->Nat->Str->Nat×Str
 |0,n,l=>(n,l)
 |_+1,n,[]=>(n,[])
 |k+1,n,c::r=>if Qw c then hexes k (16*n+hexN c) r else(n,c::r)
def unsp:Str->Str
 |[]=>[]
 |c::r=>if spB c then r else c::r
def zA:Str->Str×Str
 |[]=>(Hl,[])
 |c::r=>if Qw c then(xg (hexes 6 0 (c::r)).1,unsp (hexes 6 0 (c::r)).2)else([c],r)
theorem Gz: ∀(k n:Nat) (l:Str),(hexes k n l).2<:+l
 |0,n,l=>Me l
 |k+1,n,[]=>Me _
 |k+1,n,c::r=>by
  unfold hexes;split
  ·exact(Gz k _ r).trans (jd c r)
  grind
theorem zFL(l:Str):unsp l<:+l:=by
 cases l with
 |nil=>exact Me _
 |cons c r=>
  show(if spB c then r else c::r)<:+c::r
  grind
theorem Zw(l:Str):(zA l).2<:+l:=by
 cases l with
 |nil=>exact Me _
 |cons c r=>
  show(if Qw c then(xg (hexes 6 0 (c::r)).1,unsp (hexes 6 0 (c::r)).2)else([c],r)).2<:+c::r;split
  ·exact(zFL _).trans (Gz 6 0 _)
  grind
theorem Zu(l:Str):(zA l).2.length<=l.length:=(Zw l).length_le
def zt:Str->Str×Str
 |[]=>([],[])
 |c::r=>
  if letB c then((c::(zt r).1),(zt r).2)
  else if escS (c::r)then((zA r).1++(zt (zA r).2).1,(zt (zA r).2).2)
  else([],c::r)
termination_by l=>l.length
decreasing_by
 all_goals first|(have:=Zu r;simp only[Fa];omega)|(simp only[Fa];omega)
def past(p:UInt8->Bool):Str->Str
 |[]=>[]
 |c::r=>if p c then past p r else c::r
theorem Xq(p:UInt8->Bool): ∀l:Str,past p l<:+l
 |[]=>Me _
 |c::r=>by
  unfold past;split
  ·exact(Xq p r).trans (jd c r)
  grind
def Zi(l:Str):Str×Bool:=
 if atS l 0==46&&digB (atS l 1)then(past digB (l.drop 1),false)else(l,true)
def expS(l:Str):Option Str:=
 if atS l 0==101||atS l 0==69 then(if digB (atS (unsign (l.drop 1)) 0)then some (past digB (unsign (l.drop 1)))else none)else none
def zJ(l:Str):Str×Bool:=
 let x:=Zi (past digB (unsign l))
 match expS x.1 with
 |some r=>(r,false)
 |none=>x
def decN(n:Nat)(b:UInt8):Nat:=10*n+(b.toNat - 48)
def upto(l r:Str):Str:=l.take (l.length - r.length)
def Zo(m:UInt8):Str->Option Str×Str
 |[]=>(some [],[])
 |c::r=>
  if c==m then(some [],r)
  else if c==10 then(none,c::r)
  else if c==92 then
   (if r.isEmpty then(some [],[])
   else if atS r 0==10 then Zo m (r.drop 1)
   else((Zo m (zA r).2).1.map ((zA r).1++ ·),(Zo m (zA r).2).2))
  else((Zo m r).1.map (c:: ·),(Zo m r).2)
termination_by l=>l.length
decreasing_by
 all_goals first|(have:=Zu r;simp only[Fa];omega)|(simp only[Fa,Dc];omega)
def badS:Str->Str
 |[]=>[]
 |c::r=>if c==41 then r else if escS (c::r)then badS (zA r).2 else badS r
termination_by l=>l.length
decreasing_by
 all_goals first|(have:=Zu r;simp only[Fa];omega)|(simp only[Fa];omega)
def unB(b:UInt8):Bool:=decide (b.toNat<=8)||b==11||decide (14<=b.toNat)&&decide (b.toNat<=31)||b==127
def urlS:Str->Option Str×Str
 |[]=>(some [],[])
 |c::r=>
  if c==41 then(some [],r)
  else if spB c then(match past spB r with
   |[]=>(some [],[])
   |d::a=>if d==41 then(some [],a)else(none,badS (d::a)))
  else if c==34||c==39||c==40||unB c||c==92&& !escS (c::r)then(none,badS (c::r))
  else if c==92 then((urlS (zA r).2).1.map ((zA r).1++ ·),(urlS (zA r).2).2)
  else((urlS r).1.map (c:: ·),(urlS r).2)
termination_by l=>l.length
decreasing_by
 all_goals first|(have:=Zu r;simp only[Fa];omega)|(simp only[Fa];omega)
def pg(b:UInt8):Int:=
 if b==58 then 16 else if b==59 then 17 else if b==44 then 18 else if b==91 then 19 else if b==93 then 20 else if b==40 then 21 else if b==41 then 22 else if b==123 then 23 else if b==125 then 24 else 0
def lh(k:Int):ze:=⟨k,[],0,[],false⟩
def Pg:Nat:=1000000000000
def Mh:Nat->Nat->Nat
 |0,n=>n
 |k+1,n=>if n=0\/Pg<=n then n else Mh k (min Pg (10*n))
set_option maxRecDepth 100000
abbrev sc(s:Str)(k:Nat):zb:=⟨s,(k:Int)⟩
def pk(l:Str)(n:Nat):Int:=match l[n]? with|some b=>(b.toNat:Int)|none=> -1
def beh(s r:Str):Nat:=s.length - r.length
theorem zM{n:Int}(a: -9223372036854775808<=n)(h2:n<=9223372036854775807):w64 n=n:=Zx a h2
theorem iq{s r:Str}(h:r<:+s):s.drop (beh s r)=r:=by obtain⟨t,rfl⟩:=h;unfold beh;simp_all
theorem Li(s r:Str):beh s r<=s.length:=by unfold beh;omega
theorem zD0{s:Str}{k:Nat}(h:k<=s.length):beh s (s.drop k)=k:=by unfold beh;grind
theorem KD{s:Str}{k n:Nat}(c:s.length<=big)(g:k<=s.length)(f:n<=8):zf ((n:Int),sc s k)=some (pk (s.drop k) n):=by
 have d:big=4194304:=rfl;have e:w64 ((k:Int)+(n:Int))=((k+n:Nat):Int):=by rw[zM (by omega) (by omega)];omega
 unfold zf pk;simp only[e];rw[Pd];by_cases h:k+n<s.length
 ·rw[Ga (by omega),Ca];have b:geti s ((k+n:Nat):Int)=some s[k+n]:=Zb h;have a:=Ib s[k+n];simp only[za,b,Aa,Xa h];rw[zM (by omega) (by omega)]
 ·grind
theorem vB{s:Str}{k:Nat}(b:s.length<=big)(a:k<=s.length):zf (0,sc s k)=some (pk (s.drop k) 0):=KD (n:=0) b a (by omega)
theorem tN{s:Str}{k:Nat}(b:s.length<=big)(a:k<=s.length):zf (1,sc s k)=some (pk (s.drop k) 1):=KD (n:=1) b a (by omega)
theorem zKu{s:Str}{k:Nat}(b:s.length<=big)(a:k<=s.length):zf (2,sc s k)=some (pk (s.drop k) 2):=KD (n:=2) b a (by omega)
theorem dB{a:Type}{f:Int->Option a}{p:UInt8->a}(h: ∀b:UInt8,f (b.toNat:Int)=some (p b))(c:f (-1)=some (p 0))(l:Str)(n:Nat):f (pk l n)=some (p (atS l n)):=by
 unfold pk atS
 grind
theorem of_n{a:Type}{f:Int->Option a}{p:UInt8->a}(h: ∀n:Nat,n<256->f (n:Int)=some (p (UInt8.ofNat n)))(b:UInt8):f (b.toNat:Int)=some (p b):=by have:=h b.toNat (Ib b);simp_all
theorem Dy(l:Str)(n:Nat):Ql (pk l n)=some (spB (atS l n)):=dB (of_n (by decide+kernel)) (by decide+kernel) l n
theorem Jo(l:Str)(n:Nat):ZZ (pk l n)=some (digB (atS l n)):=dB (of_n (by decide+kernel)) (by decide+kernel) l n
theorem zIt(l:Str)(n:Nat):Nr (pk l n)=some (fstB (atS l n)):=dB (of_n (by decide+kernel)) (by decide+kernel) l n
theorem eP(l:Str)(n:Nat):Dw (pk l n)=some (letB (atS l n)):=dB (of_n (by decide+kernel)) (by decide+kernel) l n
def hexI(b:UInt8):Int:=if Qw b then(hexN b:Int)else -1
theorem eH(l:Str)(n:Nat):Yo (pk l n)=some (hexI (atS l n)):=dB (of_n (by decide+kernel)) (by decide+kernel) l n
theorem Xi(l:Str)(n:Nat)(c:UInt8)(h:c≠0):(pk l n==(c.toNat:Int))=(atS l n==c):=by
 unfold pk atS;rw[Jf];cases l[n]? with
 |none=>
  grind
 |some b=>
  show((b.toNat:Int)==(c.toNat:Int))=(b==c);by_cases e:b=c
  ·grind
  ·have:b.toNat≠c.toNat:=fun h=>e (Cf.1 h)
   grind
theorem XN(l:Str)(n:Nat):(pk l n==10)=(atS l n==10):=Xi l n 10 (by decide)
theorem iZ(l:Str)(n:Nat):(pk l n==34)=(atS l n==34):=Xi l n 34 (by decide)
theorem zKv(l:Str)(n:Nat):(pk l n==35)=(atS l n==35):=Xi l n 35 (by decide)
theorem zKw(l:Str)(n:Nat):(pk l n==37)=(atS l n==37):=Xi l n 37 (by decide)
theorem gZ(l:Str)(n:Nat):(pk l n==39)=(atS l n==39):=Xi l n 39 (by decide)
theorem zKx(l:Str)(n:Nat):(pk l n==40)=(atS l n==40):=Xi l n 40 (by decide)
theorem WN(l:Str)(n:Nat):(pk l n==41)=(atS l n==41):=Xi l n 41 (by decide)
theorem VN(l:Str)(n:Nat):(pk l n==43)=(atS l n==43):=Xi l n 43 (by decide)
theorem uB(l:Str)(n:Nat):(pk l n==45)=(atS l n==45):=Xi l n 45 (by decide)
theorem UN(l:Str)(n:Nat):(pk l n==46)=(atS l n==46):=Xi l n 46 (by decide)
theorem zKy(l:Str)(n:Nat):(pk l n==64)=(atS l n==64):=Xi l n 64 (by decide)
theorem zKz(l:Str)(n:Nat):(pk l n==69)=(atS l n==69):=Xi l n 69 (by decide)
theorem fZ(l:Str)(n:Nat):(pk l n==92)=(atS l n==92):=Xi l n 92 (by decide)
theorem zJI(l:Str)(n:Nat):(pk l n==101)=(atS l n==101):=Xi l n 101 (by decide)
theorem Jq(l:Str):(pk l 0== -1)=l.isEmpty:=by
 cases l with
 |nil=>rfl
 |cons b r=>
  show((b.toNat:Int)== -1)=false
  grind
theorem Ni(l:Str)(k n:Nat):atS (l.drop k) n=atS l (k+n):=by
 unfold atS
 grind
theorem nP {R:Type} {step:zb->Option (LO zb zb R)} {s:Str} (p:UInt8->Bool) (h0:p 0=false)
  (h: ∀k,k<=s.length->step (sc s k)=some (bif p (atS (s.drop k) 0)then .again (sc s (k+1))else .out (sc s k))) {k:Nat} (hk:k<=s.length):
  Mg step (sc s k)=some (.out (sc s (beh s (past p (s.drop k))))):=by
 refine ZI (fun z=> ∃j,z=sc s j/\j<=s.length/\past p (s.drop j)=past p (s.drop k)) (fun z=>s.length - z.at_.toNat) _ ?_ ⟨k,rfl,hk,rfl⟩;rintro _ ⟨j,rfl,hj,he⟩;rw[h j hj];cases hd:s.drop j with
 |nil=>
  rw[show atS ([]:Str) 0=0 from rfl,h0,Ba];refine .inr (.inl ⟨_,rfl,?_⟩);rw[<-he,hd];have:j=s.length:=by have:=Vd.1 hd;omega
  subst this;show LX.out (sc s (beh s []))=_;unfold beh;rw[Va,Nat.sub_zero]
 |cons c r=>
  have hlt:j<s.length:=by
   rcases ic j s.length with h'|h'
   ·exact h'
   ·grind
  have hr:s.drop (j+1)=r:=by have:=Cb hlt;rw[hd]at this;injection this with _ h2;exact h2.symm
  rw[show atS (c::r) 0=c from rfl];cases hp:p c with
  |true=> refine .inl ⟨_,rfl,⟨j+1,rfl,by omega,?_⟩,by grind⟩;rw[hr,<-he,hd,past,hp];rfl
  |false=> refine .inr (.inl ⟨_,rfl,?_⟩);rw[<-he,hd,past,hp,Ja (by decide),<-hd,zD0 hj]
theorem O6{s:Str}{k:Nat}(b:s.length<=big)(a:k<=s.length):w64 ((k:Int)+1)=((k+1:Nat):Int):=by have c:big=4194304:=rfl;rw[zM (by omega) (by omega)];omega
theorem zFR{s:Str}{k:Nat}(a:s.length<=big)(c:k<=s.length):Zp (sc s k)=some (sc s (beh s (past spB (s.drop k)))):=by
 unfold Zp;rw[Zk (nP spB rfl (fun j b=> ?_) c)];simp only[za,vB a b,Aa,Dy,O6 a b]
 grind
theorem zDL{s:Str}{k:Nat}(a:s.length<=big)(c:k<=s.length):Zn (sc s k)=some (sc s (beh s (past digB (s.drop k)))):=by
 unfold Zn;rw[Zk (nP digB rfl (fun j b=> ?_) c)];simp only[za,vB a b,Aa,Jo,O6 a b]
 grind
theorem number_eq{s:Str}{k:Nat}(a:s.length<=big)(c:k<=s.length):Z0 (sc s k)=some (nbS (s.drop k)):=by
 unfold Z0 nbS unsign undot Lg;simp only[za,vB a c,Aa,VN,uB];have d: ∀(b:Bool),(zP (X:=Int) (bif b then some (LX.out 1)else some (LX.out 0)) fun e=>
   zP (X:=Int) ((zf (e,sc s k)).bind fun f=>bif f==46 then some (LX.out (w64 (e+1)))else some (LX.out e)) fun g=>
   (zf (g,sc s k)).bind fun i=>(ZZ i).bind fun j=>some j)=some (digB (atS (if atS (if b then(s.drop k).drop 1 else s.drop k) 0==46 then(if b then(s.drop k).drop 1 else s.drop k).drop 1 else(if b then(s.drop k).drop 1 else s.drop k)) 0)):=by
  intro b;cases b with
  |false=>
   simp only[Ba,zk,vB a c,Aa,UN,Yb,Ud];cases h:atS (s.drop k) 0==46 with
   |false=>simp only[Ba,zk,vB a c,Aa,Jo,Yb,Ud]
   |true=> simp only[Ca,zk,Ee];rw[show w64 (0+1)=1 from rfl,tN a c];simp only[Aa,Jo];rw[Ni (s.drop k) 1 0]
  |true=>
   simp only[Ca,zk,tN a c,Aa,UN,Ee];rw[Ni (s.drop k) 1 0];cases h:atS (s.drop k) (1+0)==46 with
   |false=> simp only[Ad]at h;simp only[h,Ba,zk,tN a c,Aa,Jo,Yb,Ud];rw[Ni (s.drop k) 1 0]
   |true=> simp only[Ad]at h;simp only[h,Ca,zk,Ee];rw[show w64 (1+1)=2 from rfl,zKu a c];simp only[Aa,Jo];rw[Td,Ni (s.drop k) (1+1) 0]
 have:=d (atS (s.drop k) 0==43||atS (s.drop k) 0==45)
 grind
abbrev sr(s r:Str):zb:=sc s (beh s r)
theorem sr_0(s:Str):(⟨s,0⟩:zb)=sr s s:=by show sc s 0=sc s (beh s s);unfold beh;rw[Nat.sub_self]
theorem Np{s r:Str}{n:Nat}(b:s.length<=big)(c:r<:+s)(a:n<=8):zf ((n:Int),sr s r)=some (pk r n):=by rw[KD b (Li s r) a,iq c]
theorem Wh{s r:Str}(a:s.length<=big)(b:r<:+s):zf (0,sr s r)=some (pk r 0):=Np (n:=0) a b (by omega)
theorem Lx{s r:Str}(a:s.length<=big)(b:r<:+s):zf (1,sr s r)=some (pk r 1):=Np (n:=1) a b (by omega)
theorem zJH{s r:Str}(a:s.length<=big)(b:r<:+s):zf (2,sr s r)=some (pk r 2):=Np (n:=2) a b (by omega)
theorem IC{s r:Str}(a:s.length<=big)(b:r<:+s):Zp (sr s r)=some (sr s (past spB r)):=by rw[zFR a (Li s r),iq b]
theorem vC{s r:Str}(a:s.length<=big)(b:r<:+s):Zn (sr s r)=some (sr s (past digB r)):=by rw[zDL a (Li s r),iq b]
theorem zHW{s r:Str}(a:s.length<=big)(b:r<:+s):Z0 (sr s r)=some (nbS r):=by rw[number_eq a (Li s r),iq b]
theorem oI{s r:Str}{n:Nat}(a:r<:+s)(b:n<=r.length):beh s r+n=beh s (r.drop n):=by
 have:=a.length_le;unfold beh
 grind
theorem mH{s r:Str}{n:Nat}(c:s.length<=big)(a:r<:+s)(b:n<=r.length):(⟨s,w64 ((beh s r:Int)+(n:Int))⟩:zb)=sr s (r.drop n):=by have d:big=4194304:=rfl;have:=Li s r;have e:=a.length_le;rw[zM (by omega) (by omega),show(beh s r:Int)+(n:Int)=((beh s r+n:Nat):Int) by omega,oI a b]
theorem EC{l:Str}{n:Nat}(h:atS l n≠0):n<l.length:=by
 rcases ic n l.length with a|a
 ·exact a
 ·exact absurd (by unfold atS;grind) h
theorem iB{s r:Str}(a:s.length<=big)(b:r<:+s)(h:atS r 0≠0):(⟨s,w64 ((beh s r:Int)+1)⟩:zb)=sr s (r.drop 1):=mH (n:=1) a b (EC h)
theorem Xk{s r:Str}(a:r<:+s)(n:Nat):r.drop n<:+s:=(Bf n r).trans a
theorem Vk{s r:Str}(p:UInt8->Bool)(a:r<:+s):past p r<:+s:=(Xq p r).trans a
theorem Nv{s r:Str}(a:r<:+s):unsign r<:+s:=by
 unfold unsign;split
 ·exact Xk a 1
 ·exact a
theorem L6{b:UInt8}(h:Lg b=true):b≠0:=by rintro rfl;revert h;decide
theorem Rs(a b:Bool):(bif a then true else b)=(a||b):=by cases a<;>rfl
theorem P5(a b:Bool):(bif a then b else false)=(a&&b):=by cases a<;>rfl
theorem IK{s r:Str}(a:r<:+s):(Zi r).1<:+s:=by
 unfold Zi;split
 ·exact Vk _ (Xk a 1)
 ·exact a
theorem F8{s r q:Str}(a:r<:+s)(h:expS r=some q):q<:+s:=by
 unfold expS at h;split at h
 ·split at h
  ·cases h;exact Vk _ (Nv (Xk a 1))
  ·cases h
 ·cases h
theorem NU{s r:Str}(b:r<:+s):(zJ r).1<:+s:=by
 unfold zJ;have a:=IK (Vk digB (Nv b));simp only;cases h:expS (Zi (past digB (unsign r))).1 with
 |some q=>exact F8 a h
 |none=>exact a
theorem zEt{s l:Str}(hs:s.length<=big)(hl:l<:+s):Qb (sr s l)=some ((zJ l).2,sr s (zJ l).1):=by
 unfold Qb;simp only[za,Wh hs hl,Aa,VN,uB,Rs];have e1:(bif (atS l 0==43||atS l 0==45)then some (LX.out (⟨s,w64 ((beh s l:Int)+1)⟩:zb))else some (LX.out (sr s l)))=(some (LX.out (sr s (unsign l))):Option (LX zb (Bool×zb))):=by
  unfold unsign;cases h:Lg (atS l 0)with
  |true=> have h':(atS l 0==43||atS l 0==45)=true:=h;rw[h',Ca,Ka rfl,iB hs hl (L6 h)]
  |false=>
   have h':(atS l 0==43||atS l 0==45)=false:=h
   grind
 rw[e1,zk];have hu:=Nv hl;rw[vC hs hu];simp only[Aa];have hp:=Vk digB hu;unfold zJ;generalize past digB (unsign l)=q at hp ⊢;have e2:zP (X:=Bool×zb) (R:=Bool×zb) ((zf (0,sr s q)).bind fun y4=>
   (zq (y4==46) (zf (1,sr s q)) (default:Int)).bind fun y5=>
   (zq (y4==46) (ZZ y5) (default:Bool)).bind fun y6=>
   bif bif y4==46 then y6 else false then(Zn (⟨s,w64 ((beh s q:Int)+1)⟩:zb)).bind fun y7=>some (LX.out (false,y7))else some (LX.out (true,sr s q)))=zP (some (LX.out ((Zi q).2,sr s (Zi q).1))):=by
  congr 1;unfold Zi;simp only[Wh hs hp,Lx hs hp,Aa,UN];cases h:atS q 0==46 with
  |false=>simp_all
  |true=>
   simp only[zu,Aa,Ca,Jo,aa];cases h2:digB (atS q 1)with
   |false=>grind
   |true=> rw[Ca,Ka rfl,iB hs hp (by grind),vC hs (Xk hp 1)];rfl
 rw[e2,zk];have hw:=IK hp;generalize Zi q=W at hw ⊢;obtain⟨w,i⟩:=W;simp only at hw ⊢;have e3:((zf (0,sr s w)).bind fun y9=>
   (zq (!(y9==101)) (zf (0,sr s w)) (default:Int)).bind fun y10=>
   bif bif y9==101 then true else y10==69 then
    zP (X:=(Bool×Int)×zb) ((zf (1,sr s w)).bind fun y11=>bif bif y11==43 then true else y11==45 then some (LX.out ((i,2),sr s w))else some (LX.out ((i,1),sr s w))) fun j12=>
    (zf (j12.1.2,j12.2)).bind fun y13=>(ZZ y13).bind fun y14=>
    bif y14 then(Zn (⟨j12.2.s,w64 (j12.2.at_+j12.1.2)⟩:zb)).bind fun y15=>some (LX.out (false,y15))else some (LX.out (j12.1.1,j12.2))
   else some (LX.out (i,sr s w)))=(some (LX.out (match expS w with|some r=>(false,sr s r)|none=>(i,sr s w))):Option (LX (Bool×zb) (Bool×zb))):=by
  simp only[Wh hs hw,Aa,zJI];have e4:((zq (!(atS w 0==101)) (some (pk w 0)) (default:Int)).bind fun y10=>(some (bif atS w 0==101 then true else y10==69):Option Bool))=some (atS w 0==101||atS w 0==69):=by
   cases h:atS w 0==101 with
   |true=>rfl
   |false=>simp only[Ra,zu,Aa,Ba,zKz,Xb]
  have e5: ∀(f:Bool->Option (LX (Bool×zb) (Bool×zb))),((zq (!(atS w 0==101)) (some (pk w 0)) (default:Int)).bind fun y10=>f (bif atS w 0==101 then true else y10==69))=f (atS w 0==101||atS w 0==69):=by intro f;have:=congrArg (fun o=>Option.bind o f) e4;simpa [Option.bind_assoc] using this
  refine(e5 (fun b=>bif b then _ else _)).trans ?_;unfold expS;cases h:(atS w 0==101||atS w 0==69)with
  |false=>rfl
  |true=>
   have hne:atS w 0≠0:=by intro e;rw[e]at h;revert h;decide
   simp only[Ca,Ee,Lx hs hw,Aa,VN,uB,Rs];unfold unsign;have hd:atS (w.drop 1) 0=atS w 1:=by rw[Ni w 1 0]
   rw[hd];cases hg:(atS w 1==43||atS w 1==45)with
   |true=>
    have hg':Lg (atS w 1)=true:=hg;have hl2:=EC (L6 hg');simp only[Ca,zk,zJH hs hw,Aa,Jo,hg',Ee,Td];rw[show atS (w.drop (1+1)) 0=atS w 2 by rw[Ni w 2 0]];cases hq:digB (atS w 2)with
    |false=>rfl
    |true=> rw[Ca,Ka rfl,show(2:Int)=((2:Nat):Int)from rfl,mH hs hw (by omega),vC hs (Xk hw 2)];rfl
   |false=>
    have hg':Lg (atS w 1)=false:=hg;simp only[Ba,zk,Lx hs hw,Aa,Jo,hg',Yb,Ud];rw[hd];cases hq:digB (atS w 1)with
    |false=>rfl
    |true=> rw[Ca,Ka rfl,iB hs hw hne,vC hs (Xk hw 1)];rfl
 refine(congrArg (fun o=>zP o _) e3).trans ?_;rw[zk];cases expS w<;>rfl
def valG(n:Nat)(l:Str):Nat:=l.foldl decN n
theorem EE(n:Nat)(a b:Str):valG n (a++b)=valG (valG n a) b:=List.foldl_append
theorem IQ{k:Nat}(h:k<10):digB (UInt8.ofNat (48+k))=true/\(UInt8.ofNat (48+k)).toNat=48+k:=by
 have:(UInt8.ofNat (48+k)).toNat=48+k:=by rw[UInt8.toNat_ofNat'];omega
 refine⟨?_,this⟩;unfold digB
 grind
theorem Iu: ∀(u:Nat),(Lib.decDigits u).all digB=true/\valG 0 (Lib.decDigits u)=u/\Lib.decDigits u≠[]:=by
 intro u
 induction u using Nat.strongRecOn with
 |_ u e=>
  rw[Lib.decDigits];by_cases h:u<10
  ·rw[dif_pos h];obtain⟨f,d⟩:=IQ h;refine⟨by grind,?_,by simp⟩;show decN 0 _=u;unfold decN;rw[d];omega
  ·rw[dif_neg h];obtain⟨a,b,c⟩:=e (u / 10) (by omega);obtain⟨f,d⟩:=IQ (k:=u%10) (by omega);refine⟨by grind,?_,by simp⟩;rw[EE,b];show decN _ _=u;unfold decN;rw[d];omega
theorem gy: ∀(q t:Str),q.all digB=true->past digB (q++t)=past digB t
 |[],t,_=>rfl
 |c::q,t,h=>by rw[Xc,Da]at h;rw[Bb,past,Ka h.1,gy q t h.2]
def d48(k:Nat):UInt8:=UInt8.ofNat (48+k)
def Gi(r:Nat):Str:=Lib.trimRightB [d48 (r / 100),d48 (r / 10%10),d48 (r%10)] 48
theorem OQ{r:Nat}(h:r<1000):Lib.decDigits (1000+r)=49::[d48 (r / 100),d48 (r / 10%10),d48 (r%10)]:=by rw[Lib.decDigits,dif_neg (by omega),Lib.decDigits,dif_neg (by omega),Lib.decDigits,dif_neg (by omega),Lib.decDigits,dif_pos (by omega)];rw[show(1000+r) / 10 / 10 / 10=1 by omega,show(1000+r) / 10 / 10%10=r / 100 by omega,show(1000+r) / 10%10=r / 10%10 by omega,show(1000+r)%10=r%10 by omega];rfl
def Ex(r:Nat):Bool:=(Gi r).all digB&&decide ((Gi r).length<=3)&&decide (valG 0 (Gi r)*10 ^ (3 - (Gi r).length)=r)&&((Gi r).isEmpty==(r==0))&& !((Gi r).getLast? ==some 48)
theorem ME: ∀r,r<1000->Ex r=true:=by decide+kernel
def Vi(r:Nat)(p:Bool):Str:=bif (Gi r).isEmpty then(bif p then [46,48]else [])else 46::Gi r
def Ug(m:Nat)(p:Bool):Str:=Lib.decDigits (m / 1000)++Vi (m%1000) p
def numT(n:Int)(p:Bool):Str:=(if n<0 then [45]else [])++Ug n.natAbs p
theorem ym{u:Nat}(h:u<18446744073709551616):(Lib.decDigits u).length<=20:=by
 rw[Lib.decDigits_length];by_cases h1:u=0
 ·subst h1;rw[Lib.nDigits_small (by omega)];omega
 ·have:=Lib.numDigits_eq u (by omega) h;split at this<;>omega
theorem zFB{r:Nat}(h:r<1000)(p:Bool):(Vi r p).length<=4:=by
 have:=ME r h;simp only[Ex,Da,Eb]at this;unfold Vi
 grind
theorem wy{m:Nat}(h:m<=1000000000000)(p:Bool):(Ug m p).length<=24:=by unfold Ug;rw[Ea];have:=ym (u:=m / 1000) (by omega);have:=zFB (r:=m%1000) (by omega) p;omega
theorem Em{n m b:Nat}(h:n+m<=100000)(a:b<=100):Zj n m b=true:=by unfold Zj;refine Ga ?_;have:=Nat.mul_le_mul h a;omega
theorem zAI(l:Str):(l==[])=l.isEmpty:=by cases l<;>rfl
theorem Xx: ∀(l:Str) (n:Nat),valG n l=n*10 ^ l.length+valG 0 l
 |[],n=>by simp[valG]
 |c::l,n=>by
  show valG (decN n c) l=n*10 ^ (l.length+1)+valG (decN 0 c) l;rw[Xx l (decN n c),Xx l (decN 0 c),Dg];unfold decN
  grind
theorem zDK(l:Str)(i:Nat):valG 0 (l.take i)<=valG 0 l:=by
 have h:valG 0 l=valG (valG 0 (l.take i)) (l.drop i):=by rw[<-EE,ig]
 rw[h,Xx (l.drop i)];have:=Ie (valG 0 (l.take i)) (jf (n:=(l.drop i).length) (show 0<10 by omega));omega
theorem Br{b:UInt8}(h:digB b=true):48<=b.toNat/\b.toNat<=57:=by unfold digB at h;simpa using h
theorem zFz {R:Type} {step:Int×Int->Option (LO (Int×Int) Int R)} {l:Str} (b:l.all digB=true) (g:l.length<=100000) (j:valG 0 l<=1000000000000)
  (a: ∀(v:Int) (i:Nat) (hi:i<l.length),step (v,(i:Int))=some (.again (if 1000000000000<w64 (w64 (10*v)+w64 (wu8 ((l[i].toNat:Int) - 48)))then 1000000000000 else w64 (w64 (10*v)+w64 (wu8 ((l[i].toNat:Int) - 48))),w64 ((i:Int)+1))))
  (h2: ∀v:Int,step (v,(l.length:Int))=some (.out v)):Mg step (0,0)=some (.out ((valG 0 l:Nat):Int)):=by
 refine ZI (fun s=> ∃i:Nat,i<=l.length/\s=(((valG 0 (l.take i):Nat):Int),(i:Int))) (fun s=>l.length - s.2.toNat) _ ?_ ⟨0,by omega,rfl⟩;rintro _ ⟨i,hi,rfl⟩;rcases ic i l.length with h|h
 ·refine .inl ⟨_,a _ i h,⟨i+1,by omega,?_⟩,by simp only;rw[zM (by omega) (by omega)];omega⟩;have e:=Br (Ab.1 b _ (Kb h));have d:valG 0 (l.take (i+1))=decN (valG 0 (l.take i)) l[i]:=by rw[jb h,EE];rfl
  have f:=zDK l (i+1);have c:wu8 ((l[i].toNat:Int) - 48)=((l[i].toNat - 48:Nat):Int):=by show IntKind.u8.wrap _=_;rw[IntKind.wrap_u8];omega
  unfold decN at d;rw[c,zM (n:=10*_) (by omega) (by omega),zM (n:=((l[i].toNat - 48:Nat):Int)) (by omega) (by omega),zM (n:=(i:Int)+1) (by omega) (by omega),zM (by omega) (by omega),Ja (by omega)];refine Prod.ext ?_ ?_
  ·grind
  ·grind
 grind
theorem zAl {R:Type} {step:Int×Int->Option (LO (Int×Int) Int R)} {v p:Nat} (g:p<=100) (i:v*10 ^ p<=1000000000000)
  (h: ∀(a b:Int),step (a,b)=bif bif bif decide (a>0)then decide (b>0)else false then decide (b<1000000000000)else false then some (.again (w64 (a - 1),if 1000000000000<w64 (10*b)then 1000000000000 else w64 (10*b)))else some (.out b)):
  Mg step ((p:Int),(v:Int))=some (.out ((v*10 ^ p:Nat):Int)):=by
 refine ZI (fun s=> ∃a b:Nat,s=((a:Int),(b:Int))/\a<=100/\b*10 ^ a=v*10 ^ p) (fun s=>s.1.toNat) _ ?_ ⟨p,v,rfl,g,rfl⟩;rintro _ ⟨a,b,rfl,j,d⟩;rw[h];cases a with
 |zero=>
  grind
 |succ a=>
  rw[Ga (show((a+1:Nat):Int)>0 by omega),Ca];rw[Dg,<-og]at d;have c:0<10 ^ a:=jf (by omega);cases Vf b with
  |inl e=> subst e;refine .inr (.inl ⟨0,rfl,?_⟩);rw[<-d];simp
  |inr e=>
   rw[Ga (show((b:Nat):Int)>0 by omega),Ca];have f:b<=b*10 ^ a:=Ie b c;rw[Ga (show((b:Nat):Int)<1000000000000 by omega),Ca];refine .inl ⟨_,rfl,⟨a,10*b,?_,by omega,?_⟩,by simp only;rw[zM (by omega) (by omega)];omega⟩
   ·rw[zM (by omega) (by omega),zM (by omega) (by omega),Ja (by omega)];refine Prod.ext ?_ ?_
    ·show((a+1:Nat):Int) - 1=(a:Int);omega
    ·show 10*(b:Int)=((10*b:Nat):Int);omega
   ·rw[<-d,Ph 10 b,og,og,Ph 10 (10 ^ a)]
theorem xI: ∀(q:Str),q.all digB=true->Lib.indexByte q 46= -1
 |[],_=>rfl
 |c::q,h=>by
  rw[Xc,Da]at h;have a:=Br h.1;have b:(c==46)=false:=by refine Ia.2 (fun e=> ?_);subst e;revert a;decide
  rw[Lib.indexByte,b,xI q h.2];rfl
theorem yI: ∀(q g:Str),q.all digB=true->Lib.indexByte (q++46::g) 46=(q.length:Int)
 |[],g,_=>by rw[Vb,Lib.indexByte];rfl
 |c::q,g,h=>by
  rw[Xc,Da]at h;have hd:=Br h.1;have hc:(c==46)=false:=by refine Ia.2 (fun e=> ?_);subst e;revert hd;decide
  rw[Bb,Lib.indexByte,hc,yI q g h.2];have:((q.length:Int)== -1)=false:=Ia.2 (by omega);rw[this,Fa];simp
theorem uI: ∀(l:Str),(l.all fun b=>digB b||b==46)=true->Lib.indexAny l [101,69]= -1
 |[],_=>rfl
 |c::l,h=>by
  rw[Xc,Da]at h;have hc:List.contains [101,69] c=false:=by
   have: ∀n:Nat,n<256->(digB (UInt8.ofNat n)||UInt8.ofNat n==46)=true->List.contains [101,69] (UInt8.ofNat n)=false:=by decide+kernel
   have:=this c.toNat (Ib c);rw[Yc]at this;exact this h.1
  rw[Lib.indexAny,hc,uI l h.2];rfl
abbrev tS:ze:=⟨13,[],0,[],false⟩
theorem c1:QR [⟨9,[92],0,[],false⟩]=some 8:=sV 60 _ _ (by decide+kernel)
theorem c2:QR [⟨2,[85,114,108],0,[],false⟩,tS]=some 8:=sV 60 _ _ (by decide+kernel)
end Go.Lv.VT
