/- Conditions of @media: the program's check, and the reference's. -/
import Derived.Test.YtanfjibdgcalfaaGreatDoorXa
set_option linter.unusedSimpArgs false
set_option linter.unusedVariables false
namespace Go.Lv.VT
theorem ZB(c:zm):(⟨c.kind,c.name,c.num,c.decl,c.list⟩:zm)=c:=by cases c;rfl
def Eh(d:Za):Bool:=d.name==[]&&(d.value.isEmpty&& !d.important)
def Ff(c:zm):Bool:=c.name==[]&&(c.num==0&&Eh c.decl)
theorem Ll(c:zm):Qo c=some (Ff c):=by unfold Qo Ff Eh;rw[ZJ];cases c.name==[]<;>cases c.num==0<;>cases c.decl.name==[]<;>cases c.decl.value.isEmpty<;>rfl
theorem iO(d:Za):Cq d=some (Eh d):=by unfold Cq Eh;rw[ZJ];cases d.name==[]<;>cases d.value.isEmpty<;>rfl
theorem mq(c:zm):Q8 c=some (Ff c):=by unfold Q8 Ff;simp only[iO,zM,za,Ba];cases c.name==[]<;>cases c.num==0<;>rfl
def keyS(x:Str):Bool:=x==[]||(x==[97,110,100]||(x==[111,114]||(x==[110,111,116]||x==[111,110,108,121])))
def medS(x:Str):Bool:= !keyS x&&(decide (x.length<=64)&&(lowS x==x&&QS x))
theorem zpE(l:List Str)(x:Str)(h:l.length<=big):slices_Contains_string (l,x)=some (l.any fun v=>x==v):=by
 unfold slices_Contains_string slices_Index_string;refine Oj (Kj l (fun v=>x==v) h (fun i hi=> ?_) ?_) (Ki _ _)
 ·simp only[zY hi,Da,zS hi,za,Ba]
 ·simp only[zV,Ca]
theorem zMQ(x:Str):(([[],[97,110,100],[111,114],[110,111,116],[111,110,108,121]]:List Str).any fun v=>x==v)=keyS x:=by simp only[Xe,List.any_nil,Yc];rfl
theorem K5{x:Str}(h:x.length<=big):Su x=some (medS x):=by
 have e:decide ((x.length:Int)<=64)=decide (x.length<=64):=ym _ 64;have e1:decide (Lib.indexByte x (0:Int).toNat.toUInt8<0)=QS x:=by rw[PU,Gs,jd]
 have hcs:=zpE [[],[97,110,100],[111,114],[110,111,116],[111,110,108,121]] x (by decide);unfold Su medS;simp only[hcs,zMQ,Du h,cu,zM,za,Ba,e];cases keyS x<;>cases decide (x.length<=64)<;>try rfl
 simp only[Ra,Da,Ua];cases lowS x==x
 ·rfl
 ·exact congrArg some e1
theorem U7{x:Str}(h:x.length<=big):Wu x=some (medS x):=by
 have e:decide ((x.length:Int)>64)= !decide (x.length<=64):=Jf _ 64;have ec:=Fy x (lowS x);unfold Wu medS;simp only[Ht h,zM,za,Ba,e];have hl:Zc (fun(s1:Int)=>bif decide (s1<(x.length:Int))then
    (geti x s1).bind fun y2=>bif (y2.toNat:Int)==0 then some (LO.ret false)else some (LO.again (w64 (s1+1)))
   else some (LO.out ()):Int->Option (LO (Int) (Unit) _)) 0 (fun _=>some true)=some (QS x):=by
  refine(Z9 x (fun b=>bif (!(b==0))then none else some false) () (fun i hi=> ?_) ?_).trans ?_
  ·simp only[zY hi,Da,zS hi,Ba,byte_zero,zK hi h];cases x[i]==0<;>rfl
  ·simp only[zV,Ca]
  ·rw[Pg];unfold QS;cases x.all (fun b=> !(b==0))<;>rfl
 rw[hl];unfold keyS;cases x==[]<;>cases decide (x.length<=64)<;>cases x==[97,110,100]<;>cases x==[111,114]<;>cases x==[110,111,116]<;>cases x==[111,110,108,121]<;>
  first|rfl|(simp only[Da,Ca,Yc,Ra,Va,Ua,ec];cases lowS x==x<;>rfl)
def isN(n:Int):Bool:=decide (-1000000000000<=n)&&decide (n<=1000000000000)
theorem zFq(n:Int):Ps n=some (isN n):=by unfold Ps isN;show some (bif decide (-1000000000000<=n)then _ else _)=_;cases decide (-1000000000000<=n)<;>rfl
theorem yY(n:Int):Nu n=some (bif isN n then 0 else 8):=by
 unfold Nu VG;have e1:decide (n< -1000000000000)= !decide (-1000000000000<=n):=by have:=CE n (-1000000000000);show _= !decide (n>=_);rw[this,jd]
 have e2:decide (n>1000000000000)= !decide (n<=1000000000000):=by have:=CE 1000000000000 n;show decide (1000000000000<n)= !decide (1000000000000>=n);rw[this,jd]
 have:Zc (fun(s1:Int)=>
   bif decide (s1<(([n]:List Int).length:Int))then
    za (geti [n] s1) fun y2=>
    bif bif decide (y2<(-1000000000000))then true else decide (y2>1000000000000)then
     some (LO.ret (8:Int))
    else
     some (LO.again (w64 (s1+1)))
   else
    some (LO.out ()):Int->Option (LO (Int) (Unit) Int)) 0 (fun o3=>some (0:Int))=some (bif isN n then 0 else 8):=by
  refine(Z9 [n] (fun n=>bif isN n then none else some 8) () (fun i hi=> ?_) ?_).trans ?_
  ·obtain rfl:i=0:=by simpa using hi
   simp only[zY hi,Da,zS hi,za,Ba,List.getElem_cons_zero,e1,e2,isN];cases decide (-1000000000000<=n)<;>cases decide (n<=1000000000000)<;>rfl
  ·simp only[zV,Ca]
  ·rw[Pg];simp only[List.all_cons,List.all_nil,Yb];cases isN n<;>rfl
 rw[this];rfl
def yg(first:Bool)(y:zm):Bool:=
 y.list.isEmpty&&(Eh y.decl&&((first&&(y.kind==4&&(y.num==0&&medS y.name)))||((y.kind==5||y.kind==6)&&(y.name==[]&&(decide (0<=y.num)&&isN y.num)))))
def Fs(l:List zm):Bool:=(List.range l.length).all fun i=>yg (i==0) (l.getD i default)
def oh(c:zm):Bool:=c.kind==1&&(Ff c&&(!c.list.isEmpty&&Fs c.list))
def yn(c:zm):Bool:=match c.list with
 |[]=>false
 |y::_=>y.kind==4
theorem zLA(i:Nat):((i:Int)==0)=(i==0):=by rw[Tf,Bc,Bc];omega
theorem zM9(i:Nat):decide ((i:Int)>0)= !(i==0):=by
 cases i with
 |zero=>rfl
 |succ i=>exact Ha (by omega)
theorem zIO{c:zm}(h:zI (zH c)<=big)(i:Nat)(R:Type)(A:Option R)(k:Int->Option R):
  (zO (X:=Int) (
       za (zA (!(decide ((c.list.length:Int)>0))) (Qo (⟨c.kind,[],0,c.decl,c.list⟩:zm)) (default:Bool)) fun y4=>
       bif bif decide ((c.list.length:Int)>0)then true else !y4 then
        A.map LX.ret
       else
        bif c.kind==4 then
         za (zA (!(bif decide ((i:Int)>0)then true else c.num != 0)) (Su c.name) (default:Bool)) fun y5=>
         bif bif bif decide ((i:Int)>0)then true else c.num != 0 then true else !y5 then
          A.map LX.ret
         else
          some (LX.out (i:Int))
        else
         zO (X:=Bool) (
           bif c.kind==5 then
            some (LX.out (c.kind==5))
           else
            some (LX.out (c.kind==6))) fun j6=>
         bif j6 then
          za (zA (!(bif !(c.name==[])then true else decide (c.num<0))) (Nu c.num) (default:Int)) fun y7=>
          bif bif bif !(c.name==[])then true else decide (c.num<0)then true else y7 != 0 then
           A.map LX.ret
          else
           some (LX.out (i:Int))
         else
          A.map LX.ret) k)=bif yg (i==0) c then k (i:Int)else A:=by
 have hz:=xh c;have hn:c.name.length<=big:=by have:=Xh c.decl;omega
 have hA:zO (A.map LX.ret) k=A:=by cases A<;>rfl
 have e1:decide (c.num<0)= !decide (0<=c.num):=by have:=CE c.num 0;show _= !decide (c.num>=0);rw[this,jd]
 have e2:((bif isN c.num then(0:Int)else 8) != 0)= !isN c.num:=by cases isN c.num<;>rfl
 have eb:Ff ⟨c.kind,[],0,c.decl,c.list⟩=Eh c.decl:=rfl;unfold yg;simp only[Ll,eb,Sk,zM,za,Ba,K5 hn,yY,zM9 i,e1,bne];cases c.list.isEmpty with
 |false=>exact hA
 |true=>
  cases Eh c.decl with
  |false=>exact hA
  |true=>
   simp only[Va,Ra,Da,Ca,Ua];by_cases k4:c.kind=4
   ·simp only[k4,Int.reduceBEq,Da,Yc,jb,Ua];cases (i==0)<;>cases c.num==0<;>cases medS c.name<;>first|rfl|exact hA
   ·have b4:=Ea.2 k4;simp only[b4,Ca,jb,Ac,Nc];by_cases k5:c.kind=5
    ·simp only[k5,Int.reduceBEq,Da,zZ,He,Ua];cases c.name==[]<;>cases decide (0<=c.num)<;>cases isN c.num<;>first|rfl|exact hA
    ·have b5:=Ea.2 k5;simp only[b5,Ca,zZ,Nc];cases c.kind==6
     ·exact hA
     ·cases c.name==[]<;>cases decide (0<=c.num)<;>cases isN c.num<;>first|rfl|exact hA
theorem qK{c y:zm}(h:y∈c.list):zI (zH y)<zI (zH c):=by have hz:=xh c;have:=ZW (f:=zH) h;have:=Xh c.decl;omega
theorem qL(c:zm):c.list.length<=zI (zH c):=by have hz:=xh c;have:=ZL ax c.list;have:=Xh c.decl;omega
theorem Au(c:zm):zI (ZC c.decl)<=zI (zH c):=by have hz:=xh c;omega
theorem KO{c:zm}(h:zI (zH c)<=big):Yt c=some (oh c):=by
 have hlen:=qL c;unfold Yt oh;simp only[ZB,Ll,zM,za,Ba,ZJ,bne];cases c.kind==1 with
 |false=>rfl
 |true=>
  cases Ff c with
  |false=>rfl
  |true=>
   cases c.list.isEmpty with
   |true=>rfl
   |false=>
    simp only[Va,Ra,Da,Ca,Ua];refine(Uu c.list.length (fun i=>yg (i==0) (c.list.getD i default)) false (fun i hi=> ?_) ?_).trans ?_
    ·have hm:=qK (Ga hi);have hgd:c.list.getD i default=c.list[i]:=by simp[hi]
     have:=zIO (c:=c.list[i]) (by omega) i (LO Int Unit Bool) (some (LO.ret false)) fun j=>some (.again (w64 (j+1)));simp only[Ll,mq,zM,za,Ba,bne,Wd]at this;simp only[zY hi,Da,zS hi,Ba,hgd];refine this.trans ?_;rw[zK hi (by omega)];cases yg (i==0) c.list[i]<;>rfl
    ·simp only[zV,Ca]
    ·unfold Fs;cases (List.range c.list.length).all fun i=>yg (i==0) (c.list.getD i default)<;>rfl
theorem zK3{c:zm}(h:zI (zH c)<=big)(i:Nat)(R:Type)(A:Option R)(k:Int->Option R):
  (zO (X:=Int) (
       za (zA (!(decide ((c.list.length:Int)>0))) (Cq c.decl) (default:Bool)) fun y4=>
       bif bif decide ((c.list.length:Int)>0)then true else !y4 then
        A.map LX.ret
       else
        za (zA (bif bif (i:Int)==0 then c.kind==4 else false then c.num==0 else false) (Wu c.name) (default:Bool)) fun y5=>
        bif bif bif bif (i:Int)==0 then c.kind==4 else false then c.num==0 else false then y5 else false then
         some (LX.out (i:Int))
        else
         za (zA (!(bif bif bif c.kind != 5 then c.kind != 6 else false then true else !(c.name==[])then true else decide (c.num<0))) (Ps c.num) (default:Bool)) fun y6=>
         bif bif bif bif bif c.kind != 5 then c.kind != 6 else false then true else !(c.name==[])then true else decide (c.num<0)then true else !y6 then
          A.map LX.ret
         else
          some (LX.out (i:Int))) k)=bif yg (i==0) c then k (i:Int)else A:=by
 have hz:=xh c;have hn:c.name.length<=big:=by have:=Xh c.decl;omega
 have hA:zO (A.map LX.ret) k=A:=by cases A<;>rfl
 have e1:decide (c.num<0)= !decide (0<=c.num):=by have:=CE c.num 0;show _= !decide (c.num>=0);rw[this,jd]
 unfold yg;simp only[iO,Sk,zM,za,Ba,U7 hn,zFq,zLA i,e1,bne];cases c.list.isEmpty with
 |false=>exact hA
 |true=>
  cases Eh c.decl with
  |false=>exact hA
  |true=>
   simp only[Va,Ra,Da,Ca,Ua];by_cases k4:c.kind=4
   ·simp only[k4,Int.reduceBEq,Da,Yc,jb,Ua,Ra,Ef];cases (i==0)<;>cases c.num==0<;>cases medS c.name<;>first|rfl|exact hA
   ·have b4:=Ea.2 k4;have hc:(bif bif (i==0)then false else false then c.num==0 else false)=false:=by cases (i==0)<;>rfl
    simp only[b4,hc,Ca,jb,Ac,Nc];cases c.kind==5<;>cases c.kind==6<;>cases c.name==[]<;>cases decide (0<=c.num)<;>cases isN c.num<;>first|rfl|exact hA
theorem EN{c:zm}(h:zI (zH c)<=big):Jt c=some (oh c,oh c&&yn c):=by
 have hlen:=qL c;unfold Jt oh;simp only[ZB,mq,zM,za,Ba,ZJ,bne];cases c.kind==1 with
 |false=>rfl
 |true=>
  cases Ff c with
  |false=>rfl
  |true=>
   cases he:c.list.isEmpty with
   |true=>rfl
   |false=>
    simp only[Va,Ra,Da,Ca,Ua];refine(Uu c.list.length (fun i=>yg (i==0) (c.list.getD i default)) (false,false) (fun i hi=> ?_) ?_).trans ?_
    ·have hm:=qK (Ga hi);have hgd:c.list.getD i default=c.list[i]:=by simp[hi]
     have:=zK3 (c:=c.list[i]) (by omega) i (LO Int Unit (Bool×Bool)) (some (LO.ret (false,false))) fun j=>some (.again (w64 (j+1)));simp only[Ll,mq,zM,za,Ba,bne,Wd]at this;simp only[zY hi,Da,zS hi,Ba,hgd];refine this.trans ?_;rw[zK hi (by omega)];cases yg (i==0) c.list[i]<;>rfl
    ·simp only[zV,Ca]
    ·unfold Fs yn;cases hl:c.list with
     |nil=>rw[hl]at he;cases he
     |cons y r=> have:geti (y::r) 0=some y:=rfl;simp only[this,Ba];cases (List.range (y::r).length).all fun i=>yg (i==0) ((y::r).getD i default)<;>rfl
theorem zAg(c:zm):ut c=some (yn c):=by
 unfold ut yn;cases c.list with
 |nil=>rfl
 |cons y r=> have e1:decide (((y::r).length:Int)>0)=true:=Ha (by simp only[Pb];omega);have e2:geti (y::r) 0=some y:=rfl;simp only[e1,e2,Zt,za,Ba,Da]
def Ug(c:zm):Bool:=bif c.kind==3 then Ff c&&(match c.list with
 |[y]=>oh y&&yn y
 |_=>false)else oh c
theorem vK{α:Type}(y z:α)(r:List α):(((y::z::r).length:Int)==1)=false:=Ea.2 (by simp only[Pb];omega)
theorem zCV{c:zm}(h:zI (zH c)<=big):Ry c=some (Ug c):=by
 unfold Ry Ug;simp only[ZB,Ll,za,Ba,KO h,zAg];cases c.kind==3 with
 |false=>rfl
 |true=>
  simp only[Da];cases Ff c with
  |false=>rfl
  |true=>
   cases hl:c.list with
   |nil=>rfl
   |cons y r=>
    cases r with
    |nil=>
     have hm:=qK (c:=c) (y:=y) (by rw[hl];exact ja);have e2:geti [y] 0=some y:=rfl;have e3:(([y]:List zm).length:Int)==1:=rfl;simp only[e2,e3,Da,Zt,Ba,KO (show zI (zH y)<=big by omega),Ua];cases oh y
     ·rfl
     ·simp only[Zt,Ba,Da,Ua]
    |cons z r=> simp only[vK,Da,qF,Ba,Ca,Ac]
theorem lZ{c:zm}(h:zI (zH c)<=big):Ju c=some (Ug c):=by
 unfold Ju Ug;simp only[ZB,mq,za,Ba,EN h,bne];cases c.kind==3 with
 |false=>rfl
 |true=>
  simp only[Da];cases Ff c with
  |false=>rfl
  |true=>
   cases hl:c.list with
   |nil=>rfl
   |cons y r=>
    cases r with
    |nil=>
     have hm:=qK (c:=c) (y:=y) (by rw[hl];exact ja);have e2:geti [y] 0=some y:=rfl;have e3:(([y]:List zm).length:Int)==1:=rfl;simp only[e2,e3,Ca,Va,Ba,EN (show zI (zH y)<=big by omega),Ua];cases oh y<;>cases yn y<;>rfl
    |cons z r=> simp only[vK,Va,Ra,Ca,Da,Ac]
def Cj(c:zm):Bool:=Ff c&&((c.kind==1&&c.list.isEmpty)||(c.kind==2&&(!c.list.isEmpty&&(decide (c.list.length<=64)&&c.list.all Ug))))
theorem zAi{l:List zm}(hl:l.length<=big)(h: ∀c∈l,zI (zH c)<=big):Qi l=some (!l.all Ug):=by
 unfold Qi sI;refine Oj (Kj l (fun c=> !Ug c) hl (fun i hi=> ?_) ?_) ((Ki _ _).trans (uo _ _))
 ·have:tC l[i]=some (!Ug l[i]):=by unfold tC;simp only[ZB,zCV (h _ (Ga hi)),za,Ba]
  simp only[zY hi,Da,zS hi,za,Ba,ZB,this]
 ·simp only[zV,Ca]
theorem zpB{c:zm}(h:zI (zH c)<=big):jB c=some (bif Cj c then 0 else 8):=by
 have hlen:=qL c;have e:decide ((c.list.length:Int)<=64)=decide (c.list.length<=64):=ym _ 64;unfold jB Cj;simp only[ZB,Ll,zAi (show c.list.length<=big by omega) (fun y hy=>by have:=qK hy;omega),zM,za,Ba,Sk,ZJ,e];have h12:c.kind==1->c.kind==2->False:=fun a b=>by rw[Bc]at a b;omega
 cases Ff c with
 |false=>rfl
 |true=> cases c.kind==1<;>cases c.kind==2<;>cases c.list.isEmpty<;>cases decide (c.list.length<=64)<;>cases c.list.all Ug<;>rfl
theorem V7{c:zm}(h:zI (zH c)<=big):dz c=some (Cj c):=by
 have hlen:=qL c;have e:decide ((c.list.length:Int)>64)= !decide (c.list.length<=64):=Jf _ 64;unfold dz Cj;simp only[ZB,mq,za,Ba,Tu,ZJ,e,bne];cases Ff c with
 |false=>rfl
 |true=>
  simp only[Va,Ca,Ua];by_cases k1:c.kind=1
  ·simp only[k1,Int.reduceBEq,Da,Ua,jb,Yc]
  ·have b1:=Ea.2 k1;simp only[b1,Ca,jb,Nc];have hl:Zc (fun(s2:Int)=>
      bif decide (s2<(c.list.length:Int))then
       (geti c.list s2).bind fun y3=>
       (Ju y3).bind fun y4=>
       bif !y4 then
        some (LO.ret false)
       else
        some (LO.again (w64 (s2+1)))
      else
       some (LO.out ()):Int->Option (LO (Int) (Unit) _)) 0 (fun _=>some true)=some (c.list.all Ug):=by
    refine(Z9 c.list (fun v=>bif Ug v then none else some false) () (fun i hi=> ?_) ?_).trans ?_
    ·have hm:=qK (Ga hi);simp only[zY hi,Da,zS hi,Ba,lZ (show zI (zH c.list[i])<=big by omega),zK hi (show c.list.length<=big by omega)];cases Ug c.list[i]<;>rfl
    ·simp only[zV,Ca]
    ·rw[Pg];cases c.list.all Ug<;>rfl
   rw[hl];cases c.kind==2<;>cases c.list.isEmpty<;>cases decide (c.list.length<=64)<;>rfl
theorem Fj{n:Nat}(h:n<=big):w64 ((n:Int)+1)=((n+1:Nat):Int):=by rw[w64,Z6 (by omega) (by unfold big at h;omega)];omega
theorem FL{n:Nat}(h:n<=big):w64 (1+(n:Int))=((n+1:Nat):Int):=by rw[w64,Z6 (by omega) (by unfold big at h;omega)];omega
theorem Yk{α:Type}(f:α->Nat): ∀{l:List α} {i:Nat} (h:i<l.length),((l.take (i+1)).map f).sum=((l.take i).map f).sum+f l[i]
 |[],_,h=>by cases h
 |v::l,0,_=>by simp
 |v::l,i+1,h=>by simp only[Ld,Sb,Ae,List.getElem_cons_succ];rw[Yk f (l:=l) (i:=i) (by simpa using h)];omega
theorem Eu{α:Type}(f:α->Nat): ∀(l:List α) (i:Nat),((l.take i).map f).sum<=(l.map f).sum
 |[],_=>by simp
 |v::l,0=>by simp
 |v::l,i+1=>by simp only[Ld,Sb,Ae];have:=Eu f l i;omega
theorem Js{α:Type}(f:α->Nat): ∀{l:List α} {i:Nat} (h:i<l.length),mx f (l.take (i+1))=max (mx f (l.take i)) (f l[i])
 |[],_,h=>by cases h
 |v::l,0,_=>by simp[mx]
 |v::l,i+1,h=>by simp only[Ld,mx,List.getElem_cons_succ];rw[Js f (l:=l) (i:=i) (by simpa using h)];omega
theorem Ep{α:Type}(p:α->Bool): ∀{l:List α} {i:Nat} (h:i<l.length),(l.take (i+1)).all p=((l.take i).all p&&p l[i])
 |[],_,h=>by cases h
 |v::l,0,_=>by simp
 |v::l,i+1,h=>by simp only[Ld,List.all_cons,List.getElem_cons_succ];rw[Ep p (l:=l) (i:=i) (by simpa using h),Hg]
theorem zLZ{α:Type}{p:α->Bool}{l:List α}{i:Nat}(h:i<l.length)(hp:p l[i]=false):l.all p=false:=by rw[List.all_eq_false];exact⟨l[i],Ga h,by rw[hp];simp⟩
theorem zLs(l:List ze):Si (l,[])=some l.isEmpty:=by
 refine ZH (fun _=>0) (fun x:List ze×List ze=>x.2=[]) (fun x=>x.1.isEmpty) (fun S x hx _=> ?_) (x:=(l,[])) rfl;obtain⟨l,m⟩:=x;obtain rfl:m=[]:=hx;unfold au;cases l with
 |nil=>
  refine(Z9 ([]:List ze) (fun _=>none) () (fun i hi=>by cases hi) ?_).trans rfl;simp only[ae,zV,Ca]
 |cons v l=> have:(((v::l).length:Int) != (([]:List ze).length:Int))=true:=Eg.2 (by simp only[Pb,ae];omega);simp only[this,Da];rfl
mutual
def sizC:zm->Nat
 |⟨_,_,_,_,l⟩=>1+dh l
def dh:List zm->Nat
 |[]=>0
 |c::r=>sizC c+dh r
end
theorem IW(l:List zm):dh l=(l.map sizC).sum:=by
 induction l with
 |nil=>rw[dh];rfl
 |cons c l ih=>rw[dh,ih];rfl
theorem VK(c:zm):sizC c=1+(c.list.map sizC).sum:=by obtain⟨k,n,m,d,l⟩:=c;rw[sizC,IW]
theorem zLu: ∀l:List zm,dh l<=zL zH l:=by
 have key: ∀(n:Nat) (l:List zm),zL zH l<n->dh l<=zL zH l:=by
  intro n
  induction n with
  |zero=>intro l h;omega
  |succ n ih=>
   intro l
   induction l with
   |nil=>intro _;rw[dh];exact Rb _
   |cons v l ihl=> intro h;rw[Qx]at h ⊢;rw[dh,VK,<-IW];have hz:=xh v;have hd:=Xh v.decl;have h1:=ih v.list (by omega);have h2:=ihl (by omega);omega
 exact fun l=>key _ l (Nat.lt_succ_self _)
theorem fT(c:zm):sizC c<=zI (zH c):=by have:=zLu [c];rw[dh,dh,Qx,Wl]at this;omega
theorem jO{c:zm}{m:Nat}(h:zI (zH c)<=big)(hm:m<=big):
  ∃r:Nat,Qh (c,(m:Int))=some (r:Int)/\r<=sizC c/\(sizC c<=m->r=sizC c)/\(m<sizC c->m<r):=by
 have key: ∃y:Int,Qh (c,(m:Int))=some y/\ ∃r:Nat,y=(r:Int)/\r<=sizC c/\ ∀m':Nat,(m:Int)=(m':Int)->(sizC c<=m'->r=sizC c)/\(m'<sizC c->m'<r):=by
  refine ak P8 (fun x:zm×Int=>zI (zH x.1)) (fun x=>zI (zH x.1)<=big/\ ∃m:Nat,x.2=(m:Int)/\m<=big)
   (fun x (y:Int)=> ∃r:Nat,y=(r:Int)/\r<=sizC x.1/\ ∀m':Nat,x.2=(m':Int)->(sizC x.1<=m'->r=sizC x.1)/\(m'<sizC x.1->m'<r)) (fun S x hx hS=> ?_) (x:=(c,(m:Int))) ⟨h,m,rfl,hm⟩
  obtain⟨c,n⟩:=x;obtain⟨hc,m,hn,hm⟩:=hx;have hn:n=(m:Int):=hn;have hc:zI (zH c)<=big:=hc;subst hn;have hlen:=qL c;have hsz:=fT c;have he:=VK c;unfold Nq;have hw: ∀a:Nat,a<=big->w64 ((a:Int)+0)=(a:Int):=fun a ha=>by rw[w64,Z6 (by omega) (by unfold big at ha;omega)];omega
  refine Bt (A:=Nat) c.list.length (fun i a=>((a:Int),(i:Int))) (fun i a=>a<=1+((c.list.take i).map sizC).sum/\(1+((c.list.take i).map sizC).sum<=m->a=1+((c.list.take i).map sizC).sum)/\(m<1+((c.list.take i).map sizC).sum->m<a)) _ (a0:=1) rfl (by simp) (fun i a hi hI=> ?_) (fun a hI=> .inl ?_)
  ·obtain⟨i1,i2,i3⟩:=hI;have ht:=Eu sizC c.list i;have ht1:=Eu sizC c.list (i+1);rw[Yk sizC hi]at ht1;have hmm:=qK (Ga hi);by_cases ham:a<=m
   ·have ha:a=1+((c.list.take i).map sizC).sum:=i2 (by omega);have e1:decide ((a:Int)<=(m:Int))=true:=Ha (by omega);have hw2:w64 ((m:Int) - (a:Int))=((m - a:Nat):Int):=by rw[w64,Z6 (by omega) (by unfold big at hm;omega)];omega
    obtain⟨y,hy1,r,hy2,hy3,hy4⟩:=hS (c.list[i],((m - a:Nat):Int)) ⟨by show zI (zH c.list[i])<=big;omega,m - a,rfl,by omega⟩ hmm;have hy3:r<=sizC c.list[i]:=hy3;obtain⟨hy5,hy6⟩:=hy4 (m - a) rfl;have hy5:sizC c.list[i]<=m - a->r=sizC c.list[i]:=hy5;have hy6:m - a<sizC c.list[i]->m - a<r:=hy6;have hw3:w64 ((a:Int)+(r:Int))=((a+r:Nat):Int):=ol (by omega);refine .inl ⟨a+r,?_,?_,?_,?_⟩
    ·simp only[zY hi,e1,Da,zS hi,za,Ba,ZB,hw2,hy1,hy2,hw3,zK hi (show c.list.length<=big by omega)]
    ·rw[Yk sizC hi];omega
    ·rw[Yk sizC hi];omega
    ·rw[Yk sizC hi];omega
   ·have e1:decide ((a:Int)<=(m:Int))=false:=Oa (by omega);refine .inr (.inr ⟨(a:Int),?_,(a:Int),rfl,a,rfl,?_,fun m' hm'=>⟨fun h=> ?_,fun h=> ?_⟩⟩)
    ·simp only[zY hi,e1,Da,Ca]
    ·show a<=sizC c;omega
    ·have hm':(m:Int)=(m':Int):=hm';have h:sizC c<=m':=h;show a=sizC c;omega
    ·have hm':(m:Int)=(m':Int):=hm';show m'<a;omega
  ·rw[Lf]at hI;obtain⟨i1,i2,i3⟩:=hI;refine⟨(a:Int),?_,(a:Int),rfl,a,rfl,?_,fun m' hm'=>⟨fun h=> ?_,fun h=> ?_⟩⟩
   ·simp only[zV,Ca]
   ·show a<=sizC c;omega
   ·have hm':(m:Int)=(m':Int):=hm';have h:sizC c<=m':=h;show a=sizC c;omega
   ·have hm':(m:Int)=(m':Int):=hm';have h:m'<sizC c:=h;show m'<a;omega
 obtain⟨y,h1,r,rfl,h2,h3⟩:=key;exact⟨r,h1,h2,h3 m rfl⟩
def yf(c:zm):Bool:=c.kind==7||c.kind==8
mutual
def Af:zm->Nat
 |⟨k,_,_,d,l⟩=>bif k==7 then 1+Q0 d.value else bif k==8 then 1 else dw l
def dw:List zm->Nat
 |[]=>0
 |c::r=>max ((bif yf c then 0 else 1)+Af c) (dw r)
end
def Mg(c:zm):Nat:=(bif yf c then 0 else 1)+Af c
theorem zId(l:List zm):dw l=mx Mg l:=by
 induction l with
 |nil=>rw[dw];rfl
 |cons c l ih=>rw[dw,ih];rfl
theorem ow(c:zm):Af c=bif c.kind==7 then 1+Q0 c.decl.value else bif c.kind==8 then 1 else mx Mg c.list:=by obtain⟨k,n,m,d,l⟩:=c;rw[Af,zId]
theorem lw: ∀c:zm,Af c<=zI (zH c):=by
 have key: ∀(n:Nat) (c:zm),zI (zH c)<n->Af c<=zI (zH c):=by
  intro n
  induction n with
  |zero=>intro c h;omega
  |succ n ih=>
   intro c h;have hz:=xh c;have hd:=Qq c.decl;rw[ow];cases c.kind==7 with
   |true=> have h1:=Rj c.decl.value;have h2:=Rh c.decl.value;simp only[Da];omega
   |false=>
    cases c.kind==8 with
    |true=>simp only[Da,Ca];omega
    |false=>
     simp only[Ca];have: ∀l:List zm,(∀y∈l,y∈c.list)->mx Mg l<=1+zL zH l:=by
      intro l
      induction l with
      |nil=>intro _;exact Rb _
      |cons y l ihl=>
       intro hl;have h1:=ihl fun z hz=>hl z (Eb _ hz);have h2:=qK (hl y ja);have h3:=ih y (by omega);have h4:Mg y<=1+Af y:=by unfold Mg;cases yf y<;>simp only[Da,Ca]<;>omega
       rw[mx,Qx];omega
     have:=this c.list fun _ h=>h;omega
 exact fun c=>key _ c (Nat.lt_succ_self _)
theorem aN{c:zm}(h:zI (zH c)<=big):Ri c=some (Af c:Int):=by
 refine ZH (fun c=>zI (zH c)) (fun c=>zI (zH c)<=big) (fun c=>(Af c:Int)) (fun S c hc hS=> ?_) h;have hz:=xh c;have hd:=Qq c.decl;have hlen:=qL c;have hv:=Rh c.decl.value;unfold gz;rw[ow];cases h7:c.kind==7 with
 |true=> have h1:=Rj c.decl.value;simp only[Da,Gx (show szL c.decl.value<=big by omega),za,Ba,FL (show Q0 c.decl.value<=big by omega)];rw[Pd]
 |false=>
  cases h8:c.kind==8 with
  |true=>rfl
  |false=>
   simp only[Ca];refine(Jj c.list Mg (fun a i=>((a:Int),(i:Int))) (fun a=>(a:Int)) (a0:=0) rfl (fun i a hi=> ?_) (fun a=> ?_)).trans ?_
   ·have hm:=qK (Ga hi);have hs:=hS c.list[i] (by omega) hm;have hst:=lw c.list[i];simp only[zY hi,Da,zS hi,za,Ba,ZB,hs,zK hi (show c.list.length<=big by omega)];have hlf:(bif c.list[i].kind==7 then true else c.list[i].kind==8)=yf c.list[i]:=by unfold yf;cases c.list[i].kind==7<;>rfl
    rw[hlf];have hst':Mg c.list[i]=(bif yf c.list[i]then 0 else 1)+Af c.list[i]:=rfl;cases hlc:yf c.list[i]with
    |true=>
     rw[hlc,Da,Xb]at hst';have hw:w64 (0+(Af c.list[i]:Int))=(Mg c.list[i]:Int):=by rw[w64,Z6 (by omega) (by unfold big at hc;omega)];omega
     simp only[Da,zZ,hw,Bh]
    |false=>
     rw[hlc,Ca]at hst';have hw:w64 (1+(Af c.list[i]:Int))=(Mg c.list[i]:Int):=by rw[w64,Z6 (by omega) (by unfold big at hc;omega)];omega
     simp only[Ca,zZ,hw,Bh]
   ·simp only[zV,Ca]
   ·rw[Nat.zero_max]
mutual
def supC:zm->Bool
 |⟨k,n,m,d,l⟩=>bif k==7 then l.isEmpty&&(n==[]&&(m==0&&Ye d))else bif k==8 then l.isEmpty&&Ff ⟨k,n,m,d,l⟩else
  (k==3||(k==1||k==2))&&(Ff ⟨k,n,m,d,l⟩&&((bif k==3 then l.length==1 else decide (2<=l.length))&&Uv l))
def Uv:List zm->Bool
 |[]=>true
 |c::r=>supC c&&Uv r
end
theorem zJ3(l:List zm):Uv l=l.all supC:=by
 induction l with
 |nil=>rw[Uv];rfl
 |cons c l ih=>rw[Uv,ih];rfl
theorem jK(c:zm):supC c=bif c.kind==7 then c.list.isEmpty&&(c.name==[]&&(c.num==0&&Ye c.decl))else bif c.kind==8 then c.list.isEmpty&&Ff c else
  (c.kind==3||(c.kind==1||c.kind==2))&&(Ff c&&((bif c.kind==3 then c.list.length==1 else decide (2<=c.list.length))&&c.list.all supC)):=by
 obtain⟨k,n,m,d,l⟩:=c;rw[supC,zJ3]
theorem vS{α:Type}(l:List α):decide ((l.length:Int)<2)= !decide (2<=l.length):=by
 by_cases h:2<=l.length
 ·rw[Ha h,Oa (by omega)];rfl
 ·rw[Oa h,Ha (by omega)];rfl
theorem OV{α:Type}(l:List α):((l.length:Int)==1)=(l.length==1):=by rw[Tf,Bc,Bc];omega
theorem zqz{c:zm}(h:zI (zH c)<=big):qg c=some (supC c):=by
 refine ZH (fun c=>zI (zH c)) (fun c=>zI (zH c)<=big) (fun c=>supC c) (fun S c hc hS=> ?_) h;have hlen:=qL c;have hd:=Au c;unfold ED;rw[jK];simp only[ZB,mq,oP (show zI (ZC c.decl)<=big by omega),ZJ,zM,za,Ba];cases h7:c.kind==7 with
 |true=>
  simp only[Da];cases c.name==[]<;>cases c.num==0<;>cases c.list.isEmpty<;>cases Ye c.decl<;>rfl
 |false=>
  cases h8:c.kind==8 with
  |true=>
   simp only[Da,Ca];cases Ff c<;>cases c.list.isEmpty<;>rfl
  |false=>
   simp only[Ca];cases h3:c.kind==3 with
   |true=>
    simp only[Da,He,Ua,OV];cases Ff c with
    |false=>rfl
    |true=>
     cases hl:c.list with
     |nil=>rfl
     |cons y r=>
      cases r with
      |nil=> have hm:=qK (c:=c) (y:=y) (by rw[hl];exact ja);have e2:geti [y] 0=some y:=rfl;have e3:(([y]:List zm).length==1)=true:=rfl;simp only[e2,e3,Da,Zt,Ba,hS y (show zI (zH y)<=big by omega) hm,Ua,List.all_cons,List.all_nil,Yb]
      |cons z r=>
       have e3:((y::z::r).length==1)=false:=by simp
       simp only[e3,Da,qF,Ba,Ca,jb,Ac]
   |false=>
    have hj: ∀{R:Type} (k:Bool->Option R),zO (X:=Bool) (bif c.kind==1 then some (LX.out (c.kind==1))else some (LX.out (c.kind==2))) k=k (c.kind==1||c.kind==2):=by intro R k;cases c.kind==1<;>rfl
    simp only[Ca,Nc];rw[hj];cases (c.kind==1||c.kind==2)with
    |false=>rfl
    |true=>
     simp only[Da,vS,Ua];have hl:Zc (fun(s8:Int)=>
        bif decide (s8<(c.list.length:Int))then
         (geti c.list s8).bind fun y9=>
         (S y9).bind fun y10=>
         bif !y10 then
          some (LO.ret false)
         else
          some (LO.again (w64 (s8+1)))
        else
         some (LO.out ()):Int->Option (LO (Int) (Unit) _)) 0 (fun _=>some true)=some (c.list.all supC):=by
      refine(Z9 c.list (fun v=>bif supC v then none else some false) () (fun i hi=> ?_) ?_).trans ?_
      ·have hm:=qK (Ga hi);simp only[zY hi,Da,zS hi,Ba,hS _ (show zI (zH c.list[i])<=big by omega) hm,zK hi (show c.list.length<=big by omega)];cases supC c.list[i]<;>rfl
      ·simp only[zV,Ca]
      ·rw[Pg];cases c.list.all supC<;>rfl
     rw[hl];cases Ff c<;>cases decide (2<=c.list.length)<;>rfl
theorem zCW(c:zm):Pp c=some (yf c):=by unfold Pp yf;cases c.kind==7<;>rfl
theorem zAf{c:zm}{m:Nat}(h:zI (zH c)<=big)(hm:m<=1500):
  ∃y:(Int×Bool)×Int,Yh (c,(m:Int))=some y/\y.1.2=(supC c&&decide (m+sizC c<=1500))/\(y.1.2=true->y.1.1=(Af c:Int)/\y.2=((m+sizC c:Nat):Int)):=by
 have key: ∃y:(Int×Bool)×Int,Yh (c,(m:Int))=some y/\ ∀m':Nat,(m:Int)=(m':Int)->y.1.2=(supC c&&decide (m'+sizC c<=1500))/\(y.1.2=true->y.1.1=(Af c:Int)/\y.2=((m'+sizC c:Nat):Int)):=by
  refine ak vY (fun x:zm×Int=>zI (zH x.1)) (fun x=>zI (zH x.1)<=big/\ ∃m:Nat,x.2=(m:Int)/\m<=1500)
   (fun x (y:(Int×Bool)×Int)=> ∀m':Nat,x.2=(m':Int)->y.1.2=(supC x.1&&decide (m'+sizC x.1<=1500))/\(y.1.2=true->y.1.1=(Af x.1:Int)/\y.2=((m'+sizC x.1:Nat):Int))) (fun S x hx hS=> ?_) (x:=(c,(m:Int))) ⟨h,m,rfl,hm⟩
  obtain⟨c,n⟩:=x;obtain⟨hc,m,hn,hm⟩:=hx;have hn:n=(m:Int):=hn;have hc:zI (zH c)<=big:=hc;subst hn;have hlen:=qL c;have hd:=Au c;have hsz:=fT c;have he:=VK c;have hv:=Rh c.decl.value;have hzd:=Qq c.decl;have fin: ∀(d:Int) (b:Bool) (n:Int),b=(supC c&&decide (m+sizC c<=1500))->(b=true->d=(Af c:Int)/\n=((m+sizC c:Nat):Int))->
    ∀m':Nat,(m:Int)=(m':Int)->b=(supC c&&decide (m'+sizC c<=1500))/\(b=true->d=(Af c:Int)/\n=((m'+sizC c:Nat):Int)):=by
   intro d b n h1 h2 m' hm';obtain rfl:m=m':=by omega
   exact⟨h1,h2⟩
  have hw:w64 ((m:Int)+1)=((m+1:Nat):Int):=Fj (by unfold big;omega);unfold Gq;simp only[hw,ZB];by_cases hm1:m+1>1500
  ·have e1:decide (((m+1:Nat):Int)>1500)=true:=Ha (by omega);simp only[e1,Da];have e2:decide (m+sizC c<=1500)=false:=Oa (by omega);exact⟨_,rfl,fin _ _ _ (by rw[e2,Ac]) (fun h=>by cases h)⟩
  have e1:decide (((m+1:Nat):Int)>1500)=false:=Oa (by omega);simp only[e1,Ca];have hs:=jK c;have hdp:=ow c;cases h7:c.kind==7 with
  |true=>
   rw[h7]at hs hdp;simp only[Da]at hs hdp ⊢;rw[gF (show szL c.decl.value<=big by omega),yO (show zI (ZC c.decl)<=big by omega)];simp only[za,Ba,ZJ,zM];refine⟨_,rfl,fin _ _ _ ?_ ?_⟩
   ·rw[hs];have hde:Ye c.decl=(Ye c.decl&&(errS c.decl.value==0)):=by unfold Ye;cases Lh c.decl.name<;>cases errS c.decl.value==0<;>simp
    cases hle:c.list.isEmpty with
    |false=>rfl
    |true=>
     have hl:c.list=[]:=Vd.1 hle;rw[hl]at he;have e2:decide (m+sizC c<=1500)=true:=Ha (by rw[he];simp;omega);rw[e2];by_cases her:errS c.decl.value=0
     ·rw[aa her];cases c.name==[]<;>cases c.num==0<;>cases Ye c.decl<;>rfl
     ·rw[Ab her];have her':=Ea.2 her;rw[her',Ac]at hde;rw[hde];simp only[her'];cases c.name==[]<;>cases c.num==0<;>rfl
   ·intro hf;have her:errS c.decl.value=0:=by
     by_cases her:errS c.decl.value=0
     ·exact her
     ·rw[Ab her]at hf;have her':=Ea.2 her;simp only[her']at hf;revert hf;cases c.list.isEmpty<;>cases c.name==[]<;>cases c.num==0<;>intro h<;>cases h
    have hl:c.list=[]:=by
     cases hle:c.list.isEmpty with
     |true=>exact Vd.1 hle
     |false=>rw[hle]at hf;cases hf
    have h1:=Rj c.decl.value;rw[aa her,hdp];rw[hl]at he;simp only[Fj (show Q0 c.decl.value<=big by omega)];refine⟨by rw[Pd],?_⟩;rw[he];rfl
  |false=>
   rw[h7]at hs hdp;simp only[Ca]at hs hdp ⊢;cases h8:c.kind==8 with
   |true=>
    rw[h8]at hs hdp;simp only[Da]at hs hdp ⊢;simp only[za,Ba,ZJ,zM,Ll];refine⟨_,rfl,fin _ _ _ ?_ ?_⟩
    ·rw[hs];cases hle:c.list.isEmpty with
     |false=>rfl
     |true=> have hl:c.list=[]:=Vd.1 hle;rw[hl]at he;have e2:decide (m+sizC c<=1500)=true:=Ha (by rw[he];simp;omega);rw[e2];cases Ff c<;>rfl
    ·intro hf;have hl:c.list=[]:=by
      cases hle:c.list.isEmpty with
      |true=>exact Vd.1 hle
      |false=>rw[hle]at hf;cases hf
     rw[hl]at he;rw[hdp,he];exact⟨rfl,rfl⟩
   |false=>
    rw[h8]at hs hdp;simp only[Ca]at hs hdp ⊢;have hj: ∀{R:Type} (k:Bool->Option R),zO (X:=Bool) (bif c.kind==3 then some (LX.out (c.kind==3))else bif c.kind==1 then some (LX.out (c.kind==1))else some (LX.out (c.kind==2))) k=k (c.kind==3||(c.kind==1||c.kind==2)):=by intro R k;cases c.kind==3<;>cases c.kind==1<;>rfl
    rw[hj];cases hk:(c.kind==3||(c.kind==1||c.kind==2))with
    |false=>
     rw[hk]at hs;exact⟨_,rfl,fin _ _ _ (by rw[hs];rfl) (fun h=>by cases h)⟩
    |true=>
     rw[hk]at hs;simp only[Da,Ua]at hs ⊢;have hg:(bif bif !Ff c then true else bif c.kind==3 then(c.list.length:Int) != 1 else false then true else bif c.kind != 3 then decide ((c.list.length:Int)<2)else false)= !(Ff c&&(bif c.kind==3 then c.list.length==1 else decide (2<=c.list.length))):=by rw[vS,bne,bne,OV];cases Ff c<;>cases c.kind==3<;>cases c.list.length==1<;>rfl
     simp only[Ll,za,Ba,hg];cases hb:(Ff c&&(bif c.kind==3 then c.list.length==1 else decide (2<=c.list.length)))with
     |false=>
      rw[<-Hg,hb]at hs;exact⟨_,rfl,fin _ _ _ (by rw[hs];rfl) (fun h=>by cases h)⟩
     |true=>
      rw[<-Hg,hb,Ua]at hs;simp only[Va,Ca];refine Bt (A:=Nat×Nat) c.list.length (fun i a=>(((a.1:Int),(i:Int)),(a.2:Int))) (fun i a=>a.2=m+1+((c.list.take i).map sizC).sum/\a.2<=1500/\a.1=mx Mg (c.list.take i)/\(c.list.take i).all supC=true) _ (a0:=(0,m+1)) rfl ⟨by simp,by show m+1<=1500;omega,by simp[mx],by simp⟩ (fun i a hi hI=> ?_) (fun a hI=> .inl ?_)
      ·obtain⟨i1,i2,i3,i4⟩:=hI;have ht:=Eu sizC c.list (i+1);rw[Yk sizC hi]at ht;have hmm:=qK (Ga hi);obtain⟨y,hy1,hy2⟩:=hS (c.list[i],(a.2:Int)) ⟨by show zI (zH c.list[i])<=big;omega,a.2,rfl,i2⟩ hmm;obtain⟨hy3,hy4⟩:=hy2 a.2 rfl;have hy3:y.1.2=(supC c.list[i]&&decide (a.2+sizC c.list[i]<=1500)):=hy3;simp only[zY hi,Da,zS hi,Ba,ZB,hy1];cases hf:y.1.2 with
       |false=>
        refine .inr (.inl ⟨_,rfl,fin _ _ _ ?_ (fun h=>by cases h)⟩);rw[hf]at hy3;cases hsi:supC c.list[i]with
        |false=>rw[hs,zLZ hi hsi];rfl
        |true=> rw[hsi,Ua]at hy3;have:=of_decide_eq_false hy3.symm;have e2:decide (m+sizC c<=1500)=false:=Oa (by omega);rw[e2,Ac]
       |true=>
        obtain⟨hy5,hy6⟩:=hy4 hf;rw[hf]at hy3;have hy3:=hy3.symm;rw[Fa]at hy3;have hle:=Fb hy3.2;have hdl:=lw c.list[i];have hy5:y.1.1=(Af c.list[i]:Int):=hy5;have hy6:y.2=((a.2+sizC c.list[i]:Nat):Int):=hy6;refine .inl ⟨(max a.1 (Mg c.list[i]),a.2+sizC c.list[i]),?_,?_,hle,?_,?_⟩
        ·have hst:Mg c.list[i]=(bif yf c.list[i]then 0 else 1)+Af c.list[i]:=rfl;have hw2:=Fj (n:=Af c.list[i]) (by omega);simp only[Va,Ca,zCW,Ba,hy5,hy6,hw2,zK hi (show c.list.length<=big by omega)];cases hlf:yf c.list[i]with
         |true=> rw[hlf]at hst;rw[Da,Xb]at hst;simp only[Va,Ca,zZ,hst,Bh]
         |false=> rw[hlf]at hst;rw[Ca,Pd]at hst;simp only[Ra,Da,zZ,hst,Bh]
        ·rw[Yk sizC hi,i1];show _+_+_+_=_;omega
        ·rw[Js Mg hi,i3]
        ·rw[Ep supC hi,i4,hy3.1];rfl
      ·rw[Lf]at hI;obtain⟨i1,i2,i3,i4⟩:=hI;refine⟨((a.1:Int),(a.2:Int)),?_,_,rfl,fin _ _ _ ?_ (fun _=>⟨?_,?_⟩)⟩
       ·simp only[zV,Ca]
       ·have e2:decide (m+sizC c<=1500)=true:=Ha (by omega);rw[hs,i4,e2];rfl
       ·rw[hdp,i3]
       ·show(a.2:Int)=_;rw[i1,he];congr 1;omega
 obtain⟨y,h1,h2⟩:=key;exact⟨y,h1,h2 m rfl⟩
def Xk(c:zm):Bool:=supC c&&(decide (sizC c<=1500)&&decide (Af c<=16))
theorem zlU{c:zm}(h:zI (zH c)<=big):lC c=some (bif Xk c then 0 else 8):=by
 obtain⟨y,h1,h2,h3⟩:=zAf (m:=0) h (by omega);unfold lC Xk;replace h1:Yh (c,0)=some y:=h1;simp only[ZB,h1,za,Ba];rw[Xb]at h2;cases hf:y.1.2 with
 |false=> rw[hf]at h2;rw[<-Hg,<-h2];rfl
 |true=> have e:decide ((Af c:Int)>16)= !decide (Af c<=16):=Jf _ 16;rw[(h3 hf).1,e];rw[hf]at h2;rw[<-Hg,<-h2];cases decide (Af c<=16)<;>rfl
theorem zpd{c:zm}(h:zI (zH c)<=big):SC c=some (Xk c):=by
 obtain⟨r,h1,h2,h3,h4⟩:=jO (m:=1500) h (by unfold big;omega);replace h1:Qh (c,1500)=some (r:Int):=h1;have e:decide ((Af c:Int)<=16)=decide (Af c<=16):=ym _ 16;have e2:decide ((r:Int)<=1500)=decide (sizC c<=1500):=by
  by_cases hs:sizC c<=1500
  ·rw[Ha hs,h3 hs,Ha (by omega)]
  ·have:=h4 (by omega);rw[Oa hs,Oa (by omega)]
 unfold SC Xk;simp only[ZB,h1,za,Ba,aN h,zqz h,zM,e2];cases decide (sizC c<=1500)with
 |false=>simp
 |true=>simp only[Da,e];cases decide (Af c<=16)<;>cases supC c<;>rfl
--< pulled
--p kG
theorem kG(l:Str)(m:Int):Um (l,m)=some (decide ((l.length:Int)>m)|| !QS l):=by
 unfold Um;simp only[cu,zM,za,Ba];cases decide ((l.length:Int)>m)with
 |true=>rfl
 |false=>exact congrArg some (Gs l)
--p RH
theorem RH(l:Str):Hl l=some (jf l):=by unfold Hl jf;simp only[kG,zM,za,Ba];have:decide ((l.length:Int)>64)= !decide (l.length<=64):=Jf _ 64;rw[this];cases l==[]<;>cases decide (l.length<=64)<;>cases QS l<;>rfl
--p OG
theorem OG{l:Str}(m:Int)(h:l.length<=big):Ku (l,m)=some (QS l&&decide ((l.length:Int)<=m)):=by
 unfold Ku;refine(Z9 l (fun b=>bif (!(b==0))then none else some false) () (fun i hi=> ?_) ?_).trans ?_
 ·simp only[zY hi,Da,zS hi,za,Ba,byte_zero,zK hi h];cases l[i]==0<;>rfl
 ·simp only[zV,Ca]
 ·rw[Pg];show _=some (QS l&&_);unfold QS;cases l.all (fun b=> !(b==0))<;>rfl
--p kz
theorem kz{l:Str}(h:l.length<=big):Mm l=some (jf l):=by
 unfold Mm jf;simp only[OG _ h,zM,za,Ba];have:decide ((l.length:Int)<=64)=decide (l.length<=64):=by
  by_cases h:l.length<=64
  ·rw[Ha h,Ha (by omega)]
  ·rw[Oa h,Oa (by omega)]
 rw[this];cases l==[]<;>cases decide (l.length<=64)<;>cases QS l<;>rfl
--p PH
theorem PH{l:Str}(h:l.length<=big):jq l=some (Gi l):=by unfold jq Gi;simp only[RH,Du h,zM,za,Ba];cases jf l<;>rfl
--p PG
theorem PG{l:Str}(h:l.length<=big):Lu l=some (Gi l):=by
 unfold Lu Gi;simp only[kz h,Ht h,zM,za,Ba];cases jf l
 ·rfl
 ·exact congrArg some (Fy l (lowS l))
--p oM
theorem oM(l:Str):iq l=some (!jf l):=by unfold iq jf;simp only[cu,zM,za,Ba];have:decide ((l.length:Int)>64)= !decide (l.length<=64):=Jf _ 64;rw[this];cases l==[]<;>cases decide (l.length<=64)<;>first|rfl|exact congrArg some (Gs l)
--p jV
theorem jV{l:List Str}(h:l.length<=big):qY l=some (idxS (fun v=> !jf v) l):=by
 unfold qY;refine Kj l _ h (fun i hi=> ?_) ?_
 ·simp only[zY hi,Da,zS hi,za,Ba,oM]
 ·simp only[zV,Ca]
--p WN
theorem WN{l:List Str}(h:l.length<=big):qC l=some (!l.all jf):=by unfold qC;exact Oj (jV h) ((Ki _ _).trans (uo _ _))
--p UM
theorem UM{l:List Str}(h:l.length<=big):Gz l=some (rf l):=by
 unfold Gz rf;have e1:decide ((l.length:Int)>0)= !l.isEmpty:=by
  cases l with
  |nil=>rfl
  |cons a l=>exact Ha (by simp only[Pb];omega)
 have e2:decide ((l.length:Int)<=16)=decide (l.length<=16):=ym _ 16;simp only[WN h,zM,za,Ba,e1,e2];cases l.isEmpty<;>cases decide (l.length<=16)<;>cases l.all jf<;>rfl
--p bM
theorem bM{l:List Str}(h:l.length<=big)(hv: ∀v∈l,v.length<=big):Kq l=some (rf l):=by
 unfold Kq rf;have e2:decide ((l.length:Int)>16)= !decide (l.length<=16):=Jf _ 16;rw[Tu,e2];have e3: ∀(k:Unit->Option Bool),k ()=some true->Zc (fun(s1:Int)=>
    bif decide (s1<(l.length:Int))then
     za (geti l s1) fun y2=>
     za (Mm y2) fun y3=>
     bif !y3 then
      some (LO.ret false)
     else
      some (LO.again (w64 (s1+1)))
    else
     some (LO.out ())) 0 k=some (l.all jf):=by
  intro k hk;refine(Z9 l (fun b=>bif jf b then none else some false) () (fun i hi=> ?_) ?_).trans ?_
  ·simp only[zY hi,Da,zS hi,za,Ba,kz (hv _ (Ga hi)),zK hi h];cases jf l[i]<;>rfl
  ·simp only[zV,Ca]
  ·rw[Pg];cases l.all jf
   ·rfl
   ·exact hk
 rw[e3 _ rfl];cases l.isEmpty<;>cases decide (l.length<=16)<;>rfl
--p Qm
theorem Qm(x:zg):zI (zo x)=3+zL zT x.parts+x.combs.length:=by rw[zsO];simp only[zI,bPV,TS,zL];omega
--p qA
theorem qA(x:zy):zI (zT x)=2+x.tag.length+zL Zd x.simples:=by rw[zri];simp only[zI,bPV,zL];omega
--p Qk
theorem Qk(x:zx):zI (Zd x)=9+x.name.length+x.value.length+zL zo x.list:=by rw[p8];simp only[zI,bPV,zL];omega
--p SS
theorem SS(x:List Str):zI [.sl (x.map fun y=>[.str y])]=1+zL (fun y=>[.str y]) x:=by simp only[zI,bPV,zL];omega
--p Gh
theorem Gh(x:zC):zI (zD x)=5+zL zo x.selectors+zL ZC x.decls+zI (zH x.cond)+zL (fun l=>[.sl (l.map fun y=>[.str y])]) x.names+zL zD x.rules:=by rw[zAs,xh,Qq];simp only[zI,bPV,zL];omega
--p qP
theorem qP(x:zg):1<=zI (zo x):=by have:=Qm x;omega
--p Qw
theorem Qw(x:zy):1<=zI (zT x):=by have:=qA x;omega
--p Wi
theorem Wi(x:zx):1<=zI (Zd x):=by have:=Qk x;omega
--p vg
theorem vg(x:zC):1<=zI (zD x):=by have:=Gh x;omega
--p uf
def uf(c:zm):Bool:=c.kind==0&&(c.list.isEmpty&&Ff c)
--p VM
theorem VM(c:zm):Xj c=some (uf c):=by unfold Xj uf Ff Eh;rw[ZJ,ZJ];cases c.kind==0<;>cases c.name==[]<;>cases c.num==0<;>cases c.list.isEmpty<;>cases c.decl.name==[]<;>cases c.decl.value.isEmpty<;>rfl
--p jW
theorem jW(c:zm):Wp c=some (uf c):=by
 unfold Wp;have:QZ (c,(⟨0,[],0,(⟨[],[],false⟩:Za),[]⟩:zm))=some (uf c):=by
  refine ZH (fun _=>0) (fun x:zm×zm=>x.2=(⟨0,[],0,(⟨[],[],false⟩:Za),[]⟩:zm)) (fun x=>uf x.1) (fun S x hx _=> ?_) (x:=(c,_)) rfl;obtain⟨c,m⟩:=x;obtain rfl:m=_:=hx;have e5:Al (c.decl,(⟨[],[],false⟩:Za))=some (Eh c.decl):=by unfold Al Eh;simp only[zLs,zM,za,Ba];cases c.decl.name==[]<;>cases c.decl.important<;>cases c.decl.value.isEmpty<;>rfl
  have el:((c.list.length:Int) != (([]:List zm).length:Int))= !c.list.isEmpty:=by rw[bne,ae,Int.natCast_zero,ZJ]
  unfold Xu uf Ff;simp only[e5,el,zM,za,Ba,bne];cases c.kind==0 with
  |false=>rfl
  |true=>
   cases hl:c.list with
   |cons y r=>cases c.name==[]<;>cases c.num==0<;>cases Eh c.decl<;>rfl
   |nil=>
    cases c.name==[]<;>cases c.num==0<;>cases Eh c.decl<;>try rfl
    refine(Z9 ([]:List zm) (fun _=>none) () (fun i hi=>by cases hi) ?_).trans rfl;simp only[ae,zV,Ca]
 simp only[ZB,this,za,Ba]
--p EM
theorem EM{c:zm}(h:zI (zH c)<=big): ∃y:Int,Oi c=some y/\(supC c=true->y=(Af c:Int)):=by
 refine ak M8 (fun c=>zI (zH c)) (fun c=>zI (zH c)<=big) (fun c (y:Int)=>supC c=true->y=(Af c:Int)) (fun S c hc hS=> ?_) h;have hlen:=qL c;have hv:=Rh c.decl.value;have hz:=xh c;have hzd:=Qq c.decl;have hs:=jK c;have hdp:=ow c;unfold Iq;cases h7:c.kind==7 with
 |true=>
  rw[h7]at hs hdp;simp only[Da]at hs hdp ⊢;rw[gF (show szL c.decl.value<=big by omega)];refine⟨_,rfl,fun h=> ?_⟩;have her:errS c.decl.value=0:=by rw[hs]at h;unfold Ye at h;simp only[Fa,Bc]at h;exact h.2.2.2.2.1
  have h1:=Rj c.decl.value;rw[aa her,hdp,Fj (show Q0 c.decl.value<=big by omega),Pd]
 |false=>
  rw[h7]at hs hdp;simp only[Ca]at hs hdp ⊢;cases h8:c.kind==8 with
  |true=> rw[h8]at hdp;exact⟨_,rfl,fun _=>by rw[hdp];rfl⟩
  |false=>
   rw[h8]at hs hdp;simp only[Ca]at hs hdp ⊢;refine Bt (A:=Int) c.list.length (fun i a=>(a,(i:Int))) (fun i a=>supC c=true->a=(mx Mg (c.list.take i):Int)) _ (a0:=0) rfl (fun _=>by simp[mx]) (fun i a hi hI=> .inl ?_) (fun a hI=> .inl ?_)
   ·have hm:=qK (Ga hi);obtain⟨y,hy1,hy2⟩:=hS c.list[i] (by omega) hm;have hlf:(bif c.list[i].kind != 7 then c.list[i].kind != 8 else false)= !yf c.list[i]:=by unfold yf;rw[bne,bne];cases c.list[i].kind==7<;>rfl
    refine⟨if(bif yf c.list[i]then y else w64 (y+1))>a then(bif yf c.list[i]then y else w64 (y+1))else a,?_,fun h=> ?_⟩
    ·simp only[zY hi,Da,zS hi,za,Ba,ZB,hy1,hlf,zK hi (show c.list.length<=big by omega)];cases yf c.list[i]<;>rfl
    ·have ha:=hI h;have hall:c.list.all supC=true:=by rw[hs]at h;simp only[Fa]at h;exact h.2.2.2
     have hy:=hy2 (Nb.1 hall _ (Ga hi));have hst:Mg c.list[i]=(bif yf c.list[i]then 0 else 1)+Af c.list[i]:=rfl;have hdl:=lw c.list[i];rw[Js Mg hi,ha,hy];cases hlf2:yf c.list[i]with
     |true=> rw[hlf2,Da,Xb]at hst;simp only[Da,<-hst,Bh]
     |false=> rw[hlf2,Ca,Pd]at hst;simp only[Ca,Fj (show Af c.list[i]<=big by omega),<-hst,Bh]
   ·refine⟨a,?_,a,rfl,fun h=> ?_⟩
    ·simp only[zV,Ca]
    ·rw[hI h,Lf,hdp]
--> pulled
theorem Cz(c:zg):(⟨c.lead,c.parts,c.combs⟩:zg)=c:=by cases c;rfl
theorem TN(c:zy):(⟨c.tag,c.simples⟩:zy)=c:=by cases c;rfl
theorem Vt(c:zx):(⟨c.kind,c.name,c.op,c.value,c.fold,c.anb,c.of_,c.list⟩:zx)=c:=by cases c;rfl
def NE(n:Int):Bool:=decide (-1000000000<=n)&&decide (n<=1000000000)
def anbS(a:VAnb):Bool:=NE a.a&&NE a.b
def anb0(a:VAnb):Bool:=a.a==0&&a.b==0
def fD(x:zx):Bool:=x.op==0&&(x.value==[]&&(!x.fold&&(anb0 x.anb&& !x.of_)))
def wm(x:zx):Bool:=
 bif x.kind==1||x.kind==2 then jf x.name&&fD x
 else bif x.kind==3 then Gi x.name&&(decide (x.op<=6)&&((QS x.value&&decide (x.value.length<=400))&&((!(x.op==0)||x.value==[]&& !x.fold)&&(anb0 x.anb&& !x.of_))))
 else bif x.kind==9||x.kind==10 then anbS x.anb&&(x.name==[]&&(x.op==0&&(x.value==[]&& !x.fold)))
 else(decide (4<=x.kind)&&decide (x.kind<=14))&&(x.name==[]&&fD x)
def hasS(x:zx):Bool:=bif x.kind==9||x.kind==10 then x.of_ else decide (11<=x.kind)&&decide (x.kind<=14)
def Gn(x:zx):Bool:=x.kind==11||x.kind==12
def mh(b:UInt8):Bool:=decide (1<=b.toNat)&&decide (b.toNat<=4)
def tagS(t:Str):Bool:=t==[]||(t==[42]||Gi t)
def RD(c:zy):Bool:=tagS c.tag&&((!(c.tag==[])|| !c.simples.isEmpty)&&decide (c.simples.length<=64))
def VD(c:zg)(b:Bool):Bool:=(b==(c.lead != 0))&&(decide (c.lead<=4)&&(decide (c.combs.length+1=c.parts.length)&&(decide (c.parts.length<=64)&&c.combs.all mh)))
mutual
def QR:zg->Nat->Bool->Bool->Bool
 |⟨lead,parts,combs⟩,d,h,b=>VD ⟨lead,parts,combs⟩ b&&Ow parts d h
def Ow:List zy->Nat->Bool->Bool
 |[],_,_=>true
 |c::r,d,h=>Qn c d h&&Ow r d h
def Qn:zy->Nat->Bool->Bool
 |⟨tag,simples⟩,d,h=>RD ⟨tag,simples⟩&&Vs simples d h
def Vs:List zx->Nat->Bool->Bool
 |[],_,_=>true
 |x::r,d,h=>bg x d h&&Vs r d h
def bg:zx->Nat->Bool->Bool
 |⟨kind,name,op,value,fold,anb,of_,list⟩,d,h=>wm ⟨kind,name,op,value,fold,anb,of_,list⟩&&
   (bif hasS ⟨kind,name,op,value,fold,anb,of_,list⟩then
    !(d==3||h&&kind==14)&&((Gn ⟨kind,name,op,value,fold,anb,of_,list⟩|| !list.isEmpty)&&Xv list (d+1) (h||kind==14) (kind==14))
   else list.isEmpty)
def Xv:List zg->Nat->Bool->Bool->Bool
 |[],_,_,_=>true
 |c::r,d,h,b=>QR c d h b&&Xv r d h b
end
theorem XV(c:zg)(d:Nat)(h b:Bool):QR c d h b=(VD c b&&c.parts.all fun c=>Qn c d h):=by
 obtain⟨lead,parts,combs⟩:=c;rw[QR];have: ∀l,Ow l d h=l.all fun c=>Qn c d h:=by
  intro l
  induction l with
  |nil=>rw[Ow];rfl
  |cons c l ih=>rw[Ow,ih];rfl
 rw[this]
theorem XN(c:zy)(d:Nat)(h:Bool):Qn c d h=(RD c&&c.simples.all fun x=>bg x d h):=by
 obtain⟨tag,simples⟩:=c;rw[Qn];have: ∀l,Vs l d h=l.all fun c=>bg c d h:=by
  intro l
  induction l with
  |nil=>rw[Vs];rfl
  |cons c l ih=>rw[Vs,ih];rfl
 rw[this]
theorem zIR(l:List zg)(d:Nat)(h b:Bool):Xv l d h b=l.all fun c=>QR c d h b:=by
 induction l with
 |nil=>rw[Xv];rfl
 |cons c l ih=>rw[Xv,ih];rfl
theorem GM(x:zx)(d:Nat)(h:Bool):bg x d h=(wm x&&
   (bif hasS x then !(d==3||h&&x.kind==14)&&((Gn x|| !x.list.isEmpty)&&x.list.all fun c=>QR c (d+1) (h||x.kind==14) (x.kind==14))else x.list.isEmpty)):=by
 obtain⟨kind,name,op,value,fold,anb,of_,list⟩:=x;rw[bg,zIR]
theorem zB8(a:VAnb):Jm a=some (bif anbS a then 0 else 8):=by unfold Jm ry anbS NE;simp only[zM,za,Ba];cases decide (-1000000000<=a.a)<;>cases decide (a.a<=1000000000)<;>cases decide (-1000000000<=a.b)<;>cases decide (a.b<=1000000000)<;>rfl
theorem zFm{d:Nat}(hd:d<=3)(h:Bool)(k:Int):Ql (⟨(d:Int),h⟩,k)=some (bif d==3||h&&k==14 then(⟨0,false⟩,false)else(⟨((d+1:Nat):Int),h||k==14⟩,true)):=by
 unfold Ql;have e1:((d:Int)==3)=(d==3):=by
  by_cases hh:d=3
  ·subst hh;rfl
  ·rw[Ea.2 hh,Ea.2 (by omega)]
 simp only[e1];have e2:d≠3->w64 ((d:Int)+1)=((d+1:Nat):Int):=fun hh=>zK (n:=4) (by omega) (by decide);cases hb:(d==3)with
 |true=>rfl
 |false=> rw[e2 (by simpa using hb)];cases h<;>cases (k==14)<;>rfl
theorem zK4(x:zx):ou x=some (hasS x,bif x.kind==9||x.kind==10 then false else !(x.kind==13||x.kind==14)):=by
 unfold ou hasS;by_cases h9:x.kind=9
 ·simp[h9]
 by_cases h10:x.kind=10
 ·simp[h10]
 by_cases h11:x.kind=11
 ·simp[h11]
 by_cases h12:x.kind=12
 ·simp[h12]
 by_cases h13:x.kind=13
 ·simp[h13]
 by_cases h14:x.kind=14
 ·simp[h14]
 have e:(decide (11<=x.kind)&&decide (x.kind<=14))=false:=by
  rw[Hf];by_cases hh:11<=x.kind
  ·exact .inr (Oa (by omega))
  ·exact .inl (Oa hh)
 have b9:=Ea.2 h9;have b10:=Ea.2 h10;have b11:=Ea.2 h11;have b12:=Ea.2 h12;have b13:=Ea.2 h13;have b14:=Ea.2 h14;simp only[b9,b10,b11,b12,b13,b14,e,Ca,zZ,Ef,Ra]
theorem zIk{x:zx}(h1:x.name.length<=big)(k:Option Bool)(hk:k=some true):
  ((bif bif bif !(x.kind==3)then bif bif x.op != 0 then true else !(x.value==[])then true else x.fold else false then true else bif !(bif x.kind==9 then true else x.kind==10)then bif x.of_ then true else !(x.anb.a==0&&(x.anb.b==0&&true))else false then
  some false
 else
  zO (X:=Bool) (
    bif x.kind==1 then
     some (LX.out (x.kind==1))
    else
     some (LX.out (x.kind==2))) fun j5=>
  bif j5 then
   za (Hl x.name) fun y6=>
   some y6
  else
   bif x.kind==3 then
    za (jq x.name) fun y7=>
    za (zA (bif y7 then decide (x.op<=6)else false) (Um (x.value,400)) (default:Bool)) fun y8=>
    some (bif bif bif y7 then decide (x.op<=6)else false then !y8 else false then bif x.op != 0 then true else bif x.value==[]then !x.fold else false else false)
   else
    za (zA (!(!(bif x.kind==9 then true else x.kind==10))&&(bif bif x.name==[]then decide (x.kind>=4)else false then decide (x.kind<=14)else false)) (Jm x.anb) (default:Int)) fun y9=>
    some (bif bif bif x.name==[]then decide (x.kind>=4)else false then decide (x.kind<=14)else false then bif !(bif x.kind==9 then true else x.kind==10)then true else y9==0 else false)):Option Bool)=some (wm x):=by
 have e400:decide ((x.value.length:Int)>400)= !decide (x.value.length<=400):=Jf _ 400;simp only[RH,PH h1,kG,zB8,zM,za,Ba,e400,bne,ge_iff_le];unfold wm fD anb0;generalize jf x.name=a1;generalize Gi x.name=a2;generalize QS x.value=a3;generalize decide (x.value.length<=400)=a4;generalize decide (x.op<=6)=a5;generalize (x.op==0)=a6;generalize (x.value==[])=a7;generalize (x.name==[])=a8;generalize (x.anb.a==0)=a9;generalize (x.anb.b==0)=a10;generalize anbS x.anb=a11;generalize x.fold=a12;generalize x.of_=a13;have fin: ∀kd:Int,kd=1\/kd=2\/kd=3\/kd=9\/kd=10->x.kind=kd->True:=fun _ _ _=>trivial;clear e400 hk fin h1;by_cases k1:x.kind=1
 ·simp only[k1];revert a1 a2 a3 a4 a5 a6 a7 a8 a9 a10 a11 a12 a13;clear k1 k x;decide+kernel
 by_cases k2:x.kind=2
 ·simp only[k2];revert a1 a2 a3 a4 a5 a6 a7 a8 a9 a10 a11 a12 a13;clear k1 k2 k x;decide+kernel
 by_cases k3:x.kind=3
 ·simp only[k3];revert a1 a2 a3 a4 a5 a6 a7 a8 a9 a10 a11 a12 a13;clear k1 k2 k3 k x;decide+kernel
 by_cases k9:x.kind=9
 ·simp only[k9];revert a1 a2 a3 a4 a5 a6 a7 a8 a9 a10 a11 a12 a13;clear k1 k2 k3 k9 k x;decide+kernel
 by_cases k10:x.kind=10
 ·simp only[k10];revert a1 a2 a3 a4 a5 a6 a7 a8 a9 a10 a11 a12 a13;clear k1 k2 k3 k9 k10 k x;decide+kernel
 simp only[Ea.2 k1,Ea.2 k2,Ea.2 k3,Ea.2 k9,Ea.2 k10];generalize decide (4<=x.kind)=a14;generalize decide (x.kind<=14)=a15;clear k1 k2 k3 k9 k10 k x;revert a1 a2 a3 a4 a5 a6 a7 a8 a9 a10 a11 a12 a13 a14 a15;decide+kernel
def fP(z:zg×zh×Bool):Bool:=QR z.1 z.2.1.deep.toNat z.2.1.has z.2.2
def okPl(z:zg×zh×Bool):Prop:=zI (zo z.1)<=big/\ ∃d:Nat,d<=3/\z.2.1.deep=(d:Int)
section
variable {S:zg×zh×Bool->Option Bool} {N:Nat} (hS: ∀z,okPl z->zI (zo z.1)<N->S z=some (fP z)) (hN:N<=big)
include hS hN
theorem hSel{c:zg}{d:Nat}{h b:Bool}(hc:zI (zo c)<N)(hd:d<=3):S (c,⟨(d:Int),h⟩,b)=some (QR c d h b):=
 hS (c,⟨(d:Int),h⟩,b) ⟨by show zI (zo c)<=big;omega,d,hd,rfl⟩ hc
theorem zEO{x:zx}(hx:zI (Zd x)<=N){d:Nat}(hd:d<=3)(h:Bool):
  qw S (x.list,⟨(d:Int),h⟩,x)=some (!x.list.all fun c=>QR c d h (x.kind==14)):=by
 have hz:=Qk x;have hlen:=ZL qP x.list;unfold qw QU;refine Oj (Kj x.list (fun c=> !QR c d h (x.kind==14)) (by omega) (fun i hi=> ?_) ?_) ((Ki _ _).trans (uo _ _))
 ·have hm:=ZW (f:=zo) (Ga hi);simp only[zY hi,Da,zS hi,za,Ba,DI,Cz];rw[hSel hS hN (by omega) hd];rfl
 ·simp only[zV,Ca]
theorem zFw{x:zx}(hx:zI (Zd x)<=N){d:Nat}(hd:d<=3)(h:Bool):wu S (x,⟨(d:Int),h⟩)=some (bg x d h):=by
 have hz:=Qk x;rw[GM];unfold wu;simp only[Vt,zK4,za,Ba,zFm hd,ZJ,Sk];have hflat:=zIk (x:=x) (by omega) (some true) rfl;simp only[za]at hflat;have go: ∀(j:Option (LX Unit Bool)) (b:Bool),j=some (bif b then .out ()else .ret false)->(zO j fun _=>some (wm x))=some (wm x&&b):=by
  intro j b hj;subst hj;cases b with
  |true=>simp only[Da,zZ,Yb]
  |false=>simp only[Ca,zIJ,Ac]
 rw[hflat];refine go _ _ ?_;cases hh:hasS x with
 |false=>cases x.list.isEmpty<;>rfl
 |true=>
  simp only[Da];have he:(bif x.kind==9||x.kind==10 then false else !(x.kind==13||x.kind==14))=Gn x:=by
   unfold Gn;unfold hasS at hh;by_cases h9:x.kind=9
   ·simp only[h9];rfl
   by_cases h10:x.kind=10
   ·simp only[h10];rfl
   simp only[Ea.2 h9,Ea.2 h10,Ef,Ca,Fa,Cb]at hh ⊢;have:x.kind=11\/x.kind=12\/x.kind=13\/x.kind=14:=by omega
   rcases this with h|h|h|h<;>(rw[h];rfl)
  cases hp:(d==3||h&&x.kind==14)with
  |true=>rfl
  |false=>
   have hd3:d≠3:=by intro hc;rw[hc]at hp;cases hp
   simp only[Ca,zEO hS hN hx (show d+1<=3 by omega),zM,Ba,he];cases Gn x<;>cases x.list.isEmpty<;>cases x.list.all (fun c=>QR c (d+1) (h||x.kind==14) (x.kind==14))<;>rfl
theorem zAc{c:zy}(hx:zI (zT c)<=N){d:Nat}(hd:d<=3)(h:Bool):NC S (c,⟨(d:Int),h⟩)=some (Qn c d h):=by
 have hz:=qA c;have hlen:=ZL Wi c.simples;have e64:decide ((c.simples.length:Int)>64)= !decide (c.simples.length<=64):=Jf _ 64;rw[XN];unfold NC RD tagS;have hl: ∀b:Bool,Zc (fun(s2:Int)=>
    bif decide (s2<(c.simples.length:Int))then
     za (geti c.simples s2) fun y3=>
     za (wu S ((⟨y3.kind,y3.name,y3.op,y3.value,y3.fold,y3.anb,y3.of_,y3.list⟩:zx),⟨(d:Int),h⟩)) fun y4=>
     bif !y4 then
      some (LO.ret false)
     else
      some (LO.again (w64 (s2+1)))
    else
     some (LO.out ())) 0 (fun _=>some b)=some (b&&c.simples.all fun x=>bg x d h):=by
  intro b;refine(Z9 c.simples (fun x=>bif bg x d h then none else some false) () (fun i hi=> ?_) ?_).trans ?_
  ·have hm:=ZW (f:=Zd) (Ga hi);simp only[zY hi,Da,zS hi,za,Ba,Vt,zFw hS hN (show zI (Zd c.simples[i])<=N by omega) hd h,zK hi (show c.simples.length<=big by omega)];cases bg c.simples[i] d h<;>rfl
  ·simp only[zV,Ca]
  ·rw[Pg];cases c.simples.all fun x=>bg x d h
   ·cases b<;>rfl
   ·cases b<;>rfl
 simp only[PH (show c.tag.length<=big by omega),zM,za,Ba,e64,Sk]at hl ⊢;rw[hl];cases c.tag==[]<;>cases c.tag==[42]<;>cases Gi c.tag<;>cases decide (c.simples.length<=64)<;>cases c.simples.isEmpty<;>rfl
end
theorem zHm{c:zg}{d:Nat}{h b:Bool}(hc:zI (zo c)<=big)(hd:d<=3):zG (c,⟨(d:Int),h⟩,b)=some (QR c d h b):=by
 refine ZH (fun z=>zI (zo z.1)) okPl fP (fun S z hz hS=> ?_) (x:=(c,⟨(d:Int),h⟩,b)) ⟨hc,d,hd,rfl⟩;obtain⟨c,⟨dp,h⟩,b⟩:=z;obtain⟨hc,d,hd,he⟩:=hz;have he:dp=(d:Int):=he;subst he;have hc:zI (zo c)<=big:=hc;have hzc:=Qm c;have hlen:=ZL Qw c.parts;show _=some (QR c ((d:Int).toNat) h b);rw[Lb,XV];unfold yB VD;have e1:decide (c.lead>4)= !decide (c.lead<=4):=by
  by_cases hh:c.lead<=4
  ·rw[Ha hh,Oa (by omega)];rfl
  ·rw[Oa hh,Ha (by omega)];rfl
 have e2:(w64 ((c.combs.length:Int)+1) != (c.parts.length:Int))= !decide (c.combs.length+1=c.parts.length):=by
  rw[zK (n:=big) (i:=c.combs.length) (by omega) (Sa _)];by_cases hh:c.combs.length+1=c.parts.length
  ·rw[Ha hh,hh];simp
  ·rw[Oa hh];simp;omega
 have e3:decide ((c.parts.length:Int)>64)= !decide (c.parts.length<=64):=Jf _ 64;have hcon:qB S (c.parts,⟨(d:Int),h⟩)=some (!c.parts.all fun x=>Qn x d h):=by
  unfold qB AJ;refine Oj (Kj c.parts (fun x=> !Qn x d h) (by omega) (fun i hi=> ?_) ?_) ((Ki _ _).trans (uo _ _))
  ·have hm:=ZW (f:=zT) (Ga hi);simp only[zY hi,Da,zS hi,za,Ba,lH,TN];rw[zAc (N:=zI (zo c)) hS (by omega) (by omega) hd];rfl
  ·simp only[zV,Ca]
 have hl: ∀p:Bool,Zc (fun(s1:Int)=>
    bif decide (s1<(c.combs.length:Int))then
     za (geti c.combs s1) fun y2=>
     bif bif decide ((y2.toNat:Int)<1)then true else decide ((y2.toNat:Int)>4)then
      some (LO.ret false)
     else
      some (LO.again (w64 (s1+1)))
    else
     some (LO.out ())) 0 (fun _=>some p)=some (c.combs.all mh&&p):=by
  intro p;refine(Z9 c.combs (fun b=>bif mh b then none else some false) () (fun i hi=> ?_) ?_).trans ?_
  ·simp only[zY hi,Da,zS hi,za,Ba,zK hi (show c.combs.length<=big by omega)];have g1:decide ((c.combs[i].toNat:Int)<1)= !decide (1<=c.combs[i].toNat):=by
    by_cases hh:1<=c.combs[i].toNat
    ·rw[Ha hh,Oa (by omega)];rfl
    ·rw[Oa hh,Ha (by omega)];rfl
   have g2:decide ((c.combs[i].toNat:Int)>4)= !decide (c.combs[i].toNat<=4):=Jf _ 4;rw[g1,g2];unfold mh;cases decide (1<=c.combs[i].toNat)<;>cases decide (c.combs[i].toNat<=4)<;>rfl
  ·simp only[zV,Ca]
  ·rw[Pg];cases c.combs.all mh<;>rfl
 simp only[hcon,za,Ba,e1,e2,e3,jd]at hl ⊢;rw[hl];cases (b==(c.lead != 0))<;>cases decide (c.lead<=4)<;>cases decide (c.combs.length+1=c.parts.length)<;>cases decide (c.parts.length<=64)<;>rfl
def fR(z:zg×zX×Bool):Bool:=QR z.1 z.2.1.deep.toNat z.2.1.has z.2.2
def okR(z:zg×zX×Bool):Prop:=zI (zo z.1)<=big/\ ∃d:Nat,d<=3/\z.2.1.deep=(d:Int)
theorem zKh{d:Nat}(hd:d<=3)(h:Bool)(k:Int):Jz (⟨(d:Int),h⟩,k)=some (bif d==3||h&&k==14 then(⟨(d:Int),h⟩,false)else(⟨((d+1:Nat):Int),h||k==14⟩,true)):=by
 unfold Jz;have e1:((d:Int)==3)=(d==3):=by
  by_cases hh:d=3
  ·subst hh;rfl
  ·rw[Ea.2 hh,Ea.2 (by omega)]
 simp only[e1];have e2:d≠3->w64 ((d:Int)+1)=((d+1:Nat):Int):=fun hh=>zK (n:=4) (by omega) (by decide);cases hb:(d==3)with
 |true=>rfl
 |false=> rw[e2 (by simpa using hb)];cases h<;>cases (k==14)<;>rfl
theorem valid_eq(a:VAnb):Pz a=some (anbS a):=by unfold Pz anbS NE;simp only[ge_iff_le];cases decide (-1000000000<=a.a)<;>cases decide (a.a<=1000000000)<;>cases decide (-1000000000<=a.b)<;>cases decide (a.b<=1000000000)<;>rfl
section
variable {S:zg×zX×Bool->Option Bool} {N:Nat} (hS: ∀z,okR z->zI (zo z.1)<N->S z=some (fR z)) (hN:N<=big)
include hS hN
theorem hSr{c:zg}{d:Nat}{h b:Bool}(hc:zI (zo c)<N)(hd:d<=3):S (c,⟨(d:Int),h⟩,b)=some (QR c d h b):=
 hS (c,⟨(d:Int),h⟩,b) ⟨by show zI (zo c)<=big;omega,d,hd,rfl⟩ hc
theorem zIS{x:zx}(hx:zI (Zd x)<=N){d:Nat}(hd:d<=3)(h:Bool):
  Pq S (x.list,⟨(d:Int),h⟩,x.kind)=some (!(d==3||h&&x.kind==14)&&x.list.all fun c=>QR c (d+1) (h||x.kind==14) (x.kind==14)):=by
 have hz:=Qk x;have hlen:=ZL qP x.list;unfold Pq;simp only[zKh hd,za,Ba];cases hp:(d==3||h&&x.kind==14)with
 |true=>rfl
 |false=>
  have hd3:d≠3:=by intro hc;rw[hc]at hp;cases hp
  simp only[Ca,Va,Ra,Ua];refine(Z9 x.list (fun c=>bif QR c (d+1) (h||x.kind==14) (x.kind==14)then none else some false) () (fun i hi=> ?_) ?_).trans ?_
  ·have hm:=ZW (f:=zo) (Ga hi);simp only[zY hi,Da,zS hi,Ba,Cz,zK hi (show x.list.length<=big by omega)];rw[hSr hS hN (by omega) (show d+1<=3 by omega)];simp only[Ba];cases QR x.list[i] (d+1) (h||x.kind==14) (x.kind==14)<;>rfl
  ·simp only[zV,Ca]
  ·rw[Pg];cases x.list.all fun c=>QR c (d+1) (h||x.kind==14) (x.kind==14)<;>rfl
theorem zHr{x:zx}(hx:zI (Zd x)<=N){d:Nat}(hd:d<=3)(h:Bool):Yu S (x,⟨(d:Int),h⟩)=some (bg x d h):=by
 have hz:=Qk x;have h400:decide ((x.value.length:Int)<=400)=decide (x.value.length<=400):=ym _ 400;rw[GM];unfold Yu Rq;simp only[za,Ba,Vt,zIS hS hN hx hd,kz (show x.name.length<=big by omega),PG (show x.name.length<=big by omega),OG _ (show x.value.length<=big by omega),h400,valid_eq,zM,ZJ,Sk,bne,ge_iff_le];generalize x.list.all (fun c=>QR c (d+1) (h||x.kind==14) (x.kind==14))=b1;generalize hb2:(d==3||h&&x.kind==14)=b2;unfold wm fD anb0 hasS Gn;generalize x.list.isEmpty=b3;generalize jf x.name=a1;generalize Gi x.name=a2;generalize QS x.value=a3;generalize decide (x.value.length<=400)=a4;generalize decide (x.op<=6)=a5;generalize (x.op==0)=a6;generalize (x.value==[])=a7;generalize (x.name==[])=a8;generalize (x.anb.a==0)=a9;generalize (x.anb.b==0)=a10;generalize anbS x.anb=a11;generalize x.fold=a12;generalize x.of_=a13;simp only[ic];clear hb2 h400 hz hx hS;by_cases k1:x.kind=1
 ·simp only[k1];cases a1<;>cases a6<;>cases a7<;>cases a9<;>cases a10<;>cases a12<;>cases a13<;>rfl
 by_cases k2:x.kind=2
 ·simp only[k2];cases a1<;>cases a6<;>cases a7<;>cases a9<;>cases a10<;>cases a12<;>cases a13<;>rfl
 by_cases k3:x.kind=3
 ·simp only[k3];cases a2<;>cases a3<;>cases a4<;>cases a5<;>cases a6<;>cases a7<;>cases a9<;>cases a10<;>cases a12<;>cases a13<;>rfl
 by_cases k9:x.kind=9
 ·simp only[k9];cases a6<;>cases a7<;>cases a8<;>cases a11<;>cases a12<;>cases a13<;>cases b1<;>cases b2<;>cases b3<;>rfl
 by_cases k10:x.kind=10
 ·simp only[k10];cases a6<;>cases a7<;>cases a8<;>cases a11<;>cases a12<;>cases a13<;>cases b1<;>cases b2<;>cases b3<;>rfl
 by_cases k11:x.kind=11
 ·simp only[k11];cases a6<;>cases a7<;>cases a8<;>cases a9<;>cases a10<;>cases a12<;>cases a13<;>cases b1<;>cases b2<;>cases b3<;>rfl
 by_cases k12:x.kind=12
 ·simp only[k12];cases a6<;>cases a7<;>cases a8<;>cases a9<;>cases a10<;>cases a12<;>cases a13<;>cases b1<;>cases b2<;>cases b3<;>rfl
 by_cases k13:x.kind=13
 ·simp only[k13];cases a6<;>cases a7<;>cases a8<;>cases a9<;>cases a10<;>cases a12<;>cases a13<;>cases b1<;>cases b2<;>cases b3<;>rfl
 by_cases k14:x.kind=14
 ·simp only[k14];cases a6<;>cases a7<;>cases a8<;>cases a9<;>cases a10<;>cases a12<;>cases a13<;>cases b1<;>cases b2<;>cases b3<;>rfl
 have d1:decide (4<=x.kind)=true\/decide (4<=x.kind)=false:=(Ub _);simp only[Ea.2 k1,Ea.2 k2,Ea.2 k3,Ea.2 k9,Ea.2 k10,Ea.2 k11,Ea.2 k12,Ea.2 k13,Ea.2 k14];have e11:(decide (11<=x.kind)&&decide (x.kind<=14))=false:=by
  rw[Hf];by_cases hh:11<=x.kind
  ·exact .inr (Oa (by omega))
  ·exact .inl (Oa hh)
 rw[e11];by_cases k4:x.kind=4
 ·simp only[k4];cases a6<;>cases a7<;>cases a8<;>cases a9<;>cases a10<;>cases a12<;>cases a13<;>cases b3<;>rfl
 by_cases k5:x.kind=5
 ·simp only[k5];cases a6<;>cases a7<;>cases a8<;>cases a9<;>cases a10<;>cases a12<;>cases a13<;>cases b3<;>rfl
 by_cases k6:x.kind=6
 ·simp only[k6];cases a6<;>cases a7<;>cases a8<;>cases a9<;>cases a10<;>cases a12<;>cases a13<;>cases b3<;>rfl
 by_cases k7:x.kind=7
 ·simp only[k7];cases a6<;>cases a7<;>cases a8<;>cases a9<;>cases a10<;>cases a12<;>cases a13<;>cases b3<;>rfl
 by_cases k8:x.kind=8
 ·simp only[k8];cases a6<;>cases a7<;>cases a8<;>cases a9<;>cases a10<;>cases a12<;>cases a13<;>cases b3<;>rfl
 have e4:(decide (4<=x.kind)&&decide (x.kind<=14))=false:=by
  rw[Hf];by_cases hh:4<=x.kind
  ·exact .inr (Oa (by omega))
  ·exact .inl (Oa hh)
 rw[e4];simp only[Ea.2 k4,Ea.2 k5,Ea.2 k6,Ea.2 k7,Ea.2 k8];rfl
end
section
variable {S:zg×zX×Bool->Option Bool} {N:Nat} (hS: ∀z,okR z->zI (zo z.1)<N->S z=some (fR z)) (hN:N<=big)
include hS hN
theorem zCR{c:zy}(hx:zI (zT c)<=N){d:Nat}(hd:d<=3)(h:Bool):xu S (c,⟨(d:Int),h⟩)=some (Qn c d h):=by
 have hz:=qA c;have hlen:=ZL Wi c.simples;have e64:decide ((c.simples.length:Int)>64)= !decide (c.simples.length<=64):=Jf _ 64;rw[XN];unfold xu RD tagS;have hl:Zc (fun(s2:Int)=>
    bif decide (s2<(c.simples.length:Int))then
     za (geti c.simples s2) fun y3=>
     za (Yu S ((⟨y3.kind,y3.name,y3.op,y3.value,y3.fold,y3.anb,y3.of_,y3.list⟩:zx),⟨(d:Int),h⟩)) fun y4=>
     bif !y4 then
      some (LO.ret false)
     else
      some (LO.again (w64 (s2+1)))
    else
     some (LO.out ())) 0 (fun _=>some true)=some (c.simples.all fun x=>bg x d h):=by
  refine(Z9 c.simples (fun x=>bif bg x d h then none else some false) () (fun i hi=> ?_) ?_).trans ?_
  ·have hm:=ZW (f:=Zd) (Ga hi);simp only[zY hi,Da,zS hi,za,Ba,Vt,zHr hS hN (show zI (Zd c.simples[i])<=N by omega) hd h,zK hi (show c.simples.length<=big by omega)];cases bg c.simples[i] d h<;>rfl
  ·simp only[zV,Ca]
  ·rw[Pg];cases c.simples.all fun x=>bg x d h<;>rfl
 simp only[PG (show c.tag.length<=big by omega),zM,za,Ba,e64,ZJ]at hl ⊢;rw[hl];cases c.tag==[]<;>cases c.tag==[42]<;>cases Gi c.tag<;>cases decide (c.simples.length<=64)<;>cases c.simples.isEmpty<;>rfl
end
theorem zL0{α β:Type}(p:α->Bool)(q:β->Bool): ∀(l:List α) (m:List β),m.length+1=l.length->
  ((∀i (h:i<l.length),p l[i]=true/\(∀(h':i - 1<m.length),0<i->q m[i - 1]=true))↔(l.all p=true/\m.all q=true)):=by
 intro l m hlm;simp only[Nb];constructor
 ·intro hh;refine⟨fun v hv=> ?_,fun v hv=> ?_⟩
  ·obtain⟨i,hi,rfl⟩:=Re hv;exact(hh i hi).1
  ·obtain⟨i,hi,rfl⟩:=Re hv;exact(hh (i+1) (by omega)).2 (by omega) (by omega)
 ·rintro⟨h1,h2⟩ i hi;exact⟨h1 _ (Ga hi),fun h' _=>h2 _ (Ga h')⟩
theorem zJy{c:zg}{d:Nat}{h b:Bool}(hc:zI (zo c)<=big)(hd:d<=3):Zp (c,⟨(d:Int),h⟩,b)=some (QR c d h b):=by
 refine ZH (fun z=>zI (zo z.1)) okR fR (fun S z hz hS=> ?_) (x:=(c,⟨(d:Int),h⟩,b)) ⟨hc,d,hd,rfl⟩;obtain⟨c,⟨dp,h⟩,b⟩:=z;obtain⟨hc,d,hd,he⟩:=hz;have he:dp=(d:Int):=he;subst he;have hc:zI (zo c)<=big:=hc;have hzc:=Qm c;have hlen:=ZL Qw c.parts;show _=some (QR c ((d:Int).toNat) h b);rw[Lb,XV];unfold bA VD;have e1:decide (c.lead>4)= !decide (c.lead<=4):=by
  by_cases hh:c.lead<=4
  ·rw[Ha hh,Oa (by omega)];rfl
  ·rw[Oa hh,Ha (by omega)];rfl
 have e3:decide ((c.parts.length:Int)>64)= !decide (c.parts.length<=64):=Jf _ 64;have e4:((c.lead != 0)==b)=(b==(c.lead != 0)):=by cases b<;>cases (c.lead != 0)<;>rfl
 simp only[e1,e3,e4,ZJ,jd];cases hp:c.parts with
 |nil=>simp
 |cons p ps=>
  rw[<-hp];have hne:c.parts.isEmpty=false:=by rw[hp];rfl
  have hpos:0<c.parts.length:=by rw[hp];simp
  have e2:((c.combs.length:Int) != w64 ((c.parts.length:Int) - 1))= !decide (c.combs.length+1=c.parts.length):=by
   have:w64 ((c.parts.length:Int) - 1)=((c.parts.length - 1:Nat):Int):=by rw[w64,Z6 (by omega) (by unfold big at hc;omega)];omega
   rw[this];by_cases hh:c.combs.length+1=c.parts.length
   ·rw[Ha hh];simp;omega
   ·rw[Oa hh];simp;omega
  rw[e2,hne];cases hlm:decide (c.combs.length+1=c.parts.length)with
  |false=>cases (b==(c.lead != 0))<;>cases decide (c.lead<=4)<;>cases decide (c.parts.length<=64)<;>rfl
  |true=>
   have hlm:=Fb hlm;have hl:Zc (fun(s1:Int)=>
    bif decide (s1<(c.parts.length:Int))then
     za (geti c.parts s1) fun y2=>
     za (xu S ((⟨y2.tag,y2.simples⟩:zy),⟨(d:Int),h⟩)) fun y3=>
     za (zA (decide (s1>0)&& !(!y3)) (geti c.combs (w64 (s1 - 1))) (default:UInt8)) fun y4=>
     za (zA (!(decide ((y4.toNat:Int)<1))&&(decide (s1>0)&& !(!y3))) (geti c.combs (w64 (s1 - 1))) (default:UInt8)) fun y5=>
     bif bif !y3 then true else bif decide (s1>0)then bif decide ((y4.toNat:Int)<1)then true else decide ((y5.toNat:Int)>4)else false then
      some (LO.ret false)
     else
      some (LO.again (w64 (s1+1)))
    else
     some (LO.out ())) 0 (fun _=>some true)=some (c.combs.all mh&&c.parts.all fun x=>Qn x d h):=by
    refine(Uu c.parts.length (fun i=>Qn (c.parts.getD i default) d h&&(i==0||mh (c.combs.getD (i - 1) 0))) false (fun i hi=> ?_) ?_).trans ?_
    ·have hm:=ZW (f:=zT) (Ga hi);have hgd:c.parts.getD i default=c.parts[i]:=by simp[hi]
     simp only[zY hi,Da,zS hi,za,Ba,TN,zCR (N:=zI (zo c)) hS hc (show zI (zT c.parts[i])<=zI (zo c) by omega) hd,zK hi (show c.parts.length<=big by omega),hgd];cases i with
     |zero=>cases Qn c.parts[0] d h<;>rfl
     |succ i=>
      have hi2:i<c.combs.length:=by omega
      have g0:decide (((i+1:Nat):Int)>0)=true:=Ha (by omega);have g3:w64 (((i+1:Nat):Int) - 1)=(i:Int):=by rw[w64,Z6 (by omega) (by unfold big at hc;omega)];omega
      have g4:c.combs.getD (i+1 - 1) 0=c.combs[i]:=by simp[hi2]
      have g1:decide ((c.combs[i].toNat:Int)<1)= !decide (1<=c.combs[i].toNat):=by
       by_cases hh:1<=c.combs[i].toNat
       ·rw[Ha hh,Oa (by omega)];rfl
       ·rw[Oa hh,Ha (by omega)];rfl
      have g2:decide ((c.combs[i].toNat:Int)>4)= !decide (c.combs[i].toNat<=4):=Jf _ 4;rw[g0,g3,g4,zS hi2];cases Qn c.parts[i+1] d h with
      |false=>rfl
      |true=> simp only[Va,Ra,Yb,Ua,Zt,Ba,Ca,Da,g1,zM,g2];unfold mh;cases h1:decide (1<=c.combs[i].toNat)<;>cases h2:decide (c.combs[i].toNat<=4)<;>simp[h2,g2]<;>omega
    ·simp only[zV,Ca]
    ·have:(List.range c.parts.length).all (fun i=>Qn (c.parts.getD i default) d h&&(i==0||mh (c.combs.getD (i - 1) 0)))=(c.combs.all mh&&c.parts.all fun x=>Qn x d h):=by
      rw[Tf,Fa,and_comm,<-zL0 _ _ _ _ hlm,Nb];constructor
      ·intro hh i hi;have:=hh i (Mc.2 hi);rw[Fa,Ud]at this;refine⟨by have h1:=this.1;simpa [hi] using h1,fun h' h0=> ?_⟩;rcases this.2 with h2|h2
       ·rw[Bc]at h2;omega
       ·simpa [h'] using h2
      ·intro hh i hi;have hi:=Mc.1 hi;obtain⟨h1,h2⟩:=hh i hi;rw[Fa,Ud];refine⟨by simpa [hi] using h1,?_⟩;by_cases h0:i=0
       ·exact .inl (by simp[h0])
       ·have h':i - 1<c.combs.length:=by omega
        exact .inr (by have:=h2 h' (by omega);simpa [h'] using this)
     rw[this];cases (c.combs.all mh&&c.parts.all fun x=>Qn x d h)<;>rfl
   simp only[jd]at hl;rw[hl];cases (b==(c.lead != 0))<;>cases decide (c.lead<=4)<;>cases decide (c.parts.length<=64)<;>rfl
end Go.Lv.VT
