/- Lemmas on conditions: what the texts of the older seat had. -/
import Derived.Test.YtjjdimihokbknaaGreatDoorXa
set_option linter.unusedSimpArgs false
set_option linter.unusedVariables false
namespace Go.Lv.VT
theorem Qg(x:Zd):zG (Zu x)=3+x.name.length+zL Zp x.value:=by simp only[Zu,zG,bPV,zL];omega
theorem wh(x:zo):zG (zD x)=4+x.name.length+zG (Zu x.decl)+zL zD x.list - 1+1:=by rw[Qg];rw[WM];simp only[zG,bPV,zL];omega
theorem Rh(x:Zd):1<=zG (Zu x):=by have:=Qg x;omega
theorem yj{α:Type}(l:List α):decide ((l.length:Int)>0)= !l.isEmpty:=by
 cases l with
 |nil=>rfl
 |cons a l=>exact Ma (by simp only[Db];omega)
theorem Lx(x:zo):1<=zG (zD x):=by have:=wh x;omega
theorem Wn{a b:Nat}(h:a+b<=big):w64 ((a:Int)+(b:Int))=((a+b:Nat):Int):=by rw[w64,qz (by omega) (by unfold big at h;omega)];omega
theorem sD{d:Zd}(h:zG (Zu d)<=big):szL d.value<=big/\d.name.length<=big:=by have:=Qg d;have:=Mh d.value;constructor<;>omega
theorem UN{d:Zd}(h:zG (Zu d)<=big):Pk d=some (bif Ve d then 0 else 8):=JX (sD h).1 (sD h).2
theorem KO{d:Zd}(h:zG (Zu d)<=big):yl d=some (bif Ve d then 0 else 8):=tX (sD h).1 (sD h).2
theorem ZA(c:zo):(⟨c.kind,c.name,c.num,c.decl,c.list⟩:zo)=c:=by cases c;rfl
def xg(d:Zd):Bool:=d.name==[]&&(d.value.isEmpty&& !d.important)
def Af(c:zo):Bool:=c.name==[]&&(c.num==0&&xg c.decl)
theorem jk(c:zo):Qe c=some (Af c):=by unfold Qe Af xg;rw[ZE];cases c.name==[]<;>cases c.num==0<;>cases c.decl.name==[]<;>cases c.decl.value.isEmpty<;>rfl
theorem yM(d:Zd):Ep d=some (xg d):=by unfold Ep xg;rw[ZE];cases d.name==[]<;>cases d.value.isEmpty<;>rfl
theorem Hq(c:zo):QS c=some (Af c):=by unfold QS Af;simp only[yM,zP,za,Aa];cases c.name==[]<;>cases c.num==0<;>rfl
def keyS(x:Str):Bool:=x==[]||(x==[97,110,100]||(x==[111,114]||(x==[110,111,116]||x==[111,110,108,121])))
def medS(x:Str):Bool:= !keyS x&&(decide (x.length<=64)&&(lowS x==x&&QG x))
theorem zot(l:List Str)(x:Str)(h:l.length<=big):slices_Contains_string (l,x)=some (l.any fun v=>x==v):=by
 unfold slices_Contains_string slices_Index_string;refine Fj (Gi l (fun v=>x==v) h (fun i hi=> ?_) ?_) (Ii _ _)
 ·simp only[zO hi,Da,zN hi,za,Aa]
 ·simp only[zR,Ca]
theorem zKR(x:Str):(([[],[97,110,100],[111,114],[110,111,116],[111,110,108,121]]:List Str).any fun v=>x==v)=keyS x:=by simp only[Ue,List.any_nil,Xc];rfl
theorem vZ{x:Str}(h:x.length<=big):Cu x=some (medS x):=by
 have e:decide ((x.length:Int)<=64)=decide (x.length<=64):=gm _ 64;have e1:decide (Lib.indexByte x (0:Int).toNat.toUInt8<0)=QG x:=by rw[VR,Nr,Vd]
 have hcs:=zot [[],[97,110,100],[111,114],[110,111,116],[111,110,108,121]] x (by decide);unfold Cu medS;simp only[hcs,zKR,Ot h,Ou,zP,za,Aa,e];cases keyS x<;>cases decide (x.length<=64)<;>try rfl
 simp only[Ra,Da,Sa];cases lowS x==x
 ·rfl
 ·exact congrArg some e1
theorem I4{x:Str}(h:x.length<=big):Iu x=some (medS x):=by
 have e:decide ((x.length:Int)>64)= !decide (x.length<=64):=Df _ 64;have ec:=Ey x (lowS x);unfold Iu medS;simp only[Bt h,zP,za,Aa,e];have hl:zZ (fun(s1:Int)=>bif decide (s1<(x.length:Int))then
    (geti x s1).bind fun y2=>bif (y2.toNat:Int)==0 then some (LO.ret false)else some (LO.again (w64 (s1+1)))
   else some (LO.out ()):Int->Option (LO (Int) (Unit) _)) 0 (fun _=>some true)=some (QG x):=by
  refine(ZZ x (fun b=>bif (!(b==0))then none else some false) () (fun i hi=> ?_) ?_).trans ?_
  ·simp only[zO hi,Da,zN hi,Aa,byte_zero,zH hi h];cases x[i]==0<;>rfl
  ·simp only[zR,Ca]
  ·rw[Q9];unfold QG;cases x.all (fun b=> !(b==0))<;>rfl
 rw[hl];unfold keyS;cases x==[]<;>cases decide (x.length<=64)<;>cases x==[97,110,100]<;>cases x==[111,114]<;>cases x==[110,111,116]<;>cases x==[111,110,108,121]<;>
  first|rfl|(simp only[Da,Ca,Xc,Ra,Ta,Sa,ec];cases lowS x==x<;>rfl)
def isN(n:Int):Bool:=decide (-1000000000000<=n)&&decide (n<=1000000000000)
theorem zD2(n:Int):Es n=some (isN n):=by unfold Es isN;show some (bif decide (-1000000000000<=n)then _ else _)=_;cases decide (-1000000000000<=n)<;>rfl
theorem oZ(n:Int):Au n=some (bif isN n then 0 else 8):=by
 unfold Au BG;have e1:decide (n< -1000000000000)= !decide (-1000000000000<=n):=by have:=eD n (-1000000000000);show _= !decide (n>=_);rw[this,Vd]
 have e2:decide (n>1000000000000)= !decide (n<=1000000000000):=by have:=eD 1000000000000 n;show decide (1000000000000<n)= !decide (1000000000000>=n);rw[this,Vd]
 have:zZ (fun(s1:Int)=>
   bif decide (s1<(([n]:List Int).length:Int))then
    za (geti [n] s1) fun y2=>
    bif bif decide (y2<(-1000000000000))then true else decide (y2>1000000000000)then
     some (LO.ret (8:Int))
    else
     some (LO.again (w64 (s1+1)))
   else
    some (LO.out ()):Int->Option (LO (Int) (Unit) Int)) 0 (fun o3=>some (0:Int))=some (bif isN n then 0 else 8):=by
  refine(ZZ [n] (fun n=>bif isN n then none else some 8) () (fun i hi=> ?_) ?_).trans ?_
  ·obtain rfl:i=0:=by simpa using hi
   simp only[zO hi,Da,zN hi,za,Aa,List.getElem_cons_zero,e1,e2,isN];cases decide (-1000000000000<=n)<;>cases decide (n<=1000000000000)<;>rfl
  ·simp only[zR,Ca]
  ·rw[Q9];simp only[List.all_cons,List.all_nil,Rb];cases isN n<;>rfl
 rw[this];rfl
def vg(first:Bool)(y:zo):Bool:=
 y.list.isEmpty&&(xg y.decl&&((first&&(y.kind==4&&(y.num==0&&medS y.name)))||((y.kind==5||y.kind==6)&&(y.name==[]&&(decide (0<=y.num)&&isN y.num)))))
def Mr(l:List zo):Bool:=(List.range l.length).all fun i=>vg (i==0) (l.getD i default)
def lh(c:zo):Bool:=c.kind==1&&(Af c&&(!c.list.isEmpty&&Mr c.list))
def Ym(c:zo):Bool:=match c.list with
 |[]=>false
 |y::_=>y.kind==4
theorem zJB(i:Nat):((i:Int)==0)=(i==0):=by rw[Pf,Cc,Cc];omega
theorem zLa(i:Nat):decide ((i:Int)>0)= !(i==0):=by
 cases i with
 |zero=>rfl
 |succ i=>exact Ma (by omega)
theorem zG7{c:zo}(h:zG (zD c)<=big)(i:Nat)(R:Type)(A:Option R)(k:Int->Option R):
  (zW (X:=Int) (
       za (zA (!(decide ((c.list.length:Int)>0))) (Qe (⟨c.kind,[],0,c.decl,c.list⟩:zo)) (default:Bool)) fun y4=>
       bif bif decide ((c.list.length:Int)>0)then true else !y4 then
        A.map LX.ret
       else
        bif c.kind==4 then
         za (zA (!(bif decide ((i:Int)>0)then true else c.num != 0)) (Cu c.name) (default:Bool)) fun y5=>
         bif bif bif decide ((i:Int)>0)then true else c.num != 0 then true else !y5 then
          A.map LX.ret
         else
          some (LX.out (i:Int))
        else
         zW (X:=Bool) (
           bif c.kind==5 then
            some (LX.out (c.kind==5))
           else
            some (LX.out (c.kind==6))) fun j6=>
         bif j6 then
          za (zA (!(bif !(c.name==[])then true else decide (c.num<0))) (Au c.num) (default:Int)) fun y7=>
          bif bif bif !(c.name==[])then true else decide (c.num<0)then true else y7 != 0 then
           A.map LX.ret
          else
           some (LX.out (i:Int))
         else
          A.map LX.ret) k)=bif vg (i==0) c then k (i:Int)else A:=by
 have hz:=wh c;have hn:c.name.length<=big:=by have:=Rh c.decl;omega
 have hA:zW (A.map LX.ret) k=A:=by cases A<;>rfl
 have e1:decide (c.num<0)= !decide (0<=c.num):=by have:=eD c.num 0;show _= !decide (c.num>=0);rw[this,Vd]
 have e2:((bif isN c.num then(0:Int)else 8) != 0)= !isN c.num:=by cases isN c.num<;>rfl
 have eb:Af ⟨c.kind,[],0,c.decl,c.list⟩=xg c.decl:=rfl;unfold vg;simp only[jk,eb,yj,zP,za,Aa,vZ hn,oZ,zLa i,e1,bne];cases c.list.isEmpty with
 |false=>exact hA
 |true=>
  cases xg c.decl with
  |false=>exact hA
  |true=>
   simp only[Ta,Ra,Da,Ca,Sa];by_cases k4:c.kind=4
   ·simp only[k4,Int.reduceBEq,Da,Xc,Ac,Sa];cases (i==0)<;>cases c.num==0<;>cases medS c.name<;>first|rfl|exact hA
   ·have b4:=Ea.2 k4;simp only[b4,Ca,Ac,Bc,Oc];by_cases k5:c.kind=5
    ·simp only[k5,Int.reduceBEq,Da,zX,Me,Sa];cases c.name==[]<;>cases decide (0<=c.num)<;>cases isN c.num<;>first|rfl|exact hA
    ·have b5:=Ea.2 k5;simp only[b5,Ca,zX,Oc];cases c.kind==6
     ·exact hA
     ·cases c.name==[]<;>cases decide (0<=c.num)<;>cases isN c.num<;>first|rfl|exact hA
theorem qA{c y:zo}(h:y∈c.list):zG (zD y)<zG (zD c):=by have hz:=wh c;have:=ZF (f:=zD) h;have:=Rh c.decl;omega
theorem qB(c:zo):c.list.length<=zG (zD c):=by have hz:=wh c;have:=Zy Lx c.list;have:=Rh c.decl;omega
theorem Wt(c:zo):zG (Zu c.decl)<=zG (zD c):=by have hz:=wh c;omega
theorem YM{c:zo}(h:zG (zD c)<=big):Lt c=some (lh c):=by
 have hlen:=qB c;unfold Lt lh;simp only[ZA,jk,zP,za,Aa,ZE,bne];cases c.kind==1 with
 |false=>rfl
 |true=>
  cases Af c with
  |false=>rfl
  |true=>
   cases c.list.isEmpty with
   |true=>rfl
   |false=>
    simp only[Ta,Ra,Da,Ca,Sa];refine(yt c.list.length (fun i=>vg (i==0) (c.list.getD i default)) false (fun i hi=> ?_) ?_).trans ?_
    ·have hm:=qA (Ga hi);have hgd:c.list.getD i default=c.list[i]:=by simp[hi]
     have:=zG7 (c:=c.list[i]) (by omega) i (LO Int Unit Bool) (some (LO.ret false)) fun j=>some (.again (w64 (j+1)));simp only[jk,Hq,zP,za,Aa,bne,Ee]at this;simp only[zO hi,Da,zN hi,Aa,hgd];refine this.trans ?_;rw[zH hi (by omega)];cases vg (i==0) c.list[i]<;>rfl
    ·simp only[zR,Ca]
    ·unfold Mr;cases (List.range c.list.length).all fun i=>vg (i==0) (c.list.getD i default)<;>rfl
theorem zJb{c:zo}(h:zG (zD c)<=big)(i:Nat)(R:Type)(A:Option R)(k:Int->Option R):
  (zW (X:=Int) (
       za (zA (!(decide ((c.list.length:Int)>0))) (Ep c.decl) (default:Bool)) fun y4=>
       bif bif decide ((c.list.length:Int)>0)then true else !y4 then
        A.map LX.ret
       else
        za (zA (bif bif (i:Int)==0 then c.kind==4 else false then c.num==0 else false) (Iu c.name) (default:Bool)) fun y5=>
        bif bif bif bif (i:Int)==0 then c.kind==4 else false then c.num==0 else false then y5 else false then
         some (LX.out (i:Int))
        else
         za (zA (!(bif bif bif c.kind != 5 then c.kind != 6 else false then true else !(c.name==[])then true else decide (c.num<0))) (Es c.num) (default:Bool)) fun y6=>
         bif bif bif bif bif c.kind != 5 then c.kind != 6 else false then true else !(c.name==[])then true else decide (c.num<0)then true else !y6 then
          A.map LX.ret
         else
          some (LX.out (i:Int))) k)=bif vg (i==0) c then k (i:Int)else A:=by
 have hz:=wh c;have hn:c.name.length<=big:=by have:=Rh c.decl;omega
 have hA:zW (A.map LX.ret) k=A:=by cases A<;>rfl
 have e1:decide (c.num<0)= !decide (0<=c.num):=by have:=eD c.num 0;show _= !decide (c.num>=0);rw[this,Vd]
 unfold vg;simp only[yM,yj,zP,za,Aa,I4 hn,zD2,zJB i,e1,bne];cases c.list.isEmpty with
 |false=>exact hA
 |true=>
  cases xg c.decl with
  |false=>exact hA
  |true=>
   simp only[Ta,Ra,Da,Ca,Sa];by_cases k4:c.kind=4
   ·simp only[k4,Int.reduceBEq,Da,Xc,Ac,Sa,Ra,xe];cases (i==0)<;>cases c.num==0<;>cases medS c.name<;>first|rfl|exact hA
   ·have b4:=Ea.2 k4;have hc:(bif bif (i==0)then false else false then c.num==0 else false)=false:=by cases (i==0)<;>rfl
    simp only[b4,hc,Ca,Ac,Bc,Oc];cases c.kind==5<;>cases c.kind==6<;>cases c.name==[]<;>cases decide (0<=c.num)<;>cases isN c.num<;>first|rfl|exact hA
theorem bL{c:zo}(h:zG (zD c)<=big):Dt c=some (lh c,lh c&&Ym c):=by
 have hlen:=qB c;unfold Dt lh;simp only[ZA,Hq,zP,za,Aa,ZE,bne];cases c.kind==1 with
 |false=>rfl
 |true=>
  cases Af c with
  |false=>rfl
  |true=>
   cases he:c.list.isEmpty with
   |true=>rfl
   |false=>
    simp only[Ta,Ra,Da,Ca,Sa];refine(yt c.list.length (fun i=>vg (i==0) (c.list.getD i default)) (false,false) (fun i hi=> ?_) ?_).trans ?_
    ·have hm:=qA (Ga hi);have hgd:c.list.getD i default=c.list[i]:=by simp[hi]
     have:=zJb (c:=c.list[i]) (by omega) i (LO Int Unit (Bool×Bool)) (some (LO.ret (false,false))) fun j=>some (.again (w64 (j+1)));simp only[jk,Hq,zP,za,Aa,bne,Ee]at this;simp only[zO hi,Da,zN hi,Aa,hgd];refine this.trans ?_;rw[zH hi (by omega)];cases vg (i==0) c.list[i]<;>rfl
    ·simp only[zR,Ca]
    ·unfold Mr Ym;cases hl:c.list with
     |nil=>rw[hl]at he;cases he
     |cons y r=> have:geti (y::r) 0=some y:=rfl;simp only[this,Aa];cases (List.range (y::r).length).all fun i=>vg (i==0) ((y::r).getD i default)<;>rfl
theorem dW(c:zo):Mt c=some (Ym c):=by
 unfold Mt Ym;cases c.list with
 |nil=>rfl
 |cons y r=> have e1:decide (((y::r).length:Int)>0)=true:=Ma (by simp only[Db];omega);have e2:geti (y::r) 0=some y:=rfl;simp only[e1,e2,Zm,za,Aa,Da]
def Og(c:zo):Bool:=bif c.kind==3 then Af c&&(match c.list with
 |[y]=>lh y&&Ym y
 |_=>false)else lh c
theorem lJ{α:Type}(y z:α)(r:List α):(((y::z::r).length:Int)==1)=false:=Ea.2 (by simp only[Db];omega)
theorem zBG{c:zo}(h:zG (zD c)<=big):Vx c=some (Og c):=by
 unfold Vx Og;simp only[ZA,jk,za,Aa,YM h,dW];cases c.kind==3 with
 |false=>rfl
 |true=>
  simp only[Da];cases Af c with
  |false=>rfl
  |true=>
   cases hl:c.list with
   |nil=>rfl
   |cons y r=>
    cases r with
    |nil=>
     have hm:=qA (c:=c) (y:=y) (by rw[hl];exact Lb);have e2:geti [y] 0=some y:=rfl;have e3:(([y]:List zo).length:Int)==1:=rfl;simp only[e2,e3,Da,Zm,Aa,YM (show zG (zD y)<=big by omega),Sa];cases lh y
     ·rfl
     ·simp only[Zm,Aa,Da,Sa]
    |cons z r=> simp only[lJ,Da,qi,Aa,Ca,Bc]
theorem mY{c:zo}(h:zG (zD c)<=big):Fu c=some (Og c):=by
 unfold Fu Og;simp only[ZA,Hq,za,Aa,bL h,bne];cases c.kind==3 with
 |false=>rfl
 |true=>
  simp only[Da];cases Af c with
  |false=>rfl
  |true=>
   cases hl:c.list with
   |nil=>rfl
   |cons y r=>
    cases r with
    |nil=>
     have hm:=qA (c:=c) (y:=y) (by rw[hl];exact Lb);have e2:geti [y] 0=some y:=rfl;have e3:(([y]:List zo).length:Int)==1:=rfl;simp only[e2,e3,Ca,Ta,Aa,bL (show zG (zD y)<=big by omega),Sa];cases lh y<;>cases Ym y<;>rfl
    |cons z r=> simp only[lJ,Ta,Ra,Ca,Da,Bc]
def si(c:zo):Bool:=Af c&&((c.kind==1&&c.list.isEmpty)||(c.kind==2&&(!c.list.isEmpty&&(decide (c.list.length<=64)&&c.list.all Og))))
theorem bW{l:List zo}(hl:l.length<=big)(h: ∀c∈l,zG (zD c)<=big):qX l=some (!l.all Og):=by
 unfold qX vH;refine Fj (Gi l (fun c=> !Og c) hl (fun i hi=> ?_) ?_) ((Ii _ _).trans (Jo _ _))
 ·have:NC l[i]=some (!Og l[i]):=by unfold NC;simp only[ZA,zBG (h _ (Ga hi)),za,Aa]
  simp only[zO hi,Da,zN hi,za,Aa,ZA,this]
 ·simp only[zR,Ca]
theorem zoq{c:zo}(h:zG (zD c)<=big):jB c=some (bif si c then 0 else 8):=by
 have hlen:=qB c;have e:decide ((c.list.length:Int)<=64)=decide (c.list.length<=64):=gm _ 64;unfold jB si;simp only[ZA,jk,bW (show c.list.length<=big by omega) (fun y hy=>by have:=qA hy;omega),zP,za,Aa,yj,ZE,e];have h12:c.kind==1->c.kind==2->False:=fun a b=>by rw[Cc]at a b;omega
 cases Af c with
 |false=>rfl
 |true=> cases c.kind==1<;>cases c.kind==2<;>cases c.list.isEmpty<;>cases decide (c.list.length<=64)<;>cases c.list.all Og<;>rfl
theorem J4{c:zo}(h:zG (zD c)<=big):Yz c=some (si c):=by
 have hlen:=qB c;have e:decide ((c.list.length:Int)>64)= !decide (c.list.length<=64):=Df _ 64;unfold Yz si;simp only[ZA,Hq,za,Aa,ut,ZE,e,bne];cases Af c with
 |false=>rfl
 |true=>
  simp only[Ta,Ca,Sa];by_cases k1:c.kind=1
  ·simp only[k1,Int.reduceBEq,Da,Sa,Ac,Xc]
  ·have b1:=Ea.2 k1;simp only[b1,Ca,Ac,Oc];have hl:zZ (fun(s2:Int)=>
      bif decide (s2<(c.list.length:Int))then
       (geti c.list s2).bind fun y3=>
       (Fu y3).bind fun y4=>
       bif !y4 then
        some (LO.ret false)
       else
        some (LO.again (w64 (s2+1)))
      else
       some (LO.out ()):Int->Option (LO (Int) (Unit) _)) 0 (fun _=>some true)=some (c.list.all Og):=by
    refine(ZZ c.list (fun v=>bif Og v then none else some false) () (fun i hi=> ?_) ?_).trans ?_
    ·have hm:=qA (Ga hi);simp only[zO hi,Da,zN hi,Aa,mY (show zG (zD c.list[i])<=big by omega),zH hi (show c.list.length<=big by omega)];cases Og c.list[i]<;>rfl
    ·simp only[zR,Ca]
    ·rw[Q9];cases c.list.all Og<;>rfl
   rw[hl];cases c.kind==2<;>cases c.list.isEmpty<;>cases decide (c.list.length<=64)<;>rfl
theorem ni{n:Nat}(h:n<=big):w64 ((n:Int)+1)=((n+1:Nat):Int):=by rw[w64,qz (by omega) (by unfold big at h;omega)];omega
theorem DK{n:Nat}(h:n<=big):w64 (1+(n:Int))=((n+1:Nat):Int):=by rw[w64,qz (by omega) (by unfold big at h;omega)];omega
theorem Jk{α:Type}(f:α->Nat): ∀{l:List α} {i:Nat} (h:i<l.length),((l.take (i+1)).map f).sum=((l.take i).map f).sum+f l[i]
 |[],_,h=>by cases h
 |v::l,0,_=>by simp
 |v::l,i+1,h=>by simp only[yc,Ub,Wd,List.getElem_cons_succ];rw[Jk f (l:=l) (i:=i) (by simpa using h)];omega
theorem Du{α:Type}(f:α->Nat): ∀(l:List α) (i:Nat),((l.take i).map f).sum<=(l.map f).sum
 |[],_=>by simp
 |v::l,0=>by simp
 |v::l,i+1=>by simp only[yc,Ub,Wd];have:=Du f l i;omega
theorem Sr{α:Type}(f:α->Nat): ∀{l:List α} {i:Nat} (h:i<l.length),mx f (l.take (i+1))=max (mx f (l.take i)) (f l[i])
 |[],_,h=>by cases h
 |v::l,0,_=>by simp[mx]
 |v::l,i+1,h=>by simp only[yc,mx,List.getElem_cons_succ];rw[Sr f (l:=l) (i:=i) (by simpa using h)];omega
theorem Ro{α:Type}(p:α->Bool): ∀{l:List α} {i:Nat} (h:i<l.length),(l.take (i+1)).all p=((l.take i).all p&&p l[i])
 |[],_,h=>by cases h
 |v::l,0,_=>by simp
 |v::l,i+1,h=>by simp only[yc,List.all_cons,List.getElem_cons_succ];rw[Ro p (l:=l) (i:=i) (by simpa using h),Eg]
theorem zJ0{α:Type}{p:α->Bool}{l:List α}{i:Nat}(h:i<l.length)(hp:p l[i]=false):l.all p=false:=by rw[List.all_eq_false];exact⟨l[i],Ga h,by rw[hp];simp⟩
theorem zJt(l:List ze):Pi (l,[])=some l.isEmpty:=by
 refine Zx (fun _=>0) (fun x:List ze×List ze=>x.2=[]) (fun x=>x.1.isEmpty) (fun S x hx _=> ?_) (x:=(l,[])) rfl;obtain⟨l,m⟩:=x;obtain rfl:m=[]:=hx;unfold Lu;cases l with
 |nil=>
  refine(ZZ ([]:List ze) (fun _=>none) () (fun i hi=>by cases hi) ?_).trans rfl;simp only[Nf,zR,Ca]
 |cons v l=> have:(((v::l).length:Int) != (([]:List ze).length:Int))=true:=Ef.2 (by simp only[Db,Nf];omega);simp only[this,Da];rfl
mutual
def sizC:zo->Nat
 |⟨_,_,_,_,l⟩=>1+Vh l
def Vh:List zo->Nat
 |[]=>0
 |c::r=>sizC c+Vh r
end
theorem IU(l:List zo):Vh l=(l.map sizC).sum:=by
 induction l with
 |nil=>rw[Vh];rfl
 |cons c l ih=>rw[Vh,ih];rfl
theorem XJ(c:zo):sizC c=1+(c.list.map sizC).sum:=by obtain⟨k,n,m,d,l⟩:=c;rw[sizC,IU]
theorem zJv: ∀l:List zo,Vh l<=zL zD l:=by
 have key: ∀(n:Nat) (l:List zo),zL zD l<n->Vh l<=zL zD l:=by
  intro n
  induction n with
  |zero=>intro l h;omega
  |succ n ih=>
   intro l
   induction l with
   |nil=>intro _;rw[Vh];exact Sb _
   |cons v l ihl=> intro h;rw[rf]at h ⊢;rw[Vh,XJ,<-IU];have hz:=wh v;have hd:=Rh v.decl;have h1:=ih v.list (by omega);have h2:=ihl (by omega);omega
 exact fun l=>key _ l (Nat.lt_succ_self _)
theorem pR(c:zo):sizC c<=zG (zD c):=by have:=zJv [c];rw[Vh,Vh,rf,fQ]at this;omega
theorem BN{c:zo}{m:Nat}(h:zG (zD c)<=big)(hm:m<=big):
  ∃r:Nat,qW (c,(m:Int))=some (r:Int)/\r<=sizC c/\(sizC c<=m->r=sizC c)/\(m<sizC c->m<r):=by
 have key: ∃y:Int,qW (c,(m:Int))=some y/\ ∃r:Nat,y=(r:Int)/\r<=sizC c/\ ∀m':Nat,(m:Int)=(m':Int)->(sizC c<=m'->r=sizC c)/\(m'<sizC c->m'<r):=by
  refine Ck P5 (fun x:zo×Int=>zG (zD x.1)) (fun x=>zG (zD x.1)<=big/\ ∃m:Nat,x.2=(m:Int)/\m<=big)
   (fun x (y:Int)=> ∃r:Nat,y=(r:Int)/\r<=sizC x.1/\ ∀m':Nat,x.2=(m':Int)->(sizC x.1<=m'->r=sizC x.1)/\(m'<sizC x.1->m'<r)) (fun S x hx hS=> ?_) (x:=(c,(m:Int))) ⟨h,m,rfl,hm⟩
  obtain⟨c,n⟩:=x;obtain⟨hc,m,hn,hm⟩:=hx;have hn:n=(m:Int):=hn;have hc:zG (zD c)<=big:=hc;subst hn;have hlen:=qB c;have hsz:=pR c;have he:=XJ c;unfold Aq;have hw: ∀a:Nat,a<=big->w64 ((a:Int)+0)=(a:Int):=fun a ha=>by rw[w64,qz (by omega) (by unfold big at ha;omega)];omega
  refine Ls (A:=Nat) c.list.length (fun i a=>((a:Int),(i:Int))) (fun i a=>a<=1+((c.list.take i).map sizC).sum/\(1+((c.list.take i).map sizC).sum<=m->a=1+((c.list.take i).map sizC).sum)/\(m<1+((c.list.take i).map sizC).sum->m<a)) _ (a0:=1) rfl (by simp) (fun i a hi hI=> ?_) (fun a hI=> .inl ?_)
  ·obtain⟨i1,i2,i3⟩:=hI;have ht:=Du sizC c.list i;have ht1:=Du sizC c.list (i+1);rw[Jk sizC hi]at ht1;have hmm:=qA (Ga hi);by_cases ham:a<=m
   ·have ha:a=1+((c.list.take i).map sizC).sum:=i2 (by omega);have e1:decide ((a:Int)<=(m:Int))=true:=Ma (by omega);have hw2:w64 ((m:Int) - (a:Int))=((m - a:Nat):Int):=by rw[w64,qz (by omega) (by unfold big at hm;omega)];omega
    obtain⟨y,hy1,r,hy2,hy3,hy4⟩:=hS (c.list[i],((m - a:Nat):Int)) ⟨by show zG (zD c.list[i])<=big;omega,m - a,rfl,by omega⟩ hmm;have hy3:r<=sizC c.list[i]:=hy3;obtain⟨hy5,hy6⟩:=hy4 (m - a) rfl;have hy5:sizC c.list[i]<=m - a->r=sizC c.list[i]:=hy5;have hy6:m - a<sizC c.list[i]->m - a<r:=hy6;have hw3:w64 ((a:Int)+(r:Int))=((a+r:Nat):Int):=Wn (by omega);refine .inl ⟨a+r,?_,?_,?_,?_⟩
    ·simp only[zO hi,e1,Da,zN hi,za,Aa,ZA,hw2,hy1,hy2,hw3,zH hi (show c.list.length<=big by omega)]
    ·rw[Jk sizC hi];omega
    ·rw[Jk sizC hi];omega
    ·rw[Jk sizC hi];omega
   ·have e1:decide ((a:Int)<=(m:Int))=false:=Na (by omega);refine .inr (.inr ⟨(a:Int),?_,(a:Int),rfl,a,rfl,?_,fun m' hm'=>⟨fun h=> ?_,fun h=> ?_⟩⟩)
    ·simp only[zO hi,e1,Da,Ca]
    ·show a<=sizC c;omega
    ·have hm':(m:Int)=(m':Int):=hm';have h:sizC c<=m':=h;show a=sizC c;omega
    ·have hm':(m:Int)=(m':Int):=hm';show m'<a;omega
  ·rw[Ke]at hI;obtain⟨i1,i2,i3⟩:=hI;refine⟨(a:Int),?_,(a:Int),rfl,a,rfl,?_,fun m' hm'=>⟨fun h=> ?_,fun h=> ?_⟩⟩
   ·simp only[zR,Ca]
   ·show a<=sizC c;omega
   ·have hm':(m:Int)=(m':Int):=hm';have h:sizC c<=m':=h;show a=sizC c;omega
   ·have hm':(m:Int)=(m':Int):=hm';have h:m'<sizC c:=h;show m'<a;omega
 obtain⟨y,h1,r,rfl,h2,h3⟩:=key;exact⟨r,h1,h2,h3 m rfl⟩
def yf(c:zo):Bool:=c.kind==7||c.kind==8
mutual
def ae:zo->Nat
 |⟨k,_,_,d,l⟩=>bif k==7 then 1+QL d.value else bif k==8 then 1 else av l
def av:List zo->Nat
 |[]=>0
 |c::r=>max ((bif yf c then 0 else 1)+ae c) (av r)
end
def Kg(c:zo):Nat:=(bif yf c then 0 else 1)+ae c
theorem zGz(l:List zo):av l=mx Kg l:=by
 induction l with
 |nil=>rw[av];rfl
 |cons c l ih=>rw[av,ih];rfl
theorem ww(c:zo):ae c=bif c.kind==7 then 1+QL c.decl.value else bif c.kind==8 then 1 else mx Kg c.list:=by obtain⟨k,n,m,d,l⟩:=c;rw[ae,zGz]
theorem uw: ∀c:zo,ae c<=zG (zD c):=by
 have key: ∀(n:Nat) (c:zo),zG (zD c)<n->ae c<=zG (zD c):=by
  intro n
  induction n with
  |zero=>intro c h;omega
  |succ n ih=>
   intro c h;have hz:=wh c;have hd:=Qg c.decl;rw[ww];cases c.kind==7 with
   |true=> have h1:=Ij c.decl.value;have h2:=Mh c.decl.value;simp only[Da];omega
   |false=>
    cases c.kind==8 with
    |true=>simp only[Da,Ca];omega
    |false=>
     simp only[Ca];have: ∀l:List zo,(∀y∈l,y∈c.list)->mx Kg l<=1+zL zD l:=by
      intro l
      induction l with
      |nil=>intro _;exact Sb _
      |cons y l ihl=>
       intro hl;have h1:=ihl fun z hz=>hl z (Nb _ hz);have h2:=qA (hl y Lb);have h3:=ih y (by omega);have h4:Kg y<=1+ae y:=by unfold Kg;cases yf y<;>simp only[Da,Ca]<;>omega
       rw[mx,rf];omega
     have:=this c.list fun _ h=>h;omega
 exact fun c=>key _ c (Nat.lt_succ_self _)
theorem LM{c:zo}(h:zG (zD c)<=big):Oi c=some (ae c:Int):=by
 refine Zx (fun c=>zG (zD c)) (fun c=>zG (zD c)<=big) (fun c=>(ae c:Int)) (fun S c hc hS=> ?_) h;have hz:=wh c;have hd:=Qg c.decl;have hlen:=qB c;have hv:=Mh c.decl.value;unfold az;rw[ww];cases h7:c.kind==7 with
 |true=> have h1:=Ij c.decl.value;simp only[Da,jw (show szL c.decl.value<=big by omega),za,Aa,DK (show QL c.decl.value<=big by omega)];rw[Ed]
 |false=>
  cases h8:c.kind==8 with
  |true=>rfl
  |false=>
   simp only[Ca];refine(Ej c.list Kg (fun a i=>((a:Int),(i:Int))) (fun a=>(a:Int)) (a0:=0) rfl (fun i a hi=> ?_) (fun a=> ?_)).trans ?_
   ·have hm:=qA (Ga hi);have hs:=hS c.list[i] (by omega) hm;have hst:=uw c.list[i];simp only[zO hi,Da,zN hi,za,Aa,ZA,hs,zH hi (show c.list.length<=big by omega)];have hlf:(bif c.list[i].kind==7 then true else c.list[i].kind==8)=yf c.list[i]:=by unfold yf;cases c.list[i].kind==7<;>rfl
    rw[hlf];have hst':Kg c.list[i]=(bif yf c.list[i]then 0 else 1)+ae c.list[i]:=rfl;cases hlc:yf c.list[i]with
    |true=>
     rw[hlc,Da,Dc]at hst';have hw:w64 (0+(ae c.list[i]:Int))=(Kg c.list[i]:Int):=by rw[w64,qz (by omega) (by unfold big at hc;omega)];omega
     simp only[Da,zX,hw,yg]
    |false=>
     rw[hlc,Ca]at hst';have hw:w64 (1+(ae c.list[i]:Int))=(Kg c.list[i]:Int):=by rw[w64,qz (by omega) (by unfold big at hc;omega)];omega
     simp only[Ca,zX,hw,yg]
   ·simp only[zR,Ca]
   ·rw[Nat.zero_max]
mutual
def supC:zo->Bool
 |⟨k,n,m,d,l⟩=>bif k==7 then l.isEmpty&&(n==[]&&(m==0&&Ve d))else bif k==8 then l.isEmpty&&Af ⟨k,n,m,d,l⟩else
  (k==3||(k==1||k==2))&&(Af ⟨k,n,m,d,l⟩&&((bif k==3 then l.length==1 else decide (2<=l.length))&&uu l))
def uu:List zo->Bool
 |[]=>true
 |c::r=>supC c&&uu r
end
theorem zIh(l:List zo):uu l=l.all supC:=by
 induction l with
 |nil=>rw[uu];rfl
 |cons c l ih=>rw[uu,ih];rfl
theorem VJ(c:zo):supC c=bif c.kind==7 then c.list.isEmpty&&(c.name==[]&&(c.num==0&&Ve c.decl))else bif c.kind==8 then c.list.isEmpty&&Af c else
  (c.kind==3||(c.kind==1||c.kind==2))&&(Af c&&((bif c.kind==3 then c.list.length==1 else decide (2<=c.list.length))&&c.list.all supC)):=by
 obtain⟨k,n,m,d,l⟩:=c;rw[supC,zIh]
theorem tQ{α:Type}(l:List α):decide ((l.length:Int)<2)= !decide (2<=l.length):=by
 by_cases h:2<=l.length
 ·rw[Ma h,Na (by omega)];rfl
 ·rw[Na h,Ma (by omega)];rfl
theorem XT{α:Type}(l:List α):((l.length:Int)==1)=(l.length==1):=by rw[Pf,Cc,Cc];omega
theorem zpl{c:zo}(h:zG (zD c)<=big):Z9 c=some (supC c):=by
 refine Zx (fun c=>zG (zD c)) (fun c=>zG (zD c)<=big) (fun c=>supC c) (fun S c hc hS=> ?_) h;have hlen:=qB c;have hd:=Wt c;unfold aC;rw[VJ];simp only[ZA,Hq,KO (show zG (Zu c.decl)<=big by omega),ZE,zP,za,Aa];cases h7:c.kind==7 with
 |true=>
  simp only[Da];cases c.name==[]<;>cases c.num==0<;>cases c.list.isEmpty<;>cases Ve c.decl<;>rfl
 |false=>
  cases h8:c.kind==8 with
  |true=>
   simp only[Da,Ca];cases Af c<;>cases c.list.isEmpty<;>rfl
  |false=>
   simp only[Ca];cases h3:c.kind==3 with
   |true=>
    simp only[Da,Me,Sa,XT];cases Af c with
    |false=>rfl
    |true=>
     cases hl:c.list with
     |nil=>rfl
     |cons y r=>
      cases r with
      |nil=> have hm:=qA (c:=c) (y:=y) (by rw[hl];exact Lb);have e2:geti [y] 0=some y:=rfl;have e3:(([y]:List zo).length==1)=true:=rfl;simp only[e2,e3,Da,Zm,Aa,hS y (show zG (zD y)<=big by omega) hm,Sa,List.all_cons,List.all_nil,Rb]
      |cons z r=>
       have e3:((y::z::r).length==1)=false:=by simp
       simp only[e3,Da,qi,Aa,Ca,Ac,Bc]
   |false=>
    have hj: ∀{R:Type} (k:Bool->Option R),zW (X:=Bool) (bif c.kind==1 then some (LX.out (c.kind==1))else some (LX.out (c.kind==2))) k=k (c.kind==1||c.kind==2):=by intro R k;cases c.kind==1<;>rfl
    simp only[Ca,Oc];rw[hj];cases (c.kind==1||c.kind==2)with
    |false=>rfl
    |true=>
     simp only[Da,tQ,Sa];have hl:zZ (fun(s8:Int)=>
        bif decide (s8<(c.list.length:Int))then
         (geti c.list s8).bind fun y9=>
         (S y9).bind fun y10=>
         bif !y10 then
          some (LO.ret false)
         else
          some (LO.again (w64 (s8+1)))
        else
         some (LO.out ()):Int->Option (LO (Int) (Unit) _)) 0 (fun _=>some true)=some (c.list.all supC):=by
      refine(ZZ c.list (fun v=>bif supC v then none else some false) () (fun i hi=> ?_) ?_).trans ?_
      ·have hm:=qA (Ga hi);simp only[zO hi,Da,zN hi,Aa,hS _ (show zG (zD c.list[i])<=big by omega) hm,zH hi (show c.list.length<=big by omega)];cases supC c.list[i]<;>rfl
      ·simp only[zR,Ca]
      ·rw[Q9];cases c.list.all supC<;>rfl
     rw[hl];cases Af c<;>cases decide (2<=c.list.length)<;>rfl
theorem zBH(c:zo):Ht c=some (yf c):=by unfold Ht yf;cases c.kind==7<;>rfl
theorem gW{c:zo}{m:Nat}(h:zG (zD c)<=big)(hm:m<=1500):
  ∃y:(Int×Bool)×Int,Uh (c,(m:Int))=some y/\y.1.2=(supC c&&decide (m+sizC c<=1500))/\(y.1.2=true->y.1.1=(ae c:Int)/\y.2=((m+sizC c:Nat):Int)):=by
 have key: ∃y:(Int×Bool)×Int,Uh (c,(m:Int))=some y/\ ∀m':Nat,(m:Int)=(m':Int)->y.1.2=(supC c&&decide (m'+sizC c<=1500))/\(y.1.2=true->y.1.1=(ae c:Int)/\y.2=((m'+sizC c:Nat):Int)):=by
  refine Ck lZ (fun x:zo×Int=>zG (zD x.1)) (fun x=>zG (zD x.1)<=big/\ ∃m:Nat,x.2=(m:Int)/\m<=1500)
   (fun x (y:(Int×Bool)×Int)=> ∀m':Nat,x.2=(m':Int)->y.1.2=(supC x.1&&decide (m'+sizC x.1<=1500))/\(y.1.2=true->y.1.1=(ae x.1:Int)/\y.2=((m'+sizC x.1:Nat):Int))) (fun S x hx hS=> ?_) (x:=(c,(m:Int))) ⟨h,m,rfl,hm⟩
  obtain⟨c,n⟩:=x;obtain⟨hc,m,hn,hm⟩:=hx;have hn:n=(m:Int):=hn;have hc:zG (zD c)<=big:=hc;subst hn;have hlen:=qB c;have hd:=Wt c;have hsz:=pR c;have he:=XJ c;have hv:=Mh c.decl.value;have hzd:=Qg c.decl;have fin: ∀(d:Int) (b:Bool) (n:Int),b=(supC c&&decide (m+sizC c<=1500))->(b=true->d=(ae c:Int)/\n=((m+sizC c:Nat):Int))->
    ∀m':Nat,(m:Int)=(m':Int)->b=(supC c&&decide (m'+sizC c<=1500))/\(b=true->d=(ae c:Int)/\n=((m'+sizC c:Nat):Int)):=by
   intro d b n h1 h2 m' hm';obtain rfl:m=m':=by omega
   exact⟨h1,h2⟩
  have hw:w64 ((m:Int)+1)=((m+1:Nat):Int):=ni (by unfold big;omega);unfold Bp;simp only[hw,ZA];by_cases hm1:m+1>1500
  ·have e1:decide (((m+1:Nat):Int)>1500)=true:=Ma (by omega);simp only[e1,Da];have e2:decide (m+sizC c<=1500)=false:=Na (by omega);exact⟨_,rfl,fin _ _ _ (by rw[e2,Bc]) (fun h=>by cases h)⟩
  have e1:decide (((m+1:Nat):Int)>1500)=false:=Na (by omega);simp only[e1,Ca];have hs:=VJ c;have hdp:=ww c;cases h7:c.kind==7 with
  |true=>
   rw[h7]at hs hdp;simp only[Da]at hs hdp ⊢;rw[YF (show szL c.decl.value<=big by omega),UN (show zG (Zu c.decl)<=big by omega)];simp only[za,Aa,ZE,zP];refine⟨_,rfl,fin _ _ _ ?_ ?_⟩
   ·rw[hs];have hde:Ve c.decl=(Ve c.decl&&(errS c.decl.value==0)):=by unfold Ve;cases Gh c.decl.name<;>cases errS c.decl.value==0<;>simp
    cases hle:c.list.isEmpty with
    |false=>rfl
    |true=>
     have hl:c.list=[]:=Md.1 hle;rw[hl]at he;have e2:decide (m+sizC c<=1500)=true:=Ma (by rw[he];simp;omega);rw[e2];by_cases her:errS c.decl.value=0
     ·rw[Ya her];cases c.name==[]<;>cases c.num==0<;>cases Ve c.decl<;>rfl
     ·rw[ja her];have her':=Ea.2 her;rw[her',Bc]at hde;rw[hde];simp only[her'];cases c.name==[]<;>cases c.num==0<;>rfl
   ·intro hf;have her:errS c.decl.value=0:=by
     by_cases her:errS c.decl.value=0
     ·exact her
     ·rw[ja her]at hf;have her':=Ea.2 her;simp only[her']at hf;revert hf;cases c.list.isEmpty<;>cases c.name==[]<;>cases c.num==0<;>intro h<;>cases h
    have hl:c.list=[]:=by
     cases hle:c.list.isEmpty with
     |true=>exact Md.1 hle
     |false=>rw[hle]at hf;cases hf
    have h1:=Ij c.decl.value;rw[Ya her,hdp];rw[hl]at he;simp only[ni (show QL c.decl.value<=big by omega)];refine⟨by rw[Ed],?_⟩;rw[he];rfl
  |false=>
   rw[h7]at hs hdp;simp only[Ca]at hs hdp ⊢;cases h8:c.kind==8 with
   |true=>
    rw[h8]at hs hdp;simp only[Da]at hs hdp ⊢;simp only[za,Aa,ZE,zP,jk];refine⟨_,rfl,fin _ _ _ ?_ ?_⟩
    ·rw[hs];cases hle:c.list.isEmpty with
     |false=>rfl
     |true=> have hl:c.list=[]:=Md.1 hle;rw[hl]at he;have e2:decide (m+sizC c<=1500)=true:=Ma (by rw[he];simp;omega);rw[e2];cases Af c<;>rfl
    ·intro hf;have hl:c.list=[]:=by
      cases hle:c.list.isEmpty with
      |true=>exact Md.1 hle
      |false=>rw[hle]at hf;cases hf
     rw[hl]at he;rw[hdp,he];exact⟨rfl,rfl⟩
   |false=>
    rw[h8]at hs hdp;simp only[Ca]at hs hdp ⊢;have hj: ∀{R:Type} (k:Bool->Option R),zW (X:=Bool) (bif c.kind==3 then some (LX.out (c.kind==3))else bif c.kind==1 then some (LX.out (c.kind==1))else some (LX.out (c.kind==2))) k=k (c.kind==3||(c.kind==1||c.kind==2)):=by intro R k;cases c.kind==3<;>cases c.kind==1<;>rfl
    rw[hj];cases hk:(c.kind==3||(c.kind==1||c.kind==2))with
    |false=>
     rw[hk]at hs;exact⟨_,rfl,fin _ _ _ (by rw[hs];rfl) (fun h=>by cases h)⟩
    |true=>
     rw[hk]at hs;simp only[Da,Sa]at hs ⊢;have hg:(bif bif !Af c then true else bif c.kind==3 then(c.list.length:Int) != 1 else false then true else bif c.kind != 3 then decide ((c.list.length:Int)<2)else false)= !(Af c&&(bif c.kind==3 then c.list.length==1 else decide (2<=c.list.length))):=by rw[tQ,bne,bne,XT];cases Af c<;>cases c.kind==3<;>cases c.list.length==1<;>rfl
     simp only[jk,za,Aa,hg];cases hb:(Af c&&(bif c.kind==3 then c.list.length==1 else decide (2<=c.list.length)))with
     |false=>
      rw[<-Eg,hb]at hs;exact⟨_,rfl,fin _ _ _ (by rw[hs];rfl) (fun h=>by cases h)⟩
     |true=>
      rw[<-Eg,hb,Sa]at hs;simp only[Ta,Ca];refine Ls (A:=Nat×Nat) c.list.length (fun i a=>(((a.1:Int),(i:Int)),(a.2:Int))) (fun i a=>a.2=m+1+((c.list.take i).map sizC).sum/\a.2<=1500/\a.1=mx Kg (c.list.take i)/\(c.list.take i).all supC=true) _ (a0:=(0,m+1)) rfl ⟨by simp,by show m+1<=1500;omega,by simp[mx],by simp⟩ (fun i a hi hI=> ?_) (fun a hI=> .inl ?_)
      ·obtain⟨i1,i2,i3,i4⟩:=hI;have ht:=Du sizC c.list (i+1);rw[Jk sizC hi]at ht;have hmm:=qA (Ga hi);obtain⟨y,hy1,hy2⟩:=hS (c.list[i],(a.2:Int)) ⟨by show zG (zD c.list[i])<=big;omega,a.2,rfl,i2⟩ hmm;obtain⟨hy3,hy4⟩:=hy2 a.2 rfl;have hy3:y.1.2=(supC c.list[i]&&decide (a.2+sizC c.list[i]<=1500)):=hy3;simp only[zO hi,Da,zN hi,Aa,ZA,hy1];cases hf:y.1.2 with
       |false=>
        refine .inr (.inl ⟨_,rfl,fin _ _ _ ?_ (fun h=>by cases h)⟩);rw[hf]at hy3;cases hsi:supC c.list[i]with
        |false=>rw[hs,zJ0 hi hsi];rfl
        |true=> rw[hsi,Sa]at hy3;have:=of_decide_eq_false hy3.symm;have e2:decide (m+sizC c<=1500)=false:=Na (by omega);rw[e2,Bc]
       |true=>
        obtain⟨hy5,hy6⟩:=hy4 hf;rw[hf]at hy3;have hy3:=hy3.symm;rw[Fa]at hy3;have hle:=Jb hy3.2;have hdl:=uw c.list[i];have hy5:y.1.1=(ae c.list[i]:Int):=hy5;have hy6:y.2=((a.2+sizC c.list[i]:Nat):Int):=hy6;refine .inl ⟨(max a.1 (Kg c.list[i]),a.2+sizC c.list[i]),?_,?_,hle,?_,?_⟩
        ·have hst:Kg c.list[i]=(bif yf c.list[i]then 0 else 1)+ae c.list[i]:=rfl;have hw2:=ni (n:=ae c.list[i]) (by omega);simp only[Ta,Ca,zBH,Aa,hy5,hy6,hw2,zH hi (show c.list.length<=big by omega)];cases hlf:yf c.list[i]with
         |true=> rw[hlf]at hst;rw[Da,Dc]at hst;simp only[Ta,Ca,zX,hst,yg]
         |false=> rw[hlf]at hst;rw[Ca,Ed]at hst;simp only[Ra,Da,zX,hst,yg]
        ·rw[Jk sizC hi,i1];show _+_+_+_=_;omega
        ·rw[Sr Kg hi,i3]
        ·rw[Ro supC hi,i4,hy3.1];rfl
      ·rw[Ke]at hI;obtain⟨i1,i2,i3,i4⟩:=hI;refine⟨((a.1:Int),(a.2:Int)),?_,_,rfl,fin _ _ _ ?_ (fun _=>⟨?_,?_⟩)⟩
       ·simp only[zR,Ca]
       ·have e2:decide (m+sizC c<=1500)=true:=Ma (by omega);rw[hs,i4,e2];rfl
       ·rw[hdp,i3]
       ·show(a.2:Int)=_;rw[i1,he];congr 1;omega
 obtain⟨y,h1,h2⟩:=key;exact⟨y,h1,h2 m rfl⟩
def Ik(c:zo):Bool:=supC c&&(decide (sizC c<=1500)&&decide (ae c<=16))
theorem zk5{c:zo}(h:zG (zD c)<=big):uC c=some (bif Ik c then 0 else 8):=by
 obtain⟨y,h1,h2,h3⟩:=gW (m:=0) h (by omega);unfold uC Ik;replace h1:Uh (c,0)=some y:=h1;simp only[ZA,h1,za,Aa];rw[Dc]at h2;cases hf:y.1.2 with
 |false=> rw[hf]at h2;rw[<-Eg,<-h2];rfl
 |true=> have e:decide ((ae c:Int)>16)= !decide (ae c<=16):=Df _ 16;rw[(h3 hf).1,e];rw[hf]at h2;rw[<-Eg,<-h2];cases decide (ae c<=16)<;>rfl
theorem zn0{c:zo}(h:zG (zD c)<=big):DC c=some (Ik c):=by
 obtain⟨r,h1,h2,h3,h4⟩:=BN (m:=1500) h (by unfold big;omega);replace h1:qW (c,1500)=some (r:Int):=h1;have e:decide ((ae c:Int)<=16)=decide (ae c<=16):=gm _ 16;have e2:decide ((r:Int)<=1500)=decide (sizC c<=1500):=by
  by_cases hs:sizC c<=1500
  ·rw[Ma hs,h3 hs,Ma (by omega)]
  ·have:=h4 (by omega);rw[Na hs,Na (by omega)]
 unfold DC Ik;simp only[ZA,h1,za,Aa,LM h,zpl h,zP,e2];cases decide (sizC c<=1500)with
 |false=>simp
 |true=>simp only[Da,e];cases decide (ae c<=16)<;>cases supC c<;>rfl
--< pulled
--p TG
theorem TG(l:Str)(m:Int):Em (l,m)=some (decide ((l.length:Int)>m)|| !QG l):=by
 unfold Em;simp only[Ou,zP,za,Aa];cases decide ((l.length:Int)>m)with
 |true=>rfl
 |false=>exact congrArg some (Nr l)
--p YG
theorem YG(l:Str):QU l=some (af l):=by unfold QU af;simp only[TG,zP,za,Aa];have:decide ((l.length:Int)>64)= !decide (l.length<=64):=Df _ 64;rw[this];cases l==[]<;>cases decide (l.length<=64)<;>cases QG l<;>rfl
--p LG
theorem LG{l:Str}(m:Int)(h:l.length<=big):Gu (l,m)=some (QG l&&decide ((l.length:Int)<=m)):=by
 unfold Gu;refine(ZZ l (fun b=>bif (!(b==0))then none else some false) () (fun i hi=> ?_) ?_).trans ?_
 ·simp only[zO hi,Da,zN hi,za,Aa,byte_zero,zH hi h];cases l[i]==0<;>rfl
 ·simp only[zR,Ca]
 ·rw[Q9];show _=some (QG l&&_);unfold QG;cases l.all (fun b=> !(b==0))<;>rfl
--p Uz
theorem Uz{l:Str}(h:l.length<=big):ul l=some (af l):=by
 unfold ul af;simp only[LG _ h,zP,za,Aa];have:decide ((l.length:Int)<=64)=decide (l.length<=64):=by
  by_cases h:l.length<=64
  ·rw[Ma h,Ma (by omega)]
  ·rw[Na h,Na (by omega)]
 rw[this];cases l==[]<;>cases decide (l.length<=64)<;>cases QG l<;>rfl
--p XG
theorem XG{l:Str}(h:l.length<=big):Dq l=some (Di l):=by unfold Dq Di;simp only[YG,Ot h,zP,za,Aa];cases af l<;>rfl
--p MG
theorem MG{l:Str}(h:l.length<=big):Hu l=some (Di l):=by
 unfold Hu Di;simp only[Uz h,Bt h,zP,za,Aa];cases af l
 ·rfl
 ·exact congrArg some (Ey l (lowS l))
--p kL
theorem kL(l:Str):Cq l=some (!af l):=by unfold Cq af;simp only[Ou,zP,za,Aa];have:decide ((l.length:Int)>64)= !decide (l.length<=64):=Df _ 64;rw[this];cases l==[]<;>cases decide (l.length<=64)<;>first|rfl|exact congrArg some (Nr l)
--p rU
theorem rU{l:List Str}(h:l.length<=big):qN l=some (idxS (fun v=> !af v) l):=by
 unfold qN;refine Gi l _ h (fun i hi=> ?_) ?_
 ·simp only[zO hi,Da,zN hi,za,Aa,kL]
 ·simp only[zR,Ca]
--p OM
theorem OM{l:List Str}(h:l.length<=big):qm l=some (!l.all af):=by unfold qm;exact Fj (rU h) ((Ii _ _).trans (Jo _ _))
--p gK
theorem gK{l:List Str}(h:l.length<=big):Sz l=some (jf l):=by
 unfold Sz jf;have e1:decide ((l.length:Int)>0)= !l.isEmpty:=by
  cases l with
  |nil=>rfl
  |cons a l=>exact Ma (by simp only[Db];omega)
 have e2:decide ((l.length:Int)<=16)=decide (l.length<=16):=gm _ 16;simp only[OM h,zP,za,Aa,e1,e2];cases l.isEmpty<;>cases decide (l.length<=16)<;>cases l.all af<;>rfl
--p vK
theorem vK{l:List Str}(h:l.length<=big)(hv: ∀v∈l,v.length<=big):Yp l=some (jf l):=by
 unfold Yp jf;have e2:decide ((l.length:Int)>16)= !decide (l.length<=16):=Df _ 16;rw[ut,e2];have e3: ∀(k:Unit->Option Bool),k ()=some true->zZ (fun(s1:Int)=>
    bif decide (s1<(l.length:Int))then
     za (geti l s1) fun y2=>
     za (ul y2) fun y3=>
     bif !y3 then
      some (LO.ret false)
     else
      some (LO.again (w64 (s1+1)))
    else
     some (LO.out ())) 0 k=some (l.all af):=by
  intro k hk;refine(ZZ l (fun b=>bif af b then none else some false) () (fun i hi=> ?_) ?_).trans ?_
  ·simp only[zO hi,Da,zN hi,za,Aa,Uz (hv _ (Ga hi)),zH hi h];cases af l[i]<;>rfl
  ·simp only[zR,Ca]
  ·rw[Q9];cases l.all af
   ·rfl
   ·exact hk
 rw[e3 _ rfl];cases l.isEmpty<;>cases decide (l.length<=16)<;>rfl
--p Qb
theorem Qb(x:zf):zG (zm x)=3+zL zU x.parts+x.combs.length:=by rw[U9];simp only[zG,bPV,gQ,zL];omega
--p qE
theorem qE(x:zI):zG (zU x)=2+x.tag.length+zL z8 x.simples:=by rw[zp1];simp only[zG,bPV,zL];omega
--p qZ
theorem qZ(x:zw):zG (z8 x)=9+x.name.length+x.value.length+zL zm x.list:=by rw[D6];simp only[zG,bPV,zL];omega
--p ER
theorem ER(x:List Str):zG [.sl (x.map fun y=>[.str y])]=1+zL (fun y=>[.str y]) x:=by simp only[zG,bPV,zL];omega
--p ng
theorem ng(x:zK):zG (zF x)=5+zL zm x.selectors+zL Zu x.decls+zG (zD x.cond)+zL (fun l=>[.sl (l.map fun y=>[.str y])]) x.names+zL zF x.rules:=by rw[GX,wh,Qg];simp only[zG,bPV,zL];omega
--p qD
theorem qD(x:zf):1<=zG (zm x):=by have:=Qb x;omega
--p Qk
theorem Qk(x:zI):1<=zG (zU x):=by have:=qE x;omega
--p Ti
theorem Ti(x:zw):1<=zG (z8 x):=by have:=qZ x;omega
--p Ki
theorem Ki(x:zK):1<=zG (zF x):=by have:=ng x;omega
--p uf
def uf(c:zo):Bool:=c.kind==0&&(c.list.isEmpty&&Af c)
--p iK
theorem iK(c:zo):Rj c=some (uf c):=by unfold Rj uf Af xg;rw[ZE,ZE];cases c.kind==0<;>cases c.name==[]<;>cases c.num==0<;>cases c.list.isEmpty<;>cases c.decl.name==[]<;>cases c.decl.value.isEmpty<;>rfl
--p uU
theorem uU(c:zo):mo c=some (uf c):=by
 unfold mo;have:QJ (c,(⟨0,[],0,(⟨[],[],false⟩:Zd),[]⟩:zo))=some (uf c):=by
  refine Zx (fun _=>0) (fun x:zo×zo=>x.2=(⟨0,[],0,(⟨[],[],false⟩:Zd),[]⟩:zo)) (fun x=>uf x.1) (fun S x hx _=> ?_) (x:=(c,_)) rfl;obtain⟨c,m⟩:=x;obtain rfl:m=_:=hx;have e5:Vk (c.decl,(⟨[],[],false⟩:Zd))=some (xg c.decl):=by unfold Vk xg;simp only[zJt,zP,za,Aa];cases c.decl.name==[]<;>cases c.decl.important<;>cases c.decl.value.isEmpty<;>rfl
  have el:((c.list.length:Int) != (([]:List zo).length:Int))= !c.list.isEmpty:=by rw[bne,Nf,Int.natCast_zero,ZE]
  unfold Ju uf Af;simp only[e5,el,zP,za,Aa,bne];cases c.kind==0 with
  |false=>rfl
  |true=>
   cases hl:c.list with
   |cons y r=>cases c.name==[]<;>cases c.num==0<;>cases xg c.decl<;>rfl
   |nil=>
    cases c.name==[]<;>cases c.num==0<;>cases xg c.decl<;>try rfl
    refine(ZZ ([]:List zo) (fun _=>none) () (fun i hi=>by cases hi) ?_).trans rfl;simp only[Nf,zR,Ca]
 simp only[ZA,this,za,Aa]
--p fK
theorem fK{c:zo}(h:zG (zD c)<=big): ∃y:Int,Mi c=some y/\(supC c=true->y=(ae c:Int)):=by
 refine Ck K5 (fun c=>zG (zD c)) (fun c=>zG (zD c)<=big) (fun c (y:Int)=>supC c=true->y=(ae c:Int)) (fun S c hc hS=> ?_) h;have hlen:=qB c;have hv:=Mh c.decl.value;have hz:=wh c;have hzd:=Qg c.decl;have hs:=VJ c;have hdp:=ww c;unfold Wp;cases h7:c.kind==7 with
 |true=>
  rw[h7]at hs hdp;simp only[Da]at hs hdp ⊢;rw[YF (show szL c.decl.value<=big by omega)];refine⟨_,rfl,fun h=> ?_⟩;have her:errS c.decl.value=0:=by rw[hs]at h;unfold Ve at h;simp only[Fa,Cc]at h;exact h.2.2.2.2.1
  have h1:=Ij c.decl.value;rw[Ya her,hdp,ni (show QL c.decl.value<=big by omega),Ed]
 |false=>
  rw[h7]at hs hdp;simp only[Ca]at hs hdp ⊢;cases h8:c.kind==8 with
  |true=> rw[h8]at hdp;exact⟨_,rfl,fun _=>by rw[hdp];rfl⟩
  |false=>
   rw[h8]at hs hdp;simp only[Ca]at hs hdp ⊢;refine Ls (A:=Int) c.list.length (fun i a=>(a,(i:Int))) (fun i a=>supC c=true->a=(mx Kg (c.list.take i):Int)) _ (a0:=0) rfl (fun _=>by simp[mx]) (fun i a hi hI=> .inl ?_) (fun a hI=> .inl ?_)
   ·have hm:=qA (Ga hi);obtain⟨y,hy1,hy2⟩:=hS c.list[i] (by omega) hm;have hlf:(bif c.list[i].kind != 7 then c.list[i].kind != 8 else false)= !yf c.list[i]:=by unfold yf;rw[bne,bne];cases c.list[i].kind==7<;>rfl
    refine⟨if(bif yf c.list[i]then y else w64 (y+1))>a then(bif yf c.list[i]then y else w64 (y+1))else a,?_,fun h=> ?_⟩
    ·simp only[zO hi,Da,zN hi,za,Aa,ZA,hy1,hlf,zH hi (show c.list.length<=big by omega)];cases yf c.list[i]<;>rfl
    ·have ha:=hI h;have hall:c.list.all supC=true:=by rw[hs]at h;simp only[Fa]at h;exact h.2.2.2
     have hy:=hy2 (Ib.1 hall _ (Ga hi));have hst:Kg c.list[i]=(bif yf c.list[i]then 0 else 1)+ae c.list[i]:=rfl;have hdl:=uw c.list[i];rw[Sr Kg hi,ha,hy];cases hlf2:yf c.list[i]with
     |true=> rw[hlf2,Da,Dc]at hst;simp only[Da,<-hst,yg]
     |false=> rw[hlf2,Ca,Ed]at hst;simp only[Ca,ni (show ae c.list[i]<=big by omega),<-hst,yg]
   ·refine⟨a,?_,a,rfl,fun h=> ?_⟩
    ·simp only[zR,Ca]
    ·rw[hI h,Ke,hdp]
--> pulled
theorem uy(c:zf):(⟨c.lead,c.parts,c.combs⟩:zf)=c:=by cases c;rfl
theorem lL(c:zI):(⟨c.tag,c.simples⟩:zI)=c:=by cases c;rfl
theorem Ut(c:zw):(⟨c.kind,c.name,c.op,c.value,c.fold,c.anb,c.of_,c.list⟩:zw)=c:=by cases c;rfl
def nD(n:Int):Bool:=decide (-1000000000<=n)&&decide (n<=1000000000)
def anbS(a:VAnb):Bool:=nD a.a&&nD a.b
def anb0(a:VAnb):Bool:=a.a==0&&a.b==0
def XD(x:zw):Bool:=x.op==0&&(x.value==[]&&(!x.fold&&(anb0 x.anb&& !x.of_)))
def Rm(x:zw):Bool:=
 bif x.kind==1||x.kind==2 then af x.name&&XD x
 else bif x.kind==3 then Di x.name&&(decide (x.op<=6)&&((QG x.value&&decide (x.value.length<=400))&&((!(x.op==0)||x.value==[]&& !x.fold)&&(anb0 x.anb&& !x.of_))))
 else bif x.kind==9||x.kind==10 then anbS x.anb&&(x.name==[]&&(x.op==0&&(x.value==[]&& !x.fold)))
 else(decide (4<=x.kind)&&decide (x.kind<=14))&&(x.name==[]&&XD x)
def hasS(x:zw):Bool:=bif x.kind==9||x.kind==10 then x.of_ else decide (11<=x.kind)&&decide (x.kind<=14)
def Rn(x:zw):Bool:=x.kind==11||x.kind==12
def Yh(b:UInt8):Bool:=decide (1<=b.toNat)&&decide (b.toNat<=4)
def tagS(t:Str):Bool:=t==[]||(t==[42]||Di t)
def GD(c:zI):Bool:=tagS c.tag&&((!(c.tag==[])|| !c.simples.isEmpty)&&decide (c.simples.length<=64))
def KD(c:zf)(b:Bool):Bool:=(b==(c.lead != 0))&&(decide (c.lead<=4)&&(decide (c.combs.length+1=c.parts.length)&&(decide (c.parts.length<=64)&&c.combs.all Yh)))
mutual
def QF:zf->Nat->Bool->Bool->Bool
 |⟨lead,parts,combs⟩,d,h,b=>KD ⟨lead,parts,combs⟩ b&&Uv parts d h
def Uv:List zI->Nat->Bool->Bool
 |[],_,_=>true
 |c::r,d,h=>Qd c d h&&Uv r d h
def Qd:zI->Nat->Bool->Bool
 |⟨tag,simples⟩,d,h=>GD ⟨tag,simples⟩&&mr simples d h
def mr:List zw->Nat->Bool->Bool
 |[],_,_=>true
 |x::r,d,h=>Yg x d h&&mr r d h
def Yg:zw->Nat->Bool->Bool
 |⟨kind,name,op,value,fold,anb,of_,list⟩,d,h=>Rm ⟨kind,name,op,value,fold,anb,of_,list⟩&&
   (bif hasS ⟨kind,name,op,value,fold,anb,of_,list⟩then
    !(d==3||h&&kind==14)&&((Rn ⟨kind,name,op,value,fold,anb,of_,list⟩|| !list.isEmpty)&&Fv list (d+1) (h||kind==14) (kind==14))
   else list.isEmpty)
def Fv:List zf->Nat->Bool->Bool->Bool
 |[],_,_,_=>true
 |c::r,d,h,b=>QF c d h b&&Fv r d h b
end
theorem RU(c:zf)(d:Nat)(h b:Bool):QF c d h b=(KD c b&&c.parts.all fun c=>Qd c d h):=by
 obtain⟨lead,parts,combs⟩:=c;rw[QF];have: ∀l,Uv l d h=l.all fun c=>Qd c d h:=by
  intro l
  induction l with
  |nil=>rw[Uv];rfl
  |cons c l ih=>rw[Uv,ih];rfl
 rw[this]
theorem tL(c:zI)(d:Nat)(h:Bool):Qd c d h=(GD c&&c.simples.all fun x=>Yg x d h):=by
 obtain⟨tag,simples⟩:=c;rw[Qd];have: ∀l,mr l d h=l.all fun c=>Yg c d h:=by
  intro l
  induction l with
  |nil=>rw[mr];rfl
  |cons c l ih=>rw[mr,ih];rfl
 rw[this]
theorem zHa(l:List zf)(d:Nat)(h b:Bool):Fv l d h b=l.all fun c=>QF c d h b:=by
 induction l with
 |nil=>rw[Fv];rfl
 |cons c l ih=>rw[Fv,ih];rfl
theorem IK(x:zw)(d:Nat)(h:Bool):Yg x d h=(Rm x&&
   (bif hasS x then !(d==3||h&&x.kind==14)&&((Rn x|| !x.list.isEmpty)&&x.list.all fun c=>QF c (d+1) (h||x.kind==14) (x.kind==14))else x.list.isEmpty)):=by
 obtain⟨kind,name,op,value,fold,anb,of_,list⟩:=x;rw[Yg,zHa]
theorem zAV(a:VAnb):Vo a=some (bif anbS a then 0 else 8):=by unfold Vo Yy anbS nD;simp only[zP,za,Aa];cases decide (-1000000000<=a.a)<;>cases decide (a.a<=1000000000)<;>cases decide (-1000000000<=a.b)<;>cases decide (a.b<=1000000000)<;>rfl
theorem zDY{d:Nat}(hd:d<=3)(h:Bool)(k:Int):Qa (⟨(d:Int),h⟩,k)=some (bif d==3||h&&k==14 then(⟨0,false⟩,false)else(⟨((d+1:Nat):Int),h||k==14⟩,true)):=by
 unfold Qa;have e1:((d:Int)==3)=(d==3):=by
  by_cases hh:d=3
  ·subst hh;rfl
  ·rw[Ea.2 hh,Ea.2 (by omega)]
 simp only[e1];have e2:d≠3->w64 ((d:Int)+1)=((d+1:Nat):Int):=fun hh=>zH (n:=4) (by omega) (by decide);cases hb:(d==3)with
 |true=>rfl
 |false=> rw[e2 (by simpa using hb)];cases h<;>cases (k==14)<;>rfl
theorem zJc(x:zw):Vu x=some (hasS x,bif x.kind==9||x.kind==10 then false else !(x.kind==13||x.kind==14)):=by
 unfold Vu hasS;by_cases h9:x.kind=9
 ·simp[h9]
 by_cases h10:x.kind=10
 ·simp[h10]
 by_cases h11:x.kind=11
 ·simp[h11]
 by_cases h12:x.kind=12
 ·simp[h12]
 by_cases h13:x.kind=13
 ·simp[h13]
 by_cases h14:x.kind=14
 ·simp[h14]
 have e:(decide (11<=x.kind)&&decide (x.kind<=14))=false:=by
  rw[Cf];by_cases hh:11<=x.kind
  ·exact .inr (Na (by omega))
  ·exact .inl (Na hh)
 have b9:=Ea.2 h9;have b10:=Ea.2 h10;have b11:=Ea.2 h11;have b12:=Ea.2 h12;have b13:=Ea.2 h13;have b14:=Ea.2 h14;simp only[b9,b10,b11,b12,b13,b14,e,Ca,zX,xe,Ra]
theorem zGG{x:zw}(h1:x.name.length<=big)(k:Option Bool)(hk:k=some true):
  ((bif bif bif !(x.kind==3)then bif bif x.op != 0 then true else !(x.value==[])then true else x.fold else false then true else bif !(bif x.kind==9 then true else x.kind==10)then bif x.of_ then true else !(x.anb.a==0&&(x.anb.b==0&&true))else false then
  some false
 else
  zW (X:=Bool) (
    bif x.kind==1 then
     some (LX.out (x.kind==1))
    else
     some (LX.out (x.kind==2))) fun j5=>
  bif j5 then
   za (QU x.name) fun y6=>
   some y6
  else
   bif x.kind==3 then
    za (Dq x.name) fun y7=>
    za (zA (bif y7 then decide (x.op<=6)else false) (Em (x.value,400)) (default:Bool)) fun y8=>
    some (bif bif bif y7 then decide (x.op<=6)else false then !y8 else false then bif x.op != 0 then true else bif x.value==[]then !x.fold else false else false)
   else
    za (zA (!(!(bif x.kind==9 then true else x.kind==10))&&(bif bif x.name==[]then decide (x.kind>=4)else false then decide (x.kind<=14)else false)) (Vo x.anb) (default:Int)) fun y9=>
    some (bif bif bif x.name==[]then decide (x.kind>=4)else false then decide (x.kind<=14)else false then bif !(bif x.kind==9 then true else x.kind==10)then true else y9==0 else false)):Option Bool)=some (Rm x):=by
 have e400:decide ((x.value.length:Int)>400)= !decide (x.value.length<=400):=Df _ 400;simp only[YG,XG h1,TG,zAV,zP,za,Aa,e400,bne,ge_iff_le];unfold Rm XD anb0;generalize af x.name=a1;generalize Di x.name=a2;generalize QG x.value=a3;generalize decide (x.value.length<=400)=a4;generalize decide (x.op<=6)=a5;generalize (x.op==0)=a6;generalize (x.value==[])=a7;generalize (x.name==[])=a8;generalize (x.anb.a==0)=a9;generalize (x.anb.b==0)=a10;generalize anbS x.anb=a11;generalize x.fold=a12;generalize x.of_=a13;have fin: ∀kd:Int,kd=1\/kd=2\/kd=3\/kd=9\/kd=10->x.kind=kd->True:=fun _ _ _=>trivial;clear e400 hk fin h1;by_cases k1:x.kind=1
 ·simp only[k1];revert a1 a2 a3 a4 a5 a6 a7 a8 a9 a10 a11 a12 a13;clear k1 k x;decide+kernel
 by_cases k2:x.kind=2
 ·simp only[k2];revert a1 a2 a3 a4 a5 a6 a7 a8 a9 a10 a11 a12 a13;clear k1 k2 k x;decide+kernel
 by_cases k3:x.kind=3
 ·simp only[k3];revert a1 a2 a3 a4 a5 a6 a7 a8 a9 a10 a11 a12 a13;clear k1 k2 k3 k x;decide+kernel
 by_cases k9:x.kind=9
 ·simp only[k9];revert a1 a2 a3 a4 a5 a6 a7 a8 a9 a10 a11 a12 a13;clear k1 k2 k3 k9 k x;decide+kernel
 by_cases k10:x.kind=10
 ·simp only[k10];revert a1 a2 a3 a4 a5 a6 a7 a8 a9 a10 a11 a12 a13;clear k1 k2 k3 k9 k10 k x;decide+kernel
 simp only[Ea.2 k1,Ea.2 k2,Ea.2 k3,Ea.2 k9,Ea.2 k10];generalize decide (4<=x.kind)=a14;generalize decide (x.kind<=14)=a15;clear k1 k2 k3 k9 k10 k x;revert a1 a2 a3 a4 a5 a6 a7 a8 a9 a10 a11 a12 a13 a14 a15;decide+kernel
def fP(z:zf×zg×Bool):Bool:=QF z.1 z.2.1.deep.toNat z.2.1.has z.2.2
def okPl(z:zf×zg×Bool):Prop:=zG (zm z.1)<=big/\ ∃d:Nat,d<=3/\z.2.1.deep=(d:Int)
section
variable {S:zf×zg×Bool->Option Bool} {N:Nat} (hS: ∀z,okPl z->zG (zm z.1)<N->S z=some (fP z)) (hN:N<=big)
include hS hN
theorem hSel{c:zf}{d:Nat}{h b:Bool}(hc:zG (zm c)<N)(hd:d<=3):S (c,⟨(d:Int),h⟩,b)=some (QF c d h b):=
 hS (c,⟨(d:Int),h⟩,b) ⟨by show zG (zm c)<=big;omega,d,hd,rfl⟩ hc
theorem zDx{x:zw}(hx:zG (z8 x)<=N){d:Nat}(hd:d<=3)(h:Bool):
  qd S (x.list,⟨(d:Int),h⟩,x)=some (!x.list.all fun c=>QF c d h (x.kind==14)):=by
 have hz:=qZ x;have hlen:=Zy qD x.list;unfold qd QI;refine Fj (Gi x.list (fun c=> !QF c d h (x.kind==14)) (by omega) (fun i hi=> ?_) ?_) ((Ii _ _).trans (Jo _ _))
 ·have hm:=ZF (f:=zm) (Ga hi);simp only[zO hi,Da,zN hi,za,Aa,UH,uy];rw[hSel hS hN (by omega) hd];rfl
 ·simp only[zR,Ca]
theorem zD9{x:zw}(hx:zG (z8 x)<=N){d:Nat}(hd:d<=3)(h:Bool):Yu S (x,⟨(d:Int),h⟩)=some (Yg x d h):=by
 have hz:=qZ x;rw[IK];unfold Yu;simp only[Ut,zJc,za,Aa,zDY hd,ZE,yj];have hflat:=zGG (x:=x) (by omega) (some true) rfl;simp only[za]at hflat;have go: ∀(j:Option (LX Unit Bool)) (b:Bool),j=some (bif b then .out ()else .ret false)->(zW j fun _=>some (Rm x))=some (Rm x&&b):=by
  intro j b hj;subst hj;cases b with
  |true=>simp only[Da,zX,Rb]
  |false=>simp only[Ca,zG2,Bc]
 rw[hflat];refine go _ _ ?_;cases hh:hasS x with
 |false=>cases x.list.isEmpty<;>rfl
 |true=>
  simp only[Da];have he:(bif x.kind==9||x.kind==10 then false else !(x.kind==13||x.kind==14))=Rn x:=by
   unfold Rn;unfold hasS at hh;by_cases h9:x.kind=9
   ·simp only[h9];rfl
   by_cases h10:x.kind=10
   ·simp only[h10];rfl
   simp only[Ea.2 h9,Ea.2 h10,xe,Ca,Fa,Eb]at hh ⊢;have:x.kind=11\/x.kind=12\/x.kind=13\/x.kind=14:=by omega
   rcases this with h|h|h|h<;>(rw[h];rfl)
  cases hp:(d==3||h&&x.kind==14)with
  |true=>rfl
  |false=>
   have hd3:d≠3:=by intro hc;rw[hc]at hp;cases hp
   simp only[Ca,zDx hS hN hx (show d+1<=3 by omega),zP,Aa,he];cases Rn x<;>cases x.list.isEmpty<;>cases x.list.all (fun c=>QF c (d+1) (h||x.kind==14) (x.kind==14))<;>rfl
theorem jW{c:zI}(hx:zG (zU c)<=N){d:Nat}(hd:d<=3)(h:Bool):AC S (c,⟨(d:Int),h⟩)=some (Qd c d h):=by
 have hz:=qE c;have hlen:=Zy Ti c.simples;have e64:decide ((c.simples.length:Int)>64)= !decide (c.simples.length<=64):=Df _ 64;rw[tL];unfold AC GD tagS;have hl: ∀b:Bool,zZ (fun(s2:Int)=>
    bif decide (s2<(c.simples.length:Int))then
     za (geti c.simples s2) fun y3=>
     za (Yu S ((⟨y3.kind,y3.name,y3.op,y3.value,y3.fold,y3.anb,y3.of_,y3.list⟩:zw),⟨(d:Int),h⟩)) fun y4=>
     bif !y4 then
      some (LO.ret false)
     else
      some (LO.again (w64 (s2+1)))
    else
     some (LO.out ())) 0 (fun _=>some b)=some (b&&c.simples.all fun x=>Yg x d h):=by
  intro b;refine(ZZ c.simples (fun x=>bif Yg x d h then none else some false) () (fun i hi=> ?_) ?_).trans ?_
  ·have hm:=ZF (f:=z8) (Ga hi);simp only[zO hi,Da,zN hi,za,Aa,Ut,zD9 hS hN (show zG (z8 c.simples[i])<=N by omega) hd h,zH hi (show c.simples.length<=big by omega)];cases Yg c.simples[i] d h<;>rfl
  ·simp only[zR,Ca]
  ·rw[Q9];cases c.simples.all fun x=>Yg x d h
   ·cases b<;>rfl
   ·cases b<;>rfl
 simp only[XG (show c.tag.length<=big by omega),zP,za,Aa,e64,yj]at hl ⊢;rw[hl];cases c.tag==[]<;>cases c.tag==[42]<;>cases Di c.tag<;>cases decide (c.simples.length<=64)<;>cases c.simples.isEmpty<;>rfl
end
theorem zFL{c:zf}{d:Nat}{h b:Bool}(hc:zG (zm c)<=big)(hd:d<=3):zC (c,⟨(d:Int),h⟩,b)=some (QF c d h b):=by
 refine Zx (fun z=>zG (zm z.1)) okPl fP (fun S z hz hS=> ?_) (x:=(c,⟨(d:Int),h⟩,b)) ⟨hc,d,hd,rfl⟩;obtain⟨c,⟨dp,h⟩,b⟩:=z;obtain⟨hc,d,hd,he⟩:=hz;have he:dp=(d:Int):=he;subst he;have hc:zG (zm c)<=big:=hc;have hzc:=Qb c;have hlen:=Zy Qk c.parts;show _=some (QF c ((d:Int).toNat) h b);rw[ic,RU];unfold bB KD;have e1:decide (c.lead>4)= !decide (c.lead<=4):=by
  by_cases hh:c.lead<=4
  ·rw[Ma hh,Na (by omega)];rfl
  ·rw[Na hh,Ma (by omega)];rfl
 have e2:(w64 ((c.combs.length:Int)+1) != (c.parts.length:Int))= !decide (c.combs.length+1=c.parts.length):=by
  rw[zH (n:=big) (i:=c.combs.length) (by omega) (Xa _)];by_cases hh:c.combs.length+1=c.parts.length
  ·rw[Ma hh,hh];simp
  ·rw[Na hh];simp;omega
 have e3:decide ((c.parts.length:Int)>64)= !decide (c.parts.length<=64):=Df _ 64;have hcon:ql S (c.parts,⟨(d:Int),h⟩)=some (!c.parts.all fun x=>Qd x d h):=by
  unfold ql Q8;refine Fj (Gi c.parts (fun x=> !Qd x d h) (by omega) (fun i hi=> ?_) ?_) ((Ii _ _).trans (Jo _ _))
  ·have hm:=ZF (f:=zU) (Ga hi);simp only[zO hi,Da,zN hi,za,Aa,PH,lL];rw[jW (N:=zG (zm c)) hS (by omega) (by omega) hd];rfl
  ·simp only[zR,Ca]
 have hl: ∀p:Bool,zZ (fun(s1:Int)=>
    bif decide (s1<(c.combs.length:Int))then
     za (geti c.combs s1) fun y2=>
     bif bif decide ((y2.toNat:Int)<1)then true else decide ((y2.toNat:Int)>4)then
      some (LO.ret false)
     else
      some (LO.again (w64 (s1+1)))
    else
     some (LO.out ())) 0 (fun _=>some p)=some (c.combs.all Yh&&p):=by
  intro p;refine(ZZ c.combs (fun b=>bif Yh b then none else some false) () (fun i hi=> ?_) ?_).trans ?_
  ·simp only[zO hi,Da,zN hi,za,Aa,zH hi (show c.combs.length<=big by omega)];have g1:decide ((c.combs[i].toNat:Int)<1)= !decide (1<=c.combs[i].toNat):=by
    by_cases hh:1<=c.combs[i].toNat
    ·rw[Ma hh,Na (by omega)];rfl
    ·rw[Na hh,Ma (by omega)];rfl
   have g2:decide ((c.combs[i].toNat:Int)>4)= !decide (c.combs[i].toNat<=4):=Df _ 4;rw[g1,g2];unfold Yh;cases decide (1<=c.combs[i].toNat)<;>cases decide (c.combs[i].toNat<=4)<;>rfl
  ·simp only[zR,Ca]
  ·rw[Q9];cases c.combs.all Yh<;>rfl
 simp only[hcon,za,Aa,e1,e2,e3,Vd]at hl ⊢;rw[hl];cases (b==(c.lead != 0))<;>cases decide (c.lead<=4)<;>cases decide (c.combs.length+1=c.parts.length)<;>cases decide (c.parts.length<=64)<;>rfl
def fR(z:zf×zV×Bool):Bool:=QF z.1 z.2.1.deep.toNat z.2.1.has z.2.2
def okR(z:zf×zV×Bool):Prop:=zG (zm z.1)<=big/\ ∃d:Nat,d<=3/\z.2.1.deep=(d:Int)
theorem zIt{d:Nat}(hd:d<=3)(h:Bool)(k:Int):Fz (⟨(d:Int),h⟩,k)=some (bif d==3||h&&k==14 then(⟨(d:Int),h⟩,false)else(⟨((d+1:Nat):Int),h||k==14⟩,true)):=by
 unfold Fz;have e1:((d:Int)==3)=(d==3):=by
  by_cases hh:d=3
  ·subst hh;rfl
  ·rw[Ea.2 hh,Ea.2 (by omega)]
 simp only[e1];have e2:d≠3->w64 ((d:Int)+1)=((d+1:Nat):Int):=fun hh=>zH (n:=4) (by omega) (by decide);cases hb:(d==3)with
 |true=>rfl
 |false=> rw[e2 (by simpa using hb)];cases h<;>cases (k==14)<;>rfl
theorem valid_eq(a:VAnb):Jz a=some (anbS a):=by unfold Jz anbS nD;simp only[ge_iff_le];cases decide (-1000000000<=a.a)<;>cases decide (a.a<=1000000000)<;>cases decide (-1000000000<=a.b)<;>cases decide (a.b<=1000000000)<;>rfl
section
variable {S:zf×zV×Bool->Option Bool} {N:Nat} (hS: ∀z,okR z->zG (zm z.1)<N->S z=some (fR z)) (hN:N<=big)
include hS hN
theorem hSr{c:zf}{d:Nat}{h b:Bool}(hc:zG (zm c)<N)(hd:d<=3):S (c,⟨(d:Int),h⟩,b)=some (QF c d h b):=
 hS (c,⟨(d:Int),h⟩,b) ⟨by show zG (zm c)<=big;omega,d,hd,rfl⟩ hc
theorem zHb{x:zw}(hx:zG (z8 x)<=N){d:Nat}(hd:d<=3)(h:Bool):
  Lp S (x.list,⟨(d:Int),h⟩,x.kind)=some (!(d==3||h&&x.kind==14)&&x.list.all fun c=>QF c (d+1) (h||x.kind==14) (x.kind==14)):=by
 have hz:=qZ x;have hlen:=Zy qD x.list;unfold Lp;simp only[zIt hd,za,Aa];cases hp:(d==3||h&&x.kind==14)with
 |true=>rfl
 |false=>
  have hd3:d≠3:=by intro hc;rw[hc]at hp;cases hp
  simp only[Ca,Ta,Ra,Sa];refine(ZZ x.list (fun c=>bif QF c (d+1) (h||x.kind==14) (x.kind==14)then none else some false) () (fun i hi=> ?_) ?_).trans ?_
  ·have hm:=ZF (f:=zm) (Ga hi);simp only[zO hi,Da,zN hi,Aa,uy,zH hi (show x.list.length<=big by omega)];rw[hSr hS hN (by omega) (show d+1<=3 by omega)];simp only[Aa];cases QF x.list[i] (d+1) (h||x.kind==14) (x.kind==14)<;>rfl
  ·simp only[zR,Ca]
  ·rw[Q9];cases x.list.all fun c=>QF c (d+1) (h||x.kind==14) (x.kind==14)<;>rfl
theorem zFQ{x:zw}(hx:zG (z8 x)<=N){d:Nat}(hd:d<=3)(h:Bool):Ku S (x,⟨(d:Int),h⟩)=some (Yg x d h):=by
 have hz:=qZ x;have h400:decide ((x.value.length:Int)<=400)=decide (x.value.length<=400):=gm _ 400;rw[IK];unfold Ku Np;simp only[za,Aa,Ut,zHb hS hN hx hd,Uz (show x.name.length<=big by omega),MG (show x.name.length<=big by omega),LG _ (show x.value.length<=big by omega),h400,valid_eq,zP,ZE,yj,bne,ge_iff_le];generalize x.list.all (fun c=>QF c (d+1) (h||x.kind==14) (x.kind==14))=b1;generalize hb2:(d==3||h&&x.kind==14)=b2;unfold Rm XD anb0 hasS Rn;generalize x.list.isEmpty=b3;generalize af x.name=a1;generalize Di x.name=a2;generalize QG x.value=a3;generalize decide (x.value.length<=400)=a4;generalize decide (x.op<=6)=a5;generalize (x.op==0)=a6;generalize (x.value==[])=a7;generalize (x.name==[])=a8;generalize (x.anb.a==0)=a9;generalize (x.anb.b==0)=a10;generalize anbS x.anb=a11;generalize x.fold=a12;generalize x.of_=a13;simp only[Ic];clear hb2 h400 hz hx hS;by_cases k1:x.kind=1
 ·simp only[k1];cases a1<;>cases a6<;>cases a7<;>cases a9<;>cases a10<;>cases a12<;>cases a13<;>rfl
 by_cases k2:x.kind=2
 ·simp only[k2];cases a1<;>cases a6<;>cases a7<;>cases a9<;>cases a10<;>cases a12<;>cases a13<;>rfl
 by_cases k3:x.kind=3
 ·simp only[k3];cases a2<;>cases a3<;>cases a4<;>cases a5<;>cases a6<;>cases a7<;>cases a9<;>cases a10<;>cases a12<;>cases a13<;>rfl
 by_cases k9:x.kind=9
 ·simp only[k9];cases a6<;>cases a7<;>cases a8<;>cases a11<;>cases a12<;>cases a13<;>cases b1<;>cases b2<;>cases b3<;>rfl
 by_cases k10:x.kind=10
 ·simp only[k10];cases a6<;>cases a7<;>cases a8<;>cases a11<;>cases a12<;>cases a13<;>cases b1<;>cases b2<;>cases b3<;>rfl
 by_cases k11:x.kind=11
 ·simp only[k11];cases a6<;>cases a7<;>cases a8<;>cases a9<;>cases a10<;>cases a12<;>cases a13<;>cases b1<;>cases b2<;>cases b3<;>rfl
 by_cases k12:x.kind=12
 ·simp only[k12];cases a6<;>cases a7<;>cases a8<;>cases a9<;>cases a10<;>cases a12<;>cases a13<;>cases b1<;>cases b2<;>cases b3<;>rfl
 by_cases k13:x.kind=13
 ·simp only[k13];cases a6<;>cases a7<;>cases a8<;>cases a9<;>cases a10<;>cases a12<;>cases a13<;>cases b1<;>cases b2<;>cases b3<;>rfl
 by_cases k14:x.kind=14
 ·simp only[k14];cases a6<;>cases a7<;>cases a8<;>cases a9<;>cases a10<;>cases a12<;>cases a13<;>cases b1<;>cases b2<;>cases b3<;>rfl
 have d1:decide (4<=x.kind)=true\/decide (4<=x.kind)=false:=(Vb _);simp only[Ea.2 k1,Ea.2 k2,Ea.2 k3,Ea.2 k9,Ea.2 k10,Ea.2 k11,Ea.2 k12,Ea.2 k13,Ea.2 k14];have e11:(decide (11<=x.kind)&&decide (x.kind<=14))=false:=by
  rw[Cf];by_cases hh:11<=x.kind
  ·exact .inr (Na (by omega))
  ·exact .inl (Na hh)
 rw[e11];by_cases k4:x.kind=4
 ·simp only[k4];cases a6<;>cases a7<;>cases a8<;>cases a9<;>cases a10<;>cases a12<;>cases a13<;>cases b3<;>rfl
 by_cases k5:x.kind=5
 ·simp only[k5];cases a6<;>cases a7<;>cases a8<;>cases a9<;>cases a10<;>cases a12<;>cases a13<;>cases b3<;>rfl
 by_cases k6:x.kind=6
 ·simp only[k6];cases a6<;>cases a7<;>cases a8<;>cases a9<;>cases a10<;>cases a12<;>cases a13<;>cases b3<;>rfl
 by_cases k7:x.kind=7
 ·simp only[k7];cases a6<;>cases a7<;>cases a8<;>cases a9<;>cases a10<;>cases a12<;>cases a13<;>cases b3<;>rfl
 by_cases k8:x.kind=8
 ·simp only[k8];cases a6<;>cases a7<;>cases a8<;>cases a9<;>cases a10<;>cases a12<;>cases a13<;>cases b3<;>rfl
 have e4:(decide (4<=x.kind)&&decide (x.kind<=14))=false:=by
  rw[Cf];by_cases hh:4<=x.kind
  ·exact .inr (Na (by omega))
  ·exact .inl (Na hh)
 rw[e4];simp only[Ea.2 k4,Ea.2 k5,Ea.2 k6,Ea.2 k7,Ea.2 k8];rfl
end
section
variable {S:zf×zV×Bool->Option Bool} {N:Nat} (hS: ∀z,okR z->zG (zm z.1)<N->S z=some (fR z)) (hN:N<=big)
include hS hN
theorem zBD{c:zI}(hx:zG (zU c)<=N){d:Nat}(hd:d<=3)(h:Bool):eu S (c,⟨(d:Int),h⟩)=some (Qd c d h):=by
 have hz:=qE c;have hlen:=Zy Ti c.simples;have e64:decide ((c.simples.length:Int)>64)= !decide (c.simples.length<=64):=Df _ 64;rw[tL];unfold eu GD tagS;have hl:zZ (fun(s2:Int)=>
    bif decide (s2<(c.simples.length:Int))then
     za (geti c.simples s2) fun y3=>
     za (Ku S ((⟨y3.kind,y3.name,y3.op,y3.value,y3.fold,y3.anb,y3.of_,y3.list⟩:zw),⟨(d:Int),h⟩)) fun y4=>
     bif !y4 then
      some (LO.ret false)
     else
      some (LO.again (w64 (s2+1)))
    else
     some (LO.out ())) 0 (fun _=>some true)=some (c.simples.all fun x=>Yg x d h):=by
  refine(ZZ c.simples (fun x=>bif Yg x d h then none else some false) () (fun i hi=> ?_) ?_).trans ?_
  ·have hm:=ZF (f:=z8) (Ga hi);simp only[zO hi,Da,zN hi,za,Aa,Ut,zFQ hS hN (show zG (z8 c.simples[i])<=N by omega) hd h,zH hi (show c.simples.length<=big by omega)];cases Yg c.simples[i] d h<;>rfl
  ·simp only[zR,Ca]
  ·rw[Q9];cases c.simples.all fun x=>Yg x d h<;>rfl
 simp only[MG (show c.tag.length<=big by omega),zP,za,Aa,e64,ZE]at hl ⊢;rw[hl];cases c.tag==[]<;>cases c.tag==[42]<;>cases Di c.tag<;>cases decide (c.simples.length<=64)<;>cases c.simples.isEmpty<;>rfl
end
theorem zJ1{α β:Type}(p:α->Bool)(q:β->Bool): ∀(l:List α) (m:List β),m.length+1=l.length->
  ((∀i (h:i<l.length),p l[i]=true/\(∀(h':i - 1<m.length),0<i->q m[i - 1]=true))↔(l.all p=true/\m.all q=true)):=by
 intro l m hlm;simp only[Ib];constructor
 ·intro hh;refine⟨fun v hv=> ?_,fun v hv=> ?_⟩
  ·obtain⟨i,hi,rfl⟩:=Jd hv;exact(hh i hi).1
  ·obtain⟨i,hi,rfl⟩:=Jd hv;exact(hh (i+1) (by omega)).2 (by omega) (by omega)
 ·rintro⟨h1,h2⟩ i hi;exact⟨h1 _ (Ga hi),fun h' _=>h2 _ (Ga h')⟩
theorem zHP{c:zf}{d:Nat}{h b:Bool}(hc:zG (zm c)<=big)(hd:d<=3):Zl (c,⟨(d:Int),h⟩,b)=some (QF c d h b):=by
 refine Zx (fun z=>zG (zm z.1)) okR fR (fun S z hz hS=> ?_) (x:=(c,⟨(d:Int),h⟩,b)) ⟨hc,d,hd,rfl⟩;obtain⟨c,⟨dp,h⟩,b⟩:=z;obtain⟨hc,d,hd,he⟩:=hz;have he:dp=(d:Int):=he;subst he;have hc:zG (zm c)<=big:=hc;have hzc:=Qb c;have hlen:=Zy Qk c.parts;show _=some (QF c ((d:Int).toNat) h b);rw[ic,RU];unfold XA KD;have e1:decide (c.lead>4)= !decide (c.lead<=4):=by
  by_cases hh:c.lead<=4
  ·rw[Ma hh,Na (by omega)];rfl
  ·rw[Na hh,Ma (by omega)];rfl
 have e3:decide ((c.parts.length:Int)>64)= !decide (c.parts.length<=64):=Df _ 64;have e4:((c.lead != 0)==b)=(b==(c.lead != 0)):=by cases b<;>cases (c.lead != 0)<;>rfl
 simp only[e1,e3,e4,ZE,Vd];cases hp:c.parts with
 |nil=>simp
 |cons p ps=>
  rw[<-hp];have hne:c.parts.isEmpty=false:=by rw[hp];rfl
  have hpos:0<c.parts.length:=by rw[hp];simp
  have e2:((c.combs.length:Int) != w64 ((c.parts.length:Int) - 1))= !decide (c.combs.length+1=c.parts.length):=by
   have:w64 ((c.parts.length:Int) - 1)=((c.parts.length - 1:Nat):Int):=by rw[w64,qz (by omega) (by unfold big at hc;omega)];omega
   rw[this];by_cases hh:c.combs.length+1=c.parts.length
   ·rw[Ma hh];simp;omega
   ·rw[Na hh];simp;omega
  rw[e2,hne];cases hlm:decide (c.combs.length+1=c.parts.length)with
  |false=>cases (b==(c.lead != 0))<;>cases decide (c.lead<=4)<;>cases decide (c.parts.length<=64)<;>rfl
  |true=>
   have hlm:=Jb hlm;have hl:zZ (fun(s1:Int)=>
    bif decide (s1<(c.parts.length:Int))then
     za (geti c.parts s1) fun y2=>
     za (eu S ((⟨y2.tag,y2.simples⟩:zI),⟨(d:Int),h⟩)) fun y3=>
     za (zA (decide (s1>0)&& !(!y3)) (geti c.combs (w64 (s1 - 1))) (default:UInt8)) fun y4=>
     za (zA (!(decide ((y4.toNat:Int)<1))&&(decide (s1>0)&& !(!y3))) (geti c.combs (w64 (s1 - 1))) (default:UInt8)) fun y5=>
     bif bif !y3 then true else bif decide (s1>0)then bif decide ((y4.toNat:Int)<1)then true else decide ((y5.toNat:Int)>4)else false then
      some (LO.ret false)
     else
      some (LO.again (w64 (s1+1)))
    else
     some (LO.out ())) 0 (fun _=>some true)=some (c.combs.all Yh&&c.parts.all fun x=>Qd x d h):=by
    refine(yt c.parts.length (fun i=>Qd (c.parts.getD i default) d h&&(i==0||Yh (c.combs.getD (i - 1) 0))) false (fun i hi=> ?_) ?_).trans ?_
    ·have hm:=ZF (f:=zU) (Ga hi);have hgd:c.parts.getD i default=c.parts[i]:=by simp[hi]
     simp only[zO hi,Da,zN hi,za,Aa,lL,zBD (N:=zG (zm c)) hS hc (show zG (zU c.parts[i])<=zG (zm c) by omega) hd,zH hi (show c.parts.length<=big by omega),hgd];cases i with
     |zero=>cases Qd c.parts[0] d h<;>rfl
     |succ i=>
      have hi2:i<c.combs.length:=by omega
      have g0:decide (((i+1:Nat):Int)>0)=true:=Ma (by omega);have g3:w64 (((i+1:Nat):Int) - 1)=(i:Int):=by rw[w64,qz (by omega) (by unfold big at hc;omega)];omega
      have g4:c.combs.getD (i+1 - 1) 0=c.combs[i]:=by simp[hi2]
      have g1:decide ((c.combs[i].toNat:Int)<1)= !decide (1<=c.combs[i].toNat):=by
       by_cases hh:1<=c.combs[i].toNat
       ·rw[Ma hh,Na (by omega)];rfl
       ·rw[Na hh,Ma (by omega)];rfl
      have g2:decide ((c.combs[i].toNat:Int)>4)= !decide (c.combs[i].toNat<=4):=Df _ 4;rw[g0,g3,g4,zN hi2];cases Qd c.parts[i+1] d h with
      |false=>rfl
      |true=> simp only[Ta,Ra,Rb,Sa,Zm,Aa,Ca,Da,g1,zP,g2];unfold Yh;cases h1:decide (1<=c.combs[i].toNat)<;>cases h2:decide (c.combs[i].toNat<=4)<;>simp[h2,g2]<;>omega
    ·simp only[zR,Ca]
    ·have:(List.range c.parts.length).all (fun i=>Qd (c.parts.getD i default) d h&&(i==0||Yh (c.combs.getD (i - 1) 0)))=(c.combs.all Yh&&c.parts.all fun x=>Qd x d h):=by
      rw[Pf,Fa,and_comm,<-zJ1 _ _ _ _ hlm,Ib];constructor
      ·intro hh i hi;have:=hh i (Nc.2 hi);rw[Fa,Td]at this;refine⟨by have h1:=this.1;simpa [hi] using h1,fun h' h0=> ?_⟩;rcases this.2 with h2|h2
       ·rw[Cc]at h2;omega
       ·simpa [h'] using h2
      ·intro hh i hi;have hi:=Nc.1 hi;obtain⟨h1,h2⟩:=hh i hi;rw[Fa,Td];refine⟨by simpa [hi] using h1,?_⟩;by_cases h0:i=0
       ·exact .inl (by simp[h0])
       ·have h':i - 1<c.combs.length:=by omega
        exact .inr (by have:=h2 h' (by omega);simpa [h'] using this)
     rw[this];cases (c.combs.all Yh&&c.parts.all fun x=>Qd x d h)<;>rfl
   simp only[Vd]at hl;rw[hl];cases (b==(c.lead != 0))<;>cases decide (c.lead<=4)<;>cases decide (c.parts.length<=64)<;>rfl
end Go.Lv.VT
