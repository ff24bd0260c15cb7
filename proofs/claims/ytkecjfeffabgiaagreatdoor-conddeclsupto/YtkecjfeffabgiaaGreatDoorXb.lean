/- Lemmas on conditions: what the texts of the older seat had. -/
import Derived.Test.YtkecjfeffabgiaaGreatDoorXa
import Derived.Test.YtkecjfeffabgiaaGreatDoorMo
import Derived.KernelRfl
set_option linter.unusedSimpArgs false
set_option linter.unusedVariables false
namespace Go.Lv.VT
theorem uk(x:zA):zJ (QL x)=3+x.name.length+zL Za x.value:=by simp only[QL,zJ,bPV,zL];omega
theorem Jj(x:zh):zJ (zq x)=4+x.name.length+zJ (QL x.decl)+zL zq x.list - 1+1:=by rw[uk];rw[dZ];simp only[zJ,bPV,zL];omega
theorem Ny(x:zA):1<=zJ (QL x):=by have:=uk x;omega
theorem dI{α:Type}(l:List α):decide ((l.length:Int)>0)= !l.isEmpty:=by
 cases l with
 |nil=>rfl
 |cons a l=>exact Xa (by simp only[Bb];omega)
theorem VS(x:zh):1<=zJ (zq x):=by have:=Jj x;omega
theorem zB9{a b:Nat}(h:a+b<=big):w64 ((a:Int)+(b:Int))=((a+b:Nat):Int):=by rw[w64,Zp (by omega) (by unfold big at h;omega)];omega
theorem Co{d:zA}(h:zJ (QL d)<=big):szL d.value<=big/\d.name.length<=big:=by have:=uk d;have:=Cr d.value;constructor<;>omega
theorem U1{d:zA}(h:zJ (QL d)<=big):QE d=some (bif jf d then 0 else 8):=fZ (Co h).1 (Co h).2
theorem dP{d:zA}(h:zJ (QL d)<=big):Sj d=some (bif jf d then 0 else 8):=M3 (Co h).1 (Co h).2
theorem qB(c:zh):(⟨c.kind,c.name,c.num,c.decl,c.list⟩:zh)=c:=by cases c;rfl
def Rk(d:zA):Bool:=d.name==[]&&(d.value.isEmpty&& !d.important)
def Hf(c:zh):Bool:=c.name==[]&&(c.num==0&&Rk c.decl)
theorem ll(c:zh):ZX c=some (Hf c):=by unfold ZX Hf Rk;rw[ai];cases c.name==[]<;>cases c.num==0<;>cases c.decl.name==[]<;>cases c.decl.value.isEmpty<;>rfl
theorem Y2(d:zA):Au d=some (Rk d):=by unfold Au Rk;rw[ai];cases d.name==[]<;>cases d.value.isEmpty<;>rfl
theorem bP(c:zh):Xl c=some (Hf c):=by unfold Xl Hf;simp only[Y2,Zd,zb,Ba];cases c.name==[]<;>cases c.num==0<;>rfl
def keyS(x:Str):Bool:=x==[]||(x==[97,110,100]||(x==[111,114]||(x==[110,111,116]||x==[111,110,108,121])))
def medS(x:Str):Bool:= !keyS x&&(decide (x.length<=64)&&(lowS x==x&&Oe x))
theorem P8(l:List Str)(x:Str)(h:l.length<=big):slices_Contains_string (l,x)=some (l.any fun v=>x==v):=by
 unfold slices_Contains_string slices_Index_string;refine ax (Xx l (fun v=>x==v) h (fun i hi=> ?_) ?_) (Ps _ _)
 ·simp only[Zl hi,Ea,Zo hi,zb,Ba]
 ·simp only[Qc,Da]
theorem zBD(x:Str):(([[],[97,110,100],[111,114],[110,111,116],[111,110,108,121]]:List Str).any fun v=>x==v)=keyS x:=by simp only[List.any_cons,List.any_nil,Je];rfl
theorem J2{x:Str}(h:x.length<=big):QW x=some (medS x):=by
 have e:decide ((x.length:Int)<=64)=decide (x.length<=64):=BB _ 64;have e1:decide (Lib.indexByte x (0:Int).toNat.toUInt8<0)=Oe x:=by rw[RI,WC,bf]
 have hcs:=P8 [[],[97,110,100],[111,114],[110,111,116],[111,110,108,121]] x (by decide);unfold QW medS;simp only[hcs,zBD,Yy h,KF,Zd,zb,Ba,e];cases keyS x<;>cases decide (x.length<=64)<;>try rfl
 simp only[Ya,Ea,aa];cases lowS x==x
 ·rfl
 ·exact congrArg some e1
def isN(n:Int):Bool:=decide (-1000000000000<=n)&&decide (n<=1000000000000)
theorem U0(n:Int):QY n=some (bif isN n then 0 else 8):=by
 unfold QY Vj;have e1:decide (n< -1000000000000)= !decide (-1000000000000<=n):=by have:=WB n (-1000000000000);show _= !decide (n>=_);rw[this,bf]
 have e2:decide (n>1000000000000)= !decide (n<=1000000000000):=by have:=WB 1000000000000 n;show decide (1000000000000<n)= !decide (1000000000000>=n);rw[this,bf]
 have:zX (fun(s1:Int)=>
   bif decide (s1<(([n]:List Int).length:Int))then
    zb (geti [n] s1) fun y2=>
    bif bif decide (y2<(-1000000000000))then true else decide (y2>1000000000000)then
     some (LO.ret (8:Int))
    else
     some (LO.again (w64 (s1+1)))
   else
    some (LO.out ()):Int->Option (LO (Int) (Unit) Int)) 0 (fun o3=>some (0:Int))=some (bif isN n then 0 else 8):=by
  refine(Nl [n] (fun n=>bif isN n then none else some 8) () (fun i hi=> ?_) ?_).trans ?_
  ·obtain rfl:i=0:=by simpa using hi
   simp only[Zl hi,Ea,Zo hi,zb,Ba,List.getElem_cons_zero,e1,e2,isN];cases decide (-1000000000000<=n)<;>cases decide (n<=1000000000000)<;>rfl
  ·simp only[Qc,Da]
  ·rw[Ko];simp only[List.all_cons,List.all_nil,Vb];cases isN n<;>rfl
 rw[this];rfl
def Ih(first:Bool)(y:zh):Bool:=
 y.list.isEmpty&&(Rk y.decl&&((first&&(y.kind==4&&(y.num==0&&medS y.name)))||((y.kind==5||y.kind==6)&&(y.name==[]&&(decide (0<=y.num)&&isN y.num)))))
def SC(l:List zh):Bool:=(List.range l.length).all fun i=>Ih (i==0) (l.getD i default)
def Ji(c:zh):Bool:=c.kind==1&&(Hf c&&(!c.list.isEmpty&&SC c.list))
def xA(c:zh):Bool:=match c.list with
 |[]=>false
 |y::_=>y.kind==4
theorem zBX(i:Nat):decide ((i:Int)>0)= !(i==0):=by
 cases i with
 |zero=>rfl
 |succ i=>exact Xa (by omega)
theorem DU{c:zh}(h:zJ (zq c)<=big)(i:Nat)(R:Type)(A:Option R)(k:Int->Option R):
  (zD (X:=Int) (
       zb (zo (!(decide ((c.list.length:Int)>0))) (ZX (⟨c.kind,[],0,c.decl,c.list⟩:zh)) (default:Bool)) fun y4=>
       bif bif decide ((c.list.length:Int)>0)then true else !y4 then
        A.map LX.ret
       else
        bif c.kind==4 then
         zb (zo (!(bif decide ((i:Int)>0)then true else c.num != 0)) (QW c.name) (default:Bool)) fun y5=>
         bif bif bif decide ((i:Int)>0)then true else c.num != 0 then true else !y5 then
          A.map LX.ret
         else
          some (LX.out (i:Int))
        else
         zD (X:=Bool) (
           bif c.kind==5 then
            some (LX.out (c.kind==5))
           else
            some (LX.out (c.kind==6))) fun j6=>
         bif j6 then
          zb (zo (!(bif !(c.name==[])then true else decide (c.num<0))) (QY c.num) (default:Int)) fun y7=>
          bif bif bif !(c.name==[])then true else decide (c.num<0)then true else y7 != 0 then
           A.map LX.ret
          else
           some (LX.out (i:Int))
         else
          A.map LX.ret) k)=bif Ih (i==0) c then k (i:Int)else A:=by
 have hz:=Jj c;have hn:c.name.length<=big:=by have:=Ny c.decl;omega
 have hA:zD (A.map LX.ret) k=A:=by cases A<;>rfl
 have e1:decide (c.num<0)= !decide (0<=c.num):=by have:=WB c.num 0;show _= !decide (c.num>=0);rw[this,bf]
 have e2:((bif isN c.num then(0:Int)else 8) != 0)= !isN c.num:=by cases isN c.num<;>rfl
 have eb:Hf ⟨c.kind,[],0,c.decl,c.list⟩=Rk c.decl:=rfl;unfold Ih;simp only[ll,eb,dI,Zd,zb,Ba,J2 hn,U0,zBX i,e1,bne];cases c.list.isEmpty with
 |false=>exact hA
 |true=>
  cases Rk c.decl with
  |false=>exact hA
  |true=>
   simp only[Ab,Ya,Ea,Da,aa];by_cases k4:c.kind=4
   ·simp only[k4,Int.reduceBEq,Ea,Je,Jc,aa];cases (i==0)<;>cases c.num==0<;>cases medS c.name<;>first|rfl|exact hA
   ·have b4:=Ja.2 k4;simp only[b4,Da,Jc,Tc,Ld];by_cases k5:c.kind=5
    ·simp only[k5,Int.reduceBEq,Ea,zQ,Xd,aa];cases c.name==[]<;>cases decide (0<=c.num)<;>cases isN c.num<;>first|rfl|exact hA
    ·have b5:=Ja.2 k5;simp only[b5,Da,zQ,Ld];cases c.kind==6
     ·exact hA
     ·cases c.name==[]<;>cases decide (0<=c.num)<;>cases isN c.num<;>first|rfl|exact hA
theorem qJ{c y:zh}(h:y∈c.list):zJ (zq y)<zJ (zq c):=by have hz:=Jj c;have:=XR (f:=zq) h;have:=Ny c.decl;omega
theorem yh(c:zh):c.list.length<=zJ (zq c):=by have hz:=Jj c;have:=YR VS c.list;have:=Ny c.decl;omega
theorem jy(c:zh):zJ (QL c.decl)<=zJ (zq c):=by have hz:=Jj c;omega
theorem oN{c:zh}(h:zJ (zq c)<=big):Rj c=some (Ji c):=by
 have hlen:=yh c;unfold Rj Ji;simp only[qB,ll,Zd,zb,Ba,ai,bne];cases c.kind==1 with
 |false=>rfl
 |true=>
  cases Hf c with
  |false=>rfl
  |true=>
   cases c.list.isEmpty with
   |true=>rfl
   |false=>
    simp only[Ab,Ya,Ea,Da,aa];refine(nE c.list.length (fun i=>Ih (i==0) (c.list.getD i default)) false (fun i hi=> ?_) ?_).trans ?_
    ·have hm:=qJ (ja hi);have hgd:c.list.getD i default=c.list[i]:=by simp[hi]
     have:=DU (c:=c.list[i]) (by omega) i (LO Int Unit Bool) (some (LO.ret false)) fun j=>some (.again (w64 (j+1)));simp only[ll,bP,Zd,zb,Ba,bne,Ee]at this;simp only[Zl hi,Ea,Zo hi,Ba,hgd];refine this.trans ?_;rw[Zb hi (by omega)];cases Ih (i==0) c.list[i]<;>rfl
    ·simp only[Qc,Da]
    ·unfold SC;cases (List.range c.list.length).all fun i=>Ih (i==0) (c.list.getD i default)<;>rfl
theorem UZ(c:zh):wo c=some (xA c):=by
 unfold wo xA;cases c.list with
 |nil=>rfl
 |cons y r=> have e1:decide (((y::r).length:Int)>0)=true:=Xa (by simp only[Bb];omega);have e2:geti (y::r) 0=some y:=rfl;simp only[e1,e2,zY,zb,Ba,Ea]
def Nh(c:zh):Bool:=bif c.kind==3 then Hf c&&(match c.list with
 |[y]=>Ji y&&xA y
 |_=>false)else Ji c
theorem zBH{α:Type}(y z:α)(r:List α):(((y::z::r).length:Int)==1)=false:=Ja.2 (by simp only[Bb];omega)
theorem RY{c:zh}(h:zJ (zq c)<=big):Il c=some (Nh c):=by
 unfold Il Nh;simp only[qB,ll,zb,Ba,oN h,UZ];cases c.kind==3 with
 |false=>rfl
 |true=>
  simp only[Ea];cases Hf c with
  |false=>rfl
  |true=>
   cases hl:c.list with
   |nil=>rfl
   |cons y r=>
    cases r with
    |nil=>
     have hm:=qJ (c:=c) (y:=y) (by rw[hl];exact Ob);have e2:geti [y] 0=some y:=rfl;have e3:(([y]:List zh).length:Int)==1:=rfl;simp only[e2,e3,Ea,zY,Ba,oN (show zJ (zq y)<=big by omega),aa];cases Ji y
     ·rfl
     ·simp only[zY,Ba,Ea,aa]
    |cons z r=> simp only[zBH,Ea,Zy,Ba,Da,Tc]
def Tg(c:zh):Bool:=Hf c&&((c.kind==1&&c.list.isEmpty)||(c.kind==2&&(!c.list.isEmpty&&(decide (c.list.length<=64)&&c.list.all Nh))))
theorem TZ{l:List zh}(hl:l.length<=big)(h: ∀c∈l,zJ (zq c)<=big):Zi l=some (!l.all Nh):=by
 unfold Zi ZY;refine ax (Xx l (fun c=> !Nh c) hl (fun i hi=> ?_) ?_) ((Ps _ _).trans (zA4 _ _))
 ·have:qp l[i]=some (!Nh l[i]):=by unfold qp;simp only[qB,RY (h _ (ja hi)),zb,Ba]
  simp only[Zl hi,Ea,Zo hi,zb,Ba,qB,this]
 ·simp only[Qc,Da]
theorem R8{c:zh}(h:zJ (zq c)<=big):Z5 c=some (bif Tg c then 0 else 8):=by
 have hlen:=yh c;have e:decide ((c.list.length:Int)<=64)=decide (c.list.length<=64):=BB _ 64;unfold Z5 Tg;simp only[qB,ll,TZ (show c.list.length<=big by omega) (fun y hy=>by have:=qJ hy;omega),Zd,zb,Ba,dI,ai,e];have h12:c.kind==1->c.kind==2->False:=fun a b=>by rw[Sb]at a b;omega
 cases Hf c with
 |false=>rfl
 |true=> cases c.kind==1<;>cases c.kind==2<;>cases c.list.isEmpty<;>cases decide (c.list.length<=64)<;>cases c.list.all Nh<;>rfl
theorem jB{n:Nat}(h:n<=big):w64 ((n:Int)+1)=((n+1:Nat):Int):=by rw[w64,Zp (by omega) (by unfold big at h;omega)];omega
theorem zAC{n:Nat}(h:n<=big):w64 (1+(n:Int))=((n+1:Nat):Int):=by rw[w64,Zp (by omega) (by unfold big at h;omega)];omega
theorem Kj{α:Type}(f:α->Nat): ∀{l:List α} {i:Nat} (h:i<l.length),((l.take (i+1)).map f).sum=((l.take i).map f).sum+f l[i]
 |[],_,h=>by cases h
 |v::l,0,_=>by simp
 |v::l,i+1,h=>by simp only[Md,Ub,Ie,List.getElem_cons_succ];rw[Kj f (l:=l) (i:=i) (by simpa using h)];omega
theorem yt{α:Type}(f:α->Nat): ∀(l:List α) (i:Nat),((l.take i).map f).sum<=(l.map f).sum
 |[],_=>by simp
 |v::l,0=>by simp
 |v::l,i+1=>by simp only[Md,Ub,Ie];have:=yt f l i;omega
theorem SI{α:Type}(f:α->Nat): ∀{l:List α} {i:Nat} (h:i<l.length),mx f (l.take (i+1))=max (mx f (l.take i)) (f l[i])
 |[],_,h=>by cases h
 |v::l,0,_=>by simp[mx]
 |v::l,i+1,h=>by simp only[Md,mx,List.getElem_cons_succ];rw[SI f (l:=l) (i:=i) (by simpa using h)];omega
theorem TJ{α:Type}(p:α->Bool): ∀{l:List α} {i:Nat} (h:i<l.length),(l.take (i+1)).all p=((l.take i).all p&&p l[i])
 |[],_,h=>by cases h
 |v::l,0,_=>by simp
 |v::l,i+1,h=>by simp only[Md,List.all_cons,List.getElem_cons_succ];rw[TJ p (l:=l) (i:=i) (by simpa using h),Pe]
theorem zA2{α:Type}{p:α->Bool}{l:List α}{i:Nat}(h:i<l.length)(hp:p l[i]=false):l.all p=false:=by rw[List.all_eq_false];exact⟨l[i],ja h,by rw[hp];simp⟩
mutual
def sizC:zh->Nat
 |⟨_,_,_,_,l⟩=>1+Lh l
def Lh:List zh->Nat
 |[]=>0
 |c::r=>sizC c+Lh r
end
theorem YK(l:List zh):Lh l=(l.map sizC).sum:=by
 induction l with
 |nil=>rw[Lh];rfl
 |cons c l ih=>rw[Lh,ih];rfl
theorem uh(c:zh):sizC c=1+(c.list.map sizC).sum:=by obtain⟨k,n,m,d,l⟩:=c;rw[sizC,YK]
theorem zAu: ∀l:List zh,Lh l<=zL zq l:=by
 have key: ∀(n:Nat) (l:List zh),zL zq l<n->Lh l<=zL zq l:=by
  intro n
  induction n with
  |zero=>intro l h;omega
  |succ n ih=>
   intro l
   induction l with
   |nil=>intro _;rw[Lh];exact Gc _
   |cons v l ihl=> intro h;rw[Rn]at h ⊢;rw[Lh,uh,<-YK];have hz:=Jj v;have hd:=Ny v.decl;have h1:=ih v.list (by omega);have h2:=ihl (by omega);omega
 exact fun l=>key _ l (Nat.lt_succ_self _)
theorem Nr(c:zh):sizC c<=zJ (zq c):=by have:=zAu [c];rw[Lh,Lh,Rn,zC0]at this;omega
theorem rO{c:zh}{m:Nat}(h:zJ (zq c)<=big)(hm:m<=big):
  ∃r:Nat,qh (c,(m:Int))=some (r:Int)/\r<=sizC c/\(sizC c<=m->r=sizC c)/\(m<sizC c->m<r):=by
 have key: ∃y:Int,qh (c,(m:Int))=some y/\ ∃r:Nat,y=(r:Int)/\r<=sizC c/\ ∀m':Nat,(m:Int)=(m':Int)->(sizC c<=m'->r=sizC c)/\(m'<sizC c->m'<r):=by
  refine Px G5 (fun x:zh×Int=>zJ (zq x.1)) (fun x=>zJ (zq x.1)<=big/\ ∃m:Nat,x.2=(m:Int)/\m<=big)
   (fun x (y:Int)=> ∃r:Nat,y=(r:Int)/\r<=sizC x.1/\ ∀m':Nat,x.2=(m':Int)->(sizC x.1<=m'->r=sizC x.1)/\(m'<sizC x.1->m'<r)) (fun S x hx hS=> ?_) (x:=(c,(m:Int))) ⟨h,m,rfl,hm⟩
  obtain⟨c,n⟩:=x;obtain⟨hc,m,hn,hm⟩:=hx;have hn:n=(m:Int):=hn;have hc:zJ (zq c)<=big:=hc;subst hn;have hlen:=yh c;have hsz:=Nr c;have he:=uh c;unfold Wp;have hw: ∀a:Nat,a<=big->w64 ((a:Int)+0)=(a:Int):=fun a ha=>by rw[w64,Zp (by omega) (by unfold big at ha;omega)];omega
  refine Wx (A:=Nat) c.list.length (fun i a=>((a:Int),(i:Int))) (fun i a=>a<=1+((c.list.take i).map sizC).sum/\(1+((c.list.take i).map sizC).sum<=m->a=1+((c.list.take i).map sizC).sum)/\(m<1+((c.list.take i).map sizC).sum->m<a)) _ (a0:=1) rfl (by simp) (fun i a hi hI=> ?_) (fun a hI=> .inl ?_)
  ·obtain⟨i1,i2,i3⟩:=hI;have ht:=yt sizC c.list i;have ht1:=yt sizC c.list (i+1);rw[Kj sizC hi]at ht1;have hmm:=qJ (ja hi);by_cases ham:a<=m
   ·have ha:a=1+((c.list.take i).map sizC).sum:=i2 (by omega);have e1:decide ((a:Int)<=(m:Int))=true:=Xa (by omega);have hw2:w64 ((m:Int) - (a:Int))=((m - a:Nat):Int):=by rw[w64,Zp (by omega) (by unfold big at hm;omega)];omega
    obtain⟨y,hy1,r,hy2,hy3,hy4⟩:=hS (c.list[i],((m - a:Nat):Int)) ⟨by show zJ (zq c.list[i])<=big;omega,m - a,rfl,by omega⟩ hmm;have hy3:r<=sizC c.list[i]:=hy3;obtain⟨hy5,hy6⟩:=hy4 (m - a) rfl;have hy5:sizC c.list[i]<=m - a->r=sizC c.list[i]:=hy5;have hy6:m - a<sizC c.list[i]->m - a<r:=hy6;have hw3:w64 ((a:Int)+(r:Int))=((a+r:Nat):Int):=zB9 (by omega);refine .inl ⟨a+r,?_,?_,?_,?_⟩
    ·simp only[Zl hi,e1,Ea,Zo hi,zb,Ba,qB,hw2,hy1,hy2,hw3,Zb hi (show c.list.length<=big by omega)]
    ·rw[Kj sizC hi];omega
    ·rw[Kj sizC hi];omega
    ·rw[Kj sizC hi];omega
   ·have e1:decide ((a:Int)<=(m:Int))=false:=Fb (by omega);refine .inr (.inr ⟨(a:Int),?_,(a:Int),rfl,a,rfl,?_,fun m' hm'=>⟨fun h=> ?_,fun h=> ?_⟩⟩)
    ·simp only[Zl hi,e1,Ea,Da]
    ·show a<=sizC c;omega
    ·have hm':(m:Int)=(m':Int):=hm';have h:sizC c<=m':=h;show a=sizC c;omega
    ·have hm':(m:Int)=(m':Int):=hm';show m'<a;omega
  ·rw[Od]at hI;obtain⟨i1,i2,i3⟩:=hI;refine⟨(a:Int),?_,(a:Int),rfl,a,rfl,?_,fun m' hm'=>⟨fun h=> ?_,fun h=> ?_⟩⟩
   ·simp only[Qc,Da]
   ·show a<=sizC c;omega
   ·have hm':(m:Int)=(m':Int):=hm';have h:sizC c<=m':=h;show a=sizC c;omega
   ·have hm':(m:Int)=(m':Int):=hm';have h:m'<sizC c:=h;show m'<a;omega
 obtain⟨y,h1,r,rfl,h2,h3⟩:=key;exact⟨r,h1,h2,h3 m rfl⟩
def Jh(c:zh):Bool:=c.kind==7||c.kind==8
mutual
def Cf:zh->Nat
 |⟨k,_,_,d,l⟩=>bif k==7 then 1+Ve d.value else bif k==8 then 1 else Kr l
def Kr:List zh->Nat
 |[]=>0
 |c::r=>max ((bif Jh c then 0 else 1)+Cf c) (Kr r)
end
def Gg(c:zh):Nat:=(bif Jh c then 0 else 1)+Cf c
theorem JV(l:List zh):Kr l=mx Gg l:=by
 induction l with
 |nil=>rw[Kr];rfl
 |cons c l ih=>rw[Kr,ih];rfl
theorem dx(c:zh):Cf c=bif c.kind==7 then 1+Ve c.decl.value else bif c.kind==8 then 1 else mx Gg c.list:=by obtain⟨k,n,m,d,l⟩:=c;rw[Cf,JV]
theorem nJ: ∀c:zh,Cf c<=zJ (zq c):=by
 have key: ∀(n:Nat) (c:zh),zJ (zq c)<n->Cf c<=zJ (zq c):=by
  intro n
  induction n with
  |zero=>intro c h;omega
  |succ n ih=>
   intro c h;have hz:=Jj c;have hd:=uk c.decl;rw[dx];cases c.kind==7 with
   |true=> have h1:=nk c.decl.value;have h2:=Cr c.decl.value;simp only[Ea];omega
   |false=>
    cases c.kind==8 with
    |true=>simp only[Ea,Da];omega
    |false=>
     simp only[Da];have: ∀l:List zh,(∀y∈l,y∈c.list)->mx Gg l<=1+zL zq l:=by
      intro l
      induction l with
      |nil=>intro _;exact Gc _
      |cons y l ihl=>
       intro hl;have h1:=ihl fun z hz=>hl z (Kb _ hz);have h2:=qJ (hl y Ob);have h3:=ih y (by omega);have h4:Gg y<=1+Cf y:=by unfold Gg;cases Jh y<;>simp only[Ea,Da]<;>omega
       rw[mx,Rn];omega
     have:=this c.list fun _ h=>h;omega
 exact fun c=>key _ c (Nat.lt_succ_self _)
theorem LY{c:zh}(h:zJ (zq c)<=big):Ai c=some (Cf c:Int):=by
 refine ng (fun c=>zJ (zq c)) (fun c=>zJ (zq c)<=big) (fun c=>(Cf c:Int)) (fun S c hc hS=> ?_) h;have hz:=Jj c;have hd:=uk c.decl;have hlen:=yh c;have hv:=Cr c.decl.value;unfold Cz;rw[dx];cases h7:c.kind==7 with
 |true=> have h1:=nk c.decl.value;simp only[Ea,wC (show szL c.decl.value<=big by omega),zb,Ba,zAC (show Ve c.decl.value<=big by omega)];rw[af]
 |false=>
  cases h8:c.kind==8 with
  |true=>rfl
  |false=>
   simp only[Da];refine(zAb c.list Gg (fun a i=>((a:Int),(i:Int))) (fun a=>(a:Int)) (a0:=0) rfl (fun i a hi=> ?_) (fun a=> ?_)).trans ?_
   ·have hm:=qJ (ja hi);have hs:=hS c.list[i] (by omega) hm;have hst:=nJ c.list[i];simp only[Zl hi,Ea,Zo hi,zb,Ba,qB,hs,Zb hi (show c.list.length<=big by omega)];have hlf:(bif c.list[i].kind==7 then true else c.list[i].kind==8)=Jh c.list[i]:=by unfold Jh;cases c.list[i].kind==7<;>rfl
    rw[hlf];have hst':Gg c.list[i]=(bif Jh c.list[i]then 0 else 1)+Cf c.list[i]:=rfl;cases hlc:Jh c.list[i]with
    |true=>
     rw[hlc,Ea,Cc]at hst';have hw:w64 (0+(Cf c.list[i]:Int))=(Gg c.list[i]:Int):=by rw[w64,Zp (by omega) (by unfold big at hc;omega)];omega
     simp only[Ea,zQ,hw,Cw]
    |false=>
     rw[hlc,Da]at hst';have hw:w64 (1+(Cf c.list[i]:Int))=(Gg c.list[i]:Int):=by rw[w64,Zp (by omega) (by unfold big at hc;omega)];omega
     simp only[Da,zQ,hw,Cw]
   ·simp only[Qc,Da]
   ·rw[Nat.zero_max]
mutual
def supC:zh->Bool
 |⟨k,n,m,d,l⟩=>bif k==7 then l.isEmpty&&(n==[]&&(m==0&&jf d))else bif k==8 then l.isEmpty&&Hf ⟨k,n,m,d,l⟩else
  (k==3||(k==1||k==2))&&(Hf ⟨k,n,m,d,l⟩&&((bif k==3 then l.length==1 else decide (2<=l.length))&&Vq l))
def Vq:List zh->Bool
 |[]=>true
 |c::r=>supC c&&Vq r
end
theorem dS(l:List zh):Vq l=l.all supC:=by
 induction l with
 |nil=>rw[Vq];rfl
 |cons c l ih=>rw[Vq,ih];rfl
theorem Mr(c:zh):supC c=bif c.kind==7 then c.list.isEmpty&&(c.name==[]&&(c.num==0&&jf c.decl))else bif c.kind==8 then c.list.isEmpty&&Hf c else
  (c.kind==3||(c.kind==1||c.kind==2))&&(Hf c&&((bif c.kind==3 then c.list.length==1 else decide (2<=c.list.length))&&c.list.all supC)):=by
 obtain⟨k,n,m,d,l⟩:=c;rw[supC,dS]
theorem vR{α:Type}(l:List α):decide ((l.length:Int)<2)= !decide (2<=l.length):=by
 by_cases h:2<=l.length
 ·rw[Xa h,Fb (by omega)];rfl
 ·rw[Fb h,Xa (by omega)];rfl
theorem bJ{α:Type}(l:List α):((l.length:Int)==1)=(l.length==1):=by rw[Bool.eq_iff_iff,Sb,Sb];omega
theorem V7{c:zh}(h:zJ (zq c)<=big):ZC c=some (supC c):=by
 refine ng (fun c=>zJ (zq c)) (fun c=>zJ (zq c)<=big) (fun c=>supC c) (fun S c hc hS=> ?_) h;have hlen:=yh c;have hd:=jy c;unfold OA;rw[Mr];simp only[qB,bP,dP (show zJ (QL c.decl)<=big by omega),ai,Zd,zb,Ba];cases h7:c.kind==7 with
 |true=>
  simp only[Ea];cases c.name==[]<;>cases c.num==0<;>cases c.list.isEmpty<;>cases jf c.decl<;>rfl
 |false=>
  cases h8:c.kind==8 with
  |true=>
   simp only[Ea,Da];cases Hf c<;>cases c.list.isEmpty<;>rfl
  |false=>
   simp only[Da];cases h3:c.kind==3 with
   |true=>
    simp only[Ea,Xd,aa,bJ];cases Hf c with
    |false=>rfl
    |true=>
     cases hl:c.list with
     |nil=>rfl
     |cons y r=>
      cases r with
      |nil=> have hm:=qJ (c:=c) (y:=y) (by rw[hl];exact Ob);have e2:geti [y] 0=some y:=rfl;have e3:(([y]:List zh).length==1)=true:=rfl;simp only[e2,e3,Ea,zY,Ba,hS y (show zJ (zq y)<=big by omega) hm,aa,List.all_cons,List.all_nil,Vb]
      |cons z r=>
       have e3:((y::z::r).length==1)=false:=by simp
       simp only[e3,Ea,Zy,Ba,Da,Jc,Tc]
   |false=>
    have hj: ∀{R:Type} (k:Bool->Option R),zD (X:=Bool) (bif c.kind==1 then some (LX.out (c.kind==1))else some (LX.out (c.kind==2))) k=k (c.kind==1||c.kind==2):=by intro R k;cases c.kind==1<;>rfl
    simp only[Da,Ld];rw[hj];cases (c.kind==1||c.kind==2)with
    |false=>rfl
    |true=>
     simp only[Ea,vR,aa];have hl:zX (fun(s8:Int)=>
        bif decide (s8<(c.list.length:Int))then
         (geti c.list s8).bind fun y9=>
         (S y9).bind fun y10=>
         bif !y10 then
          some (LO.ret false)
         else
          some (LO.again (w64 (s8+1)))
        else
         some (LO.out ()):Int->Option (LO (Int) (Unit) _)) 0 (fun _=>some true)=some (c.list.all supC):=by
      refine(Nl c.list (fun v=>bif supC v then none else some false) () (fun i hi=> ?_) ?_).trans ?_
      ·have hm:=qJ (ja hi);simp only[Zl hi,Ea,Zo hi,Ba,hS _ (show zJ (zq c.list[i])<=big by omega) hm,Zb hi (show c.list.length<=big by omega)];cases supC c.list[i]<;>rfl
      ·simp only[Qc,Da]
      ·rw[Ko];cases c.list.all supC<;>rfl
     rw[hl];cases Hf c<;>cases decide (2<=c.list.length)<;>rfl
theorem PY(c:zh):Vi c=some (Jh c):=by unfold Vi Jh;cases c.kind==7<;>rfl
theorem Po(c:zh):1<=sizC c:=by rw[uh];omega
theorem VZ{c:zh}{m:Nat}(h:zJ (zq c)<=big)(hm:m<=1500):
  ∃y:(Int×Bool)×Int,Z6 (c,(m:Int))=some y/\y.1.2=(supC c&&decide (m+sizC c<=1500))/\(y.1.2=true->y.1.1=(Cf c:Int)/\y.2=((m+sizC c:Nat):Int)):=by
 have key: ∃y:(Int×Bool)×Int,Z6 (c,(m:Int))=some y/\ ∀m':Nat,(m:Int)=(m':Int)->y.1.2=(supC c&&decide (m'+sizC c<=1500))/\(y.1.2=true->y.1.1=(Cf c:Int)/\y.2=((m'+sizC c:Nat):Int)):=by
  refine Px nZ (fun x:zh×Int=>zJ (zq x.1)) (fun x=>zJ (zq x.1)<=big/\ ∃m:Nat,x.2=(m:Int)/\m<=1500)
   (fun x (y:(Int×Bool)×Int)=> ∀m':Nat,x.2=(m':Int)->y.1.2=(supC x.1&&decide (m'+sizC x.1<=1500))/\(y.1.2=true->y.1.1=(Cf x.1:Int)/\y.2=((m'+sizC x.1:Nat):Int))) (fun S x hx hS=> ?_) (x:=(c,(m:Int))) ⟨h,m,rfl,hm⟩
  obtain⟨c,n⟩:=x;obtain⟨hc,m,hn,hm⟩:=hx;have hn:n=(m:Int):=hn;have hc:zJ (zq c)<=big:=hc;subst hn;have hlen:=yh c;have hd:=jy c;have hsz:=Nr c;have he:=uh c;have hv:=Cr c.decl.value;have hzd:=uk c.decl;have fin: ∀(d:Int) (b:Bool) (n:Int),b=(supC c&&decide (m+sizC c<=1500))->(b=true->d=(Cf c:Int)/\n=((m+sizC c:Nat):Int))->
    ∀m':Nat,(m:Int)=(m':Int)->b=(supC c&&decide (m'+sizC c<=1500))/\(b=true->d=(Cf c:Int)/\n=((m'+sizC c:Nat):Int)):=by
   intro d b n h1 h2 m' hm';obtain rfl:m=m':=by omega
   exact⟨h1,h2⟩
  have hw:w64 ((m:Int)+1)=((m+1:Nat):Int):=jB (by unfold big;omega);unfold Xj;simp only[hw,qB];by_cases hm1:m+1>1500
  ·have e1:decide (((m+1:Nat):Int)>1500)=true:=Xa (by omega);simp only[e1,Ea];have e2:decide (m+sizC c<=1500)=false:=Fb (by omega);exact⟨_,rfl,fin _ _ _ (by rw[e2,Tc]) (fun h=>by cases h)⟩
  have e1:decide (((m+1:Nat):Int)>1500)=false:=Fb (by omega);simp only[e1,Da];have hs:=Mr c;have hdp:=dx c;cases h7:c.kind==7 with
  |true=>
   rw[h7]at hs hdp;simp only[Ea]at hs hdp ⊢;rw[xV (show szL c.decl.value<=big by omega),U1 (show zJ (QL c.decl)<=big by omega)];simp only[zb,Ba,ai,Zd];refine⟨_,rfl,fin _ _ _ ?_ ?_⟩
   ·rw[hs];have hde:jf c.decl=(jf c.decl&&(errS c.decl.value==0)):=by unfold jf;cases xg c.decl.name<;>cases errS c.decl.value==0<;>simp
    cases hle:c.list.isEmpty with
    |false=>rfl
    |true=>
     have hl:c.list=[]:=Jd.1 hle;rw[hl]at he;have e2:decide (m+sizC c<=1500)=true:=Xa (by rw[he];simp;omega);rw[e2];by_cases her:errS c.decl.value=0
     ·rw[Ma her];cases c.name==[]<;>cases c.num==0<;>cases jf c.decl<;>rfl
     ·rw[Oa her];have her':=Ja.2 her;rw[her',Tc]at hde;rw[hde];simp only[her'];cases c.name==[]<;>cases c.num==0<;>rfl
   ·intro hf;have her:errS c.decl.value=0:=by
     by_cases her:errS c.decl.value=0
     ·exact her
     ·rw[Oa her]at hf;have her':=Ja.2 her;simp only[her']at hf;revert hf;cases c.list.isEmpty<;>cases c.name==[]<;>cases c.num==0<;>intro h<;>cases h
    have hl:c.list=[]:=by
     cases hle:c.list.isEmpty with
     |true=>exact Jd.1 hle
     |false=>rw[hle]at hf;cases hf
    have h1:=nk c.decl.value;rw[Ma her,hdp];rw[hl]at he;simp only[jB (show Ve c.decl.value<=big by omega)];refine⟨by rw[af],?_⟩;rw[he];rfl
  |false=>
   rw[h7]at hs hdp;simp only[Da]at hs hdp ⊢;cases h8:c.kind==8 with
   |true=>
    rw[h8]at hs hdp;simp only[Ea]at hs hdp ⊢;simp only[zb,Ba,ai,Zd,ll];refine⟨_,rfl,fin _ _ _ ?_ ?_⟩
    ·rw[hs];cases hle:c.list.isEmpty with
     |false=>rfl
     |true=> have hl:c.list=[]:=Jd.1 hle;rw[hl]at he;have e2:decide (m+sizC c<=1500)=true:=Xa (by rw[he];simp;omega);rw[e2];cases Hf c<;>rfl
    ·intro hf;have hl:c.list=[]:=by
      cases hle:c.list.isEmpty with
      |true=>exact Jd.1 hle
      |false=>rw[hle]at hf;cases hf
     rw[hl]at he;rw[hdp,he];exact⟨rfl,rfl⟩
   |false=>
    rw[h8]at hs hdp;simp only[Da]at hs hdp ⊢;have hj: ∀{R:Type} (k:Bool->Option R),zD (X:=Bool) (bif c.kind==3 then some (LX.out (c.kind==3))else bif c.kind==1 then some (LX.out (c.kind==1))else some (LX.out (c.kind==2))) k=k (c.kind==3||(c.kind==1||c.kind==2)):=by intro R k;cases c.kind==3<;>cases c.kind==1<;>rfl
    rw[hj];cases hk:(c.kind==3||(c.kind==1||c.kind==2))with
    |false=>
     rw[hk]at hs;exact⟨_,rfl,fin _ _ _ (by rw[hs];rfl) (fun h=>by cases h)⟩
    |true=>
     rw[hk]at hs;simp only[Ea,aa]at hs ⊢;have hg:(bif bif !Hf c then true else bif c.kind==3 then(c.list.length:Int) != 1 else false then true else bif c.kind != 3 then decide ((c.list.length:Int)<2)else false)= !(Hf c&&(bif c.kind==3 then c.list.length==1 else decide (2<=c.list.length))):=by rw[vR,bne,bne,bJ];cases Hf c<;>cases c.kind==3<;>cases c.list.length==1<;>rfl
     simp only[ll,zb,Ba,hg];cases hb:(Hf c&&(bif c.kind==3 then c.list.length==1 else decide (2<=c.list.length)))with
     |false=>
      rw[<-Pe,hb]at hs;exact⟨_,rfl,fin _ _ _ (by rw[hs];rfl) (fun h=>by cases h)⟩
     |true=>
      rw[<-Pe,hb,aa]at hs;simp only[Ab,Da];refine Wx (A:=Nat×Nat) c.list.length (fun i a=>(((a.1:Int),(i:Int)),(a.2:Int))) (fun i a=>a.2=m+1+((c.list.take i).map sizC).sum/\a.2<=1500/\a.1=mx Gg (c.list.take i)/\(c.list.take i).all supC=true) _ (a0:=(0,m+1)) rfl ⟨by simp,by show m+1<=1500;omega,by simp[mx],by simp⟩ (fun i a hi hI=> ?_) (fun a hI=> .inl ?_)
      ·obtain⟨i1,i2,i3,i4⟩:=hI;have ht:=yt sizC c.list (i+1);rw[Kj sizC hi]at ht;have hmm:=qJ (ja hi);obtain⟨y,hy1,hy2⟩:=hS (c.list[i],(a.2:Int)) ⟨by show zJ (zq c.list[i])<=big;omega,a.2,rfl,i2⟩ hmm;obtain⟨hy3,hy4⟩:=hy2 a.2 rfl;have hy3:y.1.2=(supC c.list[i]&&decide (a.2+sizC c.list[i]<=1500)):=hy3;simp only[Zl hi,Ea,Zo hi,Ba,qB,hy1];cases hf:y.1.2 with
       |false=>
        refine .inr (.inl ⟨_,rfl,fin _ _ _ ?_ (fun h=>by cases h)⟩);rw[hf]at hy3;cases hsi:supC c.list[i]with
        |false=>rw[hs,zA2 hi hsi];rfl
        |true=> rw[hsi,aa]at hy3;have:=of_decide_eq_false hy3.symm;have e2:decide (m+sizC c<=1500)=false:=Fb (by omega);rw[e2,Tc]
       |true=>
        obtain⟨hy5,hy6⟩:=hy4 hf;rw[hf]at hy3;have hy3:=hy3.symm;rw[Ca]at hy3;have hle:=Eb hy3.2;have hdl:=nJ c.list[i];have hy5:y.1.1=(Cf c.list[i]:Int):=hy5;have hy6:y.2=((a.2+sizC c.list[i]:Nat):Int):=hy6;refine .inl ⟨(max a.1 (Gg c.list[i]),a.2+sizC c.list[i]),?_,?_,hle,?_,?_⟩
        ·have hst:Gg c.list[i]=(bif Jh c.list[i]then 0 else 1)+Cf c.list[i]:=rfl;have hw2:=jB (n:=Cf c.list[i]) (by omega);simp only[Ab,Da,PY,Ba,hy5,hy6,hw2,Zb hi (show c.list.length<=big by omega)];cases hlf:Jh c.list[i]with
         |true=> rw[hlf]at hst;rw[Ea,Cc]at hst;simp only[Ab,Da,zQ,hst,Cw]
         |false=> rw[hlf]at hst;rw[Da,af]at hst;simp only[Ya,Ea,zQ,hst,Cw]
        ·rw[Kj sizC hi,i1];show _+_+_+_=_;omega
        ·rw[SI Gg hi,i3]
        ·rw[TJ supC hi,i4,hy3.1];rfl
      ·rw[Od]at hI;obtain⟨i1,i2,i3,i4⟩:=hI;refine⟨((a.1:Int),(a.2:Int)),?_,_,rfl,fin _ _ _ ?_ (fun _=>⟨?_,?_⟩)⟩
       ·simp only[Qc,Da]
       ·have e2:decide (m+sizC c<=1500)=true:=Xa (by omega);rw[hs,i4,e2];rfl
       ·rw[hdp,i3]
       ·show(a.2:Int)=_;rw[i1,he];congr 1;omega
 obtain⟨y,h1,h2⟩:=key;exact⟨y,h1,h2 m rfl⟩
def qm(c:zh):Bool:=supC c&&(decide (sizC c<=1500)&&decide (Cf c<=16))
theorem dQ{c:zh}(h:zJ (zq c)<=big):Ze c=some (bif qm c then 0 else 8):=by
 obtain⟨y,h1,h2,h3⟩:=VZ (m:=0) h (by omega);unfold Ze qm;replace h1:Z6 (c,0)=some y:=h1;simp only[qB,h1,zb,Ba];rw[Cc]at h2;cases hf:y.1.2 with
 |false=> rw[hf]at h2;rw[<-Pe,<-h2];rfl
 |true=> have e:decide ((Cf c:Int)>16)= !decide (Cf c<=16):=Iw _ 16;rw[(h3 hf).1,e];rw[hf]at h2;rw[<-Pe,<-h2];cases decide (Cf c<=16)<;>rfl
theorem I8{c:zh}(h:zJ (zq c)<=big):Tv c=some (qm c):=by
 obtain⟨r,h1,h2,h3,h4⟩:=rO (m:=1500) h (by unfold big;omega);replace h1:qh (c,1500)=some (r:Int):=h1;have e:decide ((Cf c:Int)<=16)=decide (Cf c<=16):=BB _ 16;have e2:decide ((r:Int)<=1500)=decide (sizC c<=1500):=by
  by_cases hs:sizC c<=1500
  ·rw[Xa hs,h3 hs,Xa (by omega)]
  ·have:=h4 (by omega);rw[Fb hs,Fb (by omega)]
 unfold Tv qm;simp only[qB,h1,zb,Ba,LY h,V7 h,Zd,e2];cases decide (sizC c<=1500)with
 |false=>simp
 |true=>simp only[Ea,e];cases decide (Cf c<=16)<;>cases supC c<;>rfl
mutual
/-- The declarations of a condition, in order. -/
def Zh:zh->List zA
 |⟨k,_,_,d,l⟩=>bif k==7 then [d]else Dr l
def Dr:List zh->List zA
 |[]=>[]
 |c::r=>Zh c++Dr r
end
theorem PM: ∀l:List zh,Dr l=l.flatMap Zh
 |[]=>by rw[Dr];rfl
 |c::r=>by rw[Dr,PM r,ve]
theorem mg(c:zh):Zh c=bif c.kind==7 then [c.decl]else c.list.flatMap Zh:=by obtain⟨⟩:=c;rw[Zh,PM]
def allW:Str:=[97,108,108]
def Tw:Str:=[115,99,114,101,101,110]
mutual
/-- Whether a condition holds: a width in thousandths, a truth value for each declaration. -/
def holC(w:Int):zh->List Bool->Bool
 |⟨k,n,m,_,l⟩,ys=>
  bif k==4 then n==allW||n==Tw else bif k==5 then decide (w>=m)else bif k==6 then decide (w<=m)else bif k==7 then ys.headD false else bif k==8 then false else
  bif k==1 then Jf w l ys else bif k==2 then Ff w l ys else !Ff w l ys
def Jf(w:Int):List zh->List Bool->Bool
 |[],_=>true
 |c::r,ys=>holC w c (ys.take (Zh c).length)&&Jf w r (ys.drop (Zh c).length)
def Ff(w:Int):List zh->List Bool->Bool
 |[],_=>false
 |c::r,ys=>holC w c (ys.take (Zh c).length)||Ff w r (ys.drop (Zh c).length)
end
theorem zBx(w:Int)(c:zh)(ys:List Bool):holC w c ys=
  bif c.kind==4 then c.name==allW||c.name==Tw else bif c.kind==5 then decide (w>=c.num)else bif c.kind==6 then decide (w<=c.num)else bif c.kind==7 then ys.headD false else bif c.kind==8 then false else
  bif c.kind==1 then Jf w c.list ys else bif c.kind==2 then Ff w c.list ys else !Ff w c.list ys:=by
 obtain⟨⟩:=c;rw[holC]
def Hw(c:zh)(w:Int)(ys:List Bool):Bool×Int:=
 bif !(Tg c||qm c)then(false,8)else
 bif decide (w<0)||(decide (w>1000000000)|| !(ys.length==(Zh c).length))then(false,2)else(holC (1000*w) c ys,0)
theorem Eo{y:zh}: ∀{l:List zh},y∈l->sizC y<=(l.map sizC).sum
 |[],h=>by cases h
 |c::r,h=>by
  rw[Ub,Ie];rcases Ua.1 h with rfl|h
  ·omega
  ·have:=Eo h;omega
theorem oJ: ∀{c:zh},supC c=true-> ∀d∈Zh c,jf d=true:=by
 have key: ∀(n:Nat) (c:zh),sizC c<=n->supC c=true-> ∀d∈Zh c,jf d=true:=by
  intro n
  induction n with
  |zero=>intro c hc;have:=Po c;omega
  |succ n ih=>
   intro c hc hs d hd;rw[mg]at hd;rw[Mr]at hs;cases h7:c.kind==7 with
   |true=> rw[h7,Ea]at hs hd;simp only[Ca]at hs;rw[Yb.1 hd];exact hs.2.2.2
   |false=>
    rw[h7,Da]at hs hd;obtain⟨y,hy,hd⟩:=Wd.1 hd;have hlt:sizC y<=n:=by have h1:=uh c;have h2:=Eo hy;omega
    refine ih y hlt ?_ d hd;cases h8:c.kind==8 with
    |true=>
     rw[h8,Ea]at hs;simp only[Ca,Jd]at hs;rw[hs.1]at hy;cases hy
    |false=>
     rw[h8,Da]at hs;cases h3:c.kind==3<;>rw[h3]at hs<;>simp at hs
     all_goals first|exact hs.2.2 y hy|exact hs.2.2.2 y hy|exact hs.2 y hy|skip
 intro c hs;exact key _ c (La _) hs
theorem JL{l:List zh}(h:SC l=true){y:zh}(hy:y∈l): ∃f,Ih f y=true:=by
 obtain⟨i,hi,rfl⟩:=Uf hy;have:=Cb.1 h i (jb.2 hi);refine⟨i==0,?_⟩
 rwa [Bg,Ka hi]at this
theorem EU{f:Bool}{y:zh}(h:Ih f y=true):Zh y=[]:=by
 unfold Ih at h;simp only[Ca,Jd]at h;rw[mg,h.1];have h7:(y.kind==7)=false:=by rw[Ja];intro e;simp[e]at h
 rw[h7];rfl
theorem AL{c:zh}(h:Ji c=true):Zh c=[]:=by unfold Ji at h;simp only[Ca,Sb]at h;rw[mg,h.1,List.flatMap_eq_nil_iff.2 fun y hy=>let⟨_,e⟩:=JL h.2.2.2 hy;EU e];rfl
theorem uU{c:zh}(h:Nh c=true):Zh c=[]:=by
 unfold Nh at h;cases h3:c.kind==3 with
 |false=>rw[h3]at h;exact AL h
 |true=>
  rw[h3,Ea,Ca]at h;have:=h.2;revert this;rw[mg,eq_of_beq h3];cases hl:c.list with
  |nil=>intro _;rfl
  |cons y r=>
   cases r with
   |nil=> intro hq;simp only[Ca]at hq;simp[AL hq.1]
   |cons z r=>intro hq;cases hq
theorem CW{c:zh}(h:Tg c=true):Zh c=[]:=by
 unfold Tg at h;simp only[Ca,Yc,Sb,Jd,Cb]at h;rw[mg];rcases h.2 with⟨hk,hl⟩|⟨hk,_,_,hl⟩
 ·rw[hk,hl];rfl
 ·rw[hk,List.flatMap_eq_nil_iff.2 fun y hy=>uU (hl y hy)];rfl
theorem pU{R:Type}(x:Option R):both x x=x:=by unfold both;rw[Ma rfl]
theorem bT{l:List ze}(h:szL l<=big):qP l=some l:=by
 unfold qP;have b:=Eg l;unfold big at h;have a:zR 0 l.length 80=true:=Ti (by omega);cases l with
 |nil=>simp only[a,pU,Qo,List.isEmpty_nil,Ea]
 |cons v r=>simp_all
theorem zB6{l:List ze}(h:szL l<=big):Z8 l=some l:=by
 refine ng (fun l=>szL l) (fun l=>szL l<=big) (fun l=>l) (fun S l hl hS=> ?_) h;unfold Dp;have hlen:=Eg l;simp only[zb,bT hl,Ba];refine(ik l (fun i (a:List ze)=>((i:Int),a)) (fun v a=>some (.again a)) (fun a=>some (.out a)) (fun i a=>a=l) (a:=l) rfl rfl (fun i a hi hI=> ?_) (fun a hI=> ?_) (r:= .out l) ?_)
 ·subst hI;have hsz:=Dh (ja hi);have hv2:=ag a[i];refine⟨?_,fun a' ha=>by cases ha;rfl⟩;have h1:S a[i].list=some a[i].list:=hS a[i].list (by omega) (by omega);have h2:decide ((0:Int)<=(i:Int))=true:=Xa (by omega);have h3:a[i]? =some a[i]:=Ka hi;have h4:a.set i ⟨a[i].token,a[i].list⟩=a:=by
   have:(⟨a[i].token,a[i].list⟩:ze)=a[i]:=by cases a[i];rfl
   rw[this,List.set_getElem_self]
  simp only[Zl hi,h2,Bool.and_self,Ea,Qo,Ec,h3,Ba,h1,h4,Zb hi (by omega),Ee]
 ·grind
 ·rw[Pj (fun a v=>a) (fun v a=>rfl)];congr 2;clear hl hS hlen h;generalize l=b at*;have: ∀(m b:List ze),m.foldl (fun a _=>a) b=b:=by
   intro m
   induction m with
   |nil=>intro b;rfl
   |cons v m ih=>grind
  exact this _ _
theorem YA{l:List ze}{i:Nat}(h:i<l.length):Uj ((i:Int),l)=some (isSp l[i]):=by unfold Uj;simp only[zb,Zo h,Ba];rfl
theorem AU{l:List ze}(h:szL l<=big):og l=some (if errS l=0 then(trimS l,0)else([],errS l)):=by
 unfold og;have hlen:=Eg l;simp only[zb,wD h,Ba];by_cases h1:errS l=0
 ·rw[Ma h1];have hne:(errS l != 0)=false:=by simp[h1]
  simp only[hne,Da];have hdl:=List.Sublist.length_le (De isSp (l:=l));have hdd:=Lx isSp l;refine(lg (r:= .out ((l.length - (l.dropWhile isSp).length:Nat):Int)) (Us (fun s=> ∃k:Nat,s=(k:Int)/\k<=l.length/\(l.drop k).dropWhile isSp=l.dropWhile isSp) (fun s=>l.length - s.toNat) _ (fun s hs=> ?_) ⟨0,rfl,Gc _,rfl⟩)).trans ?_
  ·obtain⟨k,rfl,hk,he⟩:=hs;by_cases hlt:k<l.length
   ·rw[Va hlt,yc]at he;have hw:=Zb hlt (by grind);cases hv:isSp l[k]with
    |true=> rw[Ma hv]at he;refine .inl ⟨((k+1:Nat):Int),?_,⟨k+1,rfl,hlt,he⟩,by omega⟩;simp only[Zl hlt,zY,YA hlt,Ba,hv,Ea,hw]
    |false=>
     rw[Oa (by rw[hv];simp)]at he;refine .inr (.inl ⟨(k:Int),?_,?_⟩)
     ·simp only[Zl hlt,zY,YA hlt,Ba,hv,Ea,Da]
     grind
   ·have hkk:k=l.length:=by omega
    simp_all
  ·rw[ztc];generalize hf:l.length - (l.dropWhile isSp).length=f at hdd;have hfl:f<=l.length:=by omega
   generalize l.dropWhile isSp=d at hdd;subst hdd;refine(lg (r:= .out ((f+(trimB (l.drop f)).length:Nat):Int)) (Us (fun s=> ∃m:Nat,s=(m:Int)/\f<=m/\m<=l.length/\trimB ((l.take m).drop f)=trimB (l.drop f)) (fun s=>s.toNat) _ (fun s hs=> ?_) ⟨l.length,rfl,hfl,La _,by grind⟩)).trans ?_
   ·obtain⟨m,rfl,hm1,hm2,he⟩:=hs;by_cases hlt:f<m
    ·have hm:m - 1<l.length:=by omega
     have hsn:(l.take m).drop f=(l.take (m - 1)).drop f++[l[m - 1]]:=by
      have:l.take m=l.take (m - 1)++[l[m - 1]]:=by
       have:=Mc hm
       rwa [show m - 1+1=m by omega]at this
      rw[this,List.drop_append_of_le_length (by rw[Pd];omega)]
     rw[hsn,Vt]at he;have h2:decide ((f:Int)<(m:Int))=true:=Xa (by omega);have hw:w64 ((m:Int) - 1)=((m - 1:Nat):Int):=by rw[w64,Zp (by omega) (by unfold big at h;omega)];omega
     cases hv:isSp l[m - 1]with
     |true=> rw[Ma hv]at he;refine .inl ⟨((m - 1:Nat):Int),?_,⟨m - 1,rfl,by omega,by omega,he⟩,by omega⟩;simp only[h2,zY,hw,YA hm,Ba,hv,Ea]
     |false=>
      rw[Oa (by rw[hv];simp)]at he;refine .inr (.inl ⟨(m:Int),?_,?_⟩)
      ·simp only[h2,zY,hw,YA hm,Ba,hv,Ea,Da]
      ·rw[<-he];congr 1;simp;omega
    ·have hmm:m=f:=by omega
     subst hmm;have h2:decide ((m:Int)<(m:Int))=false:=Fb (by omega);refine .inr (.inl ⟨(m:Int),?_,?_⟩)
     ·simp only[h2,Zy,Ba,Da]
     ·rw[List.drop_eq_nil_of_le (by rw[Pd];omega),aS]at he;rw[<-he];simp
   ·rw[ztc];have htl:=List.Sublist.length_le (Gy (l.drop f));rw[Gd]at htl;have hcut:List.drop f (List.take (f+(trimB (l.drop f)).length) l)=trimB (l.drop f):=by
     rw[List.drop_take];have: ∀d:List ze,d.take (trimB d).length=trimB d:=by intro d;unfold trimB;rw[List.length_reverse];have h3:=Lx isSp d.reverse;have h4:=List.Sublist.length_le (De isSp (l:=d.reverse));rw[List.length_reverse]at h3 h4;rw[<-h3,List.drop_reverse,List.reverse_reverse];congr 1;simp
     have e:=this (l.drop f);rw[show f+(trimB (l.drop f)).length - f=(trimB (l.drop f)).length by omega];exact e
    have hneed:(decide ((0:Int)<=(f:Int))&&(decide ((f:Int)<=((f+(trimB (l.drop f)).length:Nat):Int))&&(decide (((f+(trimB (l.drop f)).length:Nat):Int)<=((f+(trimB (l.drop f)).length:Nat):Int))&&decide (((f+(trimB (l.drop f)).length:Nat):Int)<=(l.length:Int))))&&decide True)=true:=by simp only[Ca,ma];refine⟨?_,trivial⟩;omega
    have hts:trimS l=trimB (l.drop f):=by unfold trimS;rw[<-Lx isSp l,hf]
    simp only[hneed,Qo,Ec,hcut,zB6 (Jb (wB ((Gy _).trans (List.drop_sublist _ _))) h),Ba,hts]
 grind
set_option maxRecDepth 100000
inductive Cuts (k:Int):List ze->List (List ze)->Prop
 |one (p:List ze) (h: ∀x∈p,(x.token.kind==k)=false):Cuts k p [p]
 |more (p:List ze) (s:ze) (v:List ze) (ps:List (List ze)) (h: ∀x∈p,(x.token.kind==k)=false) (hs:(s.token.kind==k)=true) (hc:Cuts k v ps):Cuts k (p++s::v) (p::ps)
theorem NW(v:List ze):(trimS v).Sublist v:=(Gy _).trans (De _)
end Go.Lv.VT
