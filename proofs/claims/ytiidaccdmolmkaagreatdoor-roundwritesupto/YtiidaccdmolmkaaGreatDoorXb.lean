import Derived.Test.YtiidaccdmolmkaaGreatDoorXa
set_option linter.all false
namespace Go.Lv.VT
def Im(x:Zv):zx (Z0 x)=3+x.q.length+zL qc x.i:=by simp only[Z0,zx,bPV,zL];omega
def Cm(x:zh):zx (zC x)=4+x.q.length+zx (Z0 x.decl)+zL zC x.w - 1+1:=by rw[Im];rw[UB];simp only[zx,bPV,zL];omega
def Au(x:Zv):1<=zx (Z0 x):=by have:=Im x;omega
def Nq{α:Type}(l:List α):decide ((l.length:Int)>0)= !l.isEmpty:=by
 cases l with
 |nil=>rfl
 |cons a l=>exact Ga (by simp only[Ha];omega)
def Pw(x:zh):1<=zx (zC x):=by have:=Cm x;omega
def Bv{a b:Nat}(h:a+b<=co):cj ((a:Int)+(b:Int))=((a+b:Nat):Int):=by rw[cj,ZX (by omega) (by unfold co at h;omega)];omega
def Rv{d:Zv}(h:zx (Z0 d)<=co):cT d.i<=co/\d.q.length<=co:=by have:=Im d;have:=Fq d.i;constructor<;>omega
def DW{d:Zv}(h:zx (Z0 d)<=co):wo d=some (bif Qm d then 0 else 8):=rV (Rv h).1 (Rv h).2
def sW{d:Zv}(h:zx (Z0 d)<=co):Iu d=some (bif Qm d then 0 else 8):=zvZ (Rv h).1 (Rv h).2
def Zh(c:zh):(⟨c.u,c.q,c.kg,c.decl,c.w⟩:zh)=c:=by cases c;rfl
def Xk(d:Zv):Bool:=d.q==[]&&(d.i.isEmpty&& !d.lb)
def jg(c:zh):Bool:=c.q==[]&&(c.kg==0&&Xk c.decl)
def uq(c:zh):um c=some (jg c):=by
 unfold um jg Xk;rw[ZU]
 grind
def MW(d:Zv):Gx d=some (Xk d):=by
 unfold Gx Xk;rw[ZU]
 grind
def Ny(c:zh):Jp c=some (jg c):=by
 unfold Jp jg;simp only[MW,zO,za,Aa]
 grind
def keyS(x:aE):Bool:=x==[]||(x==[97,110,100]||(x==[111,114]||(x==[110,111,116]||x==[111,110,108,121])))
def medS(x:aE):Bool:= !keyS x&&(decide (x.length<=64)&&(dr x==x&&ZL x))
def znY(l:List aE)(x:aE)(h:l.length<=co):dd (l,x)=some (l.any λv=>x==v):=by
 unfold dd eA;refine Uo (Po l (λv=>x==v) h (λi hi=> ?_) ?_) (Ym _ _)
 ·simp only[zN hi,Ca,zF hi,za,Aa]
 grind
def zQp(x:aE):(([[],[97,110,100],[111,114],[110,111,116],[111,110,108,121]]:List aE).any λv=>x==v)=keyS x:=by simp only[ug,List.any_nil,Dc];rfl
def zvh{x:aE}(h:x.length<=co):iA x=some (medS x):=by
 have e:decide ((x.length:Int)<=64)=decide (x.length<=64):=ku _ 64;have e1:decide (Lib.indexByte x (0:Int).toNat.toUInt8<0)=ZL x:=by rw[I5,Ms,Nf]
 have a:=znY [[],[97,110,100],[111,114],[110,111,116],[111,110,108,121]] x (by decide);unfold iA medS;simp only[a,zQp,aA h,QQ,zO,za,Aa,e];cases keyS x<;>cases decide (x.length<=64)<;>try rfl
 grind
def zt0{x:aE}(h:x.length<=co):LB x=some (medS x):=by
 have e:decide ((x.length:Int)>64)= !decide (x.length<=64):=kg _ 64;have d:=VN x (dr x);unfold LB medS;simp only[JA h,zO,za,Aa,e];have hl:zM (λ(a:Int)=>bif decide (a<(x.length:Int))then
    (cl x a).bind λc=>bif (c.toNat:Int)==0 then some (LO.ret false)else some (LO.again (cj (a+1)))
   else some (LO.out ()):Int->Option (LO (Int) (Unit) _)) 0 (λ_=>some true)=some (ZL x):=by
  refine(qd x (λb=>bif (!(b==0))then none else some false) () (λi hi=> ?_) ?_).trans ?_
  ·simp only[zN hi,Ca,zF hi,Aa,ir,zD hi h]
   grind
  ·grind
  ·rw[Dj];unfold ZL
   grind
 rw[hl];unfold keyS;cases x==[]<;>cases decide (x.length<=64)<;>cases x==[97,110,100]<;>cases x==[111,114]<;>cases x==[110,111,116]<;>cases x==[111,110,108,121]<;>
  first|rfl|grind
def isN(n:Int):Bool:=decide (-1000000000000<=n)&&decide (n<=1000000000000)
def zEv(n:Int):az n=some (isN n):=by
 unfold az isN
 grind
def yV(n:Int):Rx n=some (bif isN n then 0 else 8):=by
 unfold Rx dA;have e1:decide (n< -1000000000000)= !decide (-1000000000000<=n):=by have:=CL n (-1000000000000);show _= !decide (n>=_);rw[this,Nf]
 have e2:decide (n>1000000000000)= !decide (n<=1000000000000):=by have:=CL 1000000000000 n;show decide (1000000000000<n)= !decide (1000000000000>=n);rw[this,Nf]
 have:zM (λ(a:Int)=>
   bif decide (a<(([n]:List Int).length:Int))then
    za (cl [n] a) λb=>
    bif bif decide (b<(-1000000000000))then true else decide (b>1000000000000)then
     some (LO.ret (8:Int))
    else
     some (LO.again (cj (a+1)))
   else
    some (LO.out ()):Int->Option (LO (Int) (Unit) Int)) 0 (λo3=>some (0:Int))=some (bif isN n then 0 else 8):=by
  refine(qd [n] (λn=>bif isN n then none else some 8) () (λi hi=> ?_) ?_).trans ?_
  ·obtain rfl:i=0:=by simpa using hi
   simp only[zN hi,Ca,zF hi,za,Aa,List.getElem_cons_zero,e1,e2,isN];cases decide (-1000000000000<=n)<;>cases decide (n<=1000000000000)<;>rfl
  ·grind
  ·grind
 rw[this];rfl
def Ki(first:Bool)(y:zh):Bool:=
 y.w.isEmpty&&(Xk y.decl&&((first&&(y.u==4&&(y.kg==0&&medS y.q)))||((y.u==5||y.u==6)&&(y.q==[]&&(decide (0<=y.kg)&&isN y.kg)))))
def Pv(l:List zh):Bool:=(List.range l.length).all λi=>Ki (i==0) (l.getD i default)
def Mg(c:zh):Bool:=c.u==1&&(jg c&&(!c.w.isEmpty&&Pv c.w))
def UD(c:zh):Bool:=match c.w with
 |[]=>false
 |y::_=>y.u==4
def zOl(i:Nat):((i:Int)==0)=(i==0):=by grind
def zQ1(i:Nat):decide ((i:Int)>0)= !(i==0):=by
 grind
def zJD{c:zh}(h:zx (zC c)<=co)(i:Nat)(R:Type)(A:Option R)(k:Int->Option R):
  (zK (X:=Int) (
       za (zA (!(decide ((c.w.length:Int)>0))) (um (⟨c.u,[],0,c.decl,c.w⟩:zh)) (default:Bool)) λd=>
       bif bif decide ((c.w.length:Int)>0)then true else !d then
        A.map LX.ret
       else
        bif c.u==4 then
         za (zA (!(bif decide ((i:Int)>0)then true else c.kg != 0)) (iA c.q) (default:Bool)) λe=>
         bif bif bif decide ((i:Int)>0)then true else c.kg != 0 then true else !e then
          A.map LX.ret
         else
          some (LX.out (i:Int))
        else
         zK (X:=Bool) (
           bif c.u==5 then
            some (LX.out (c.u==5))
           else
            some (LX.out (c.u==6))) λf=>
         bif f then
          za (zA (!(bif !(c.q==[])then true else decide (c.kg<0))) (Rx c.kg) (default:Int)) λj=>
          bif bif bif !(c.q==[])then true else decide (c.kg<0)then true else j != 0 then
           A.map LX.ret
          else
           some (LX.out (i:Int))
         else
          A.map LX.ret) k)=bif Ki (i==0) c then k (i:Int)else A:=by
 have n:=Cm c;have hn:c.q.length<=co:=by have:=Au c.decl;omega
 have a:zK (A.map LX.ret) k=A:=by cases A<;>rfl
 have e1:decide (c.kg<0)= !decide (0<=c.kg):=by have:=CL c.kg 0;show _= !decide (c.kg>=0);rw[this,Nf]
 have e2:((bif isN c.kg then(0:Int)else 8) != 0)= !isN c.kg:=by cases isN c.kg<;>rfl
 have l:jg ⟨c.u,[],0,c.decl,c.w⟩=Xk c.decl:=rfl;unfold Ki;simp only[uq,l,Nq,zO,za,Aa,zvh hn,yV,zQ1 i,e1,bne];cases c.w.isEmpty with
 |false=>exact a
 |true=>
  cases Xk c.decl with
  |false=>exact a
  |true=>
   simp only[Ab,Va,Ca,Ba,ja];by_cases k4:c.u=4
   ·simp only[k4,Int.reduceBEq,Ca,Dc,Bc,ja];cases (i==0)<;>cases c.kg==0<;>cases medS c.q<;>first|rfl|exact a
   ·have b4:=Fa.2 k4;simp only[b4,Ba,Bc,Nc,Ac];by_cases b:c.u=5
    ·simp only[b,Int.reduceBEq,Ca,zf,Uc,ja];cases c.q==[]<;>cases decide (0<=c.kg)<;>cases isN c.kg<;>first|rfl|exact a
    ·have m:=Fa.2 b;simp only[m,Ba,zf,Ac];cases c.u==6
     ·exact a
     ·cases c.q==[]<;>cases decide (0<=c.kg)<;>cases isN c.kg<;>first|rfl|exact a
def qU{c y:zh}(h:y∈c.w):zx (zC y)<zx (zC c):=by
 have a:=Cm c;have:=Z7 (f:=zC) h
 grind
def QA(c:zh):c.w.length<=zx (zC c):=by
 have a:=Cm c;have:=Z4 Pw c.w
 grind
def WN(c:zh):zx (Z0 c.decl)<=zx (zC c):=by have a:=Cm c;omega
def jV{c:zh}(h:zx (zC c)<=co):VA c=some (Mg c):=by
 have b:=QA c;unfold VA Mg;simp only[Zh,uq,zO,za,Aa,ZU,bne];cases c.u==1 with
 |false=>rfl
 |true=>
  cases jg c with
  |false=>rfl
  |true=>
   cases c.w.isEmpty with
   |true=>rfl
   |false=>
    simp only[Ab,Va,Ca,Ba,ja];refine(BB c.w.length (λi=>Ki (i==0) (c.w.getD i default)) false (λi hi=> ?_) ?_).trans ?_
    ·have hm:=qU (Ia hi);have a:c.w.getD i default=c.w[i]:=by simp[hi]
     have:=zJD (c:=c.w[i]) (by omega) i (LO Int Unit Bool) (some (LO.ret false)) λj=>some (.again (cj (j+1)));simp only[uq,Ny,zO,za,Aa,bne,Ed]at this;simp only[zN hi,Ca,zF hi,Aa,a];refine this.trans ?_;rw[zD hi (by omega)];cases Ki (i==0) c.w[i]<;>rfl
    ·grind
    ·unfold Pv
     grind
def zM4{c:zh}(h:zx (zC c)<=co)(i:Nat)(R:Type)(A:Option R)(k:Int->Option R):
  (zK (X:=Int) (
       za (zA (!(decide ((c.w.length:Int)>0))) (Gx c.decl) (default:Bool)) λb=>
       bif bif decide ((c.w.length:Int)>0)then true else !b then
        A.map LX.ret
       else
        za (zA (bif bif (i:Int)==0 then c.u==4 else false then c.kg==0 else false) (LB c.q) (default:Bool)) λd=>
        bif bif bif bif (i:Int)==0 then c.u==4 else false then c.kg==0 else false then d else false then
         some (LX.out (i:Int))
        else
         za (zA (!(bif bif bif c.u != 5 then c.u != 6 else false then true else !(c.q==[])then true else decide (c.kg<0))) (az c.kg) (default:Bool)) λe=>
         bif bif bif bif bif c.u != 5 then c.u != 6 else false then true else !(c.q==[])then true else decide (c.kg<0)then true else !e then
          A.map LX.ret
         else
          some (LX.out (i:Int))) k)=bif Ki (i==0) c then k (i:Int)else A:=by
 have f:=Cm c;have hn:c.q.length<=co:=by have:=Au c.decl;omega
 have a:zK (A.map LX.ret) k=A:=by cases A<;>rfl
 have e1:decide (c.kg<0)= !decide (0<=c.kg):=by have:=CL c.kg 0;show _= !decide (c.kg>=0);rw[this,Nf]
 unfold Ki;simp only[MW,Nq,zO,za,Aa,zt0 hn,zEv,zOl i,e1,bne];cases c.w.isEmpty with
 |false=>exact a
 |true=>
  cases Xk c.decl with
  |false=>exact a
  |true=>
   simp only[Ab,Va,Ca,Ba,ja];by_cases k4:c.u=4
   ·simp only[k4,Int.reduceBEq,Ca,Dc,Bc,ja,Va,Ke];cases (i==0)<;>cases c.kg==0<;>cases medS c.q<;>first|rfl|exact a
   ·have b4:=Fa.2 k4;have hc:(bif bif (i==0)then false else false then c.kg==0 else false)=false:=by cases (i==0)<;>rfl
    simp only[b4,hc,Ba,Bc,Nc,Ac];cases c.u==5<;>cases c.u==6<;>cases c.q==[]<;>cases decide (0<=c.kg)<;>cases isN c.kg<;>first|rfl|exact a
def bO{c:zh}(h:zx (zC c)<=co):Tw c=some (Mg c,Mg c&&UD c):=by
 have b:=QA c;unfold Tw Mg;simp only[Zh,Ny,zO,za,Aa,ZU,bne];cases c.u==1 with
 |false=>rfl
 |true=>
  cases jg c with
  |false=>rfl
  |true=>
   cases d:c.w.isEmpty with
   |true=>rfl
   |false=>
    simp only[Ab,Va,Ca,Ba,ja];refine(BB c.w.length (λi=>Ki (i==0) (c.w.getD i default)) (false,false) (λi hi=> ?_) ?_).trans ?_
    ·have hm:=qU (Ia hi);have a:c.w.getD i default=c.w[i]:=by simp[hi]
     have:=zM4 (c:=c.w[i]) (by omega) i (LO Int Unit (Bool×Bool)) (some (LO.ret (false,false))) λj=>some (.again (cj (j+1)));simp only[uq,Ny,zO,za,Aa,bne,Ed]at this;simp only[zN hi,Ca,zF hi,Aa,a];refine this.trans ?_;rw[zD hi (by omega)];cases Ki (i==0) c.w[i]<;>rfl
    ·grind
    ·unfold Pv UD;cases hl:c.w with
     |nil=>grind
     |cons y r=>
      have:cl (y::r) 0=some y:=rfl
      grind
def zx1(c:zh):fG c=some (UD c):=by
 unfold fG UD;cases c.w with
 |nil=>rfl
 |cons y r=> have e1:decide (((y::r).length:Int)>0)=true:=Ga (by grind);have e2:cl (y::r) 0=some y:=rfl;simp_all
def Wh(c:zh):Bool:=bif c.u==3 then jg c&&(match c.w with
 |[y]=>Mg y&&UD y
 |_=>false)else Mg c
def X5{α:Type}(y z:α)(r:List α):(((y::z::r).length:Int)==1)=false:=Fa.2 (by grind)
def zBn{c:zh}(h:zx (zC c)<=co):SG c=some (Wh c):=by
 unfold SG Wh;simp only[Zh,uq,za,Aa,jV h,zx1];cases c.u==3 with
 |false=>rfl
 |true=>
  simp only[Ca];cases jg c with
  |false=>rfl
  |true=>
   cases hl:c.w with
   |nil=>rfl
   |cons y r=>
    cases r with
    |nil=>
     have hm:=qU (c:=c) (y:=y) (by grind);have e2:cl [y] 0=some y:=rfl;have e3:(([y]:List zh).length:Int)==1:=rfl;simp only[e2,e3,Ca,zQ,Aa,jV (show zx (zC y)<=co by omega),ja];cases Mg y
     ·rfl
     simp_all
    |cons z r=> simp only[X5,Ca,ZF,Aa,Ba,Nc]
def LW{c:zh}(h:zx (zC c)<=co):oo c=some (Wh c):=by
 unfold oo Wh;simp only[Zh,Ny,za,Aa,bO h,bne];cases c.u==3 with
 |false=>rfl
 |true=>
  simp only[Ca];cases jg c with
  |false=>rfl
  |true=>
   cases hl:c.w with
   |nil=>rfl
   |cons y r=>
    cases r with
    |nil=>
     have hm:=qU (c:=c) (y:=y) (by grind);have e2:cl [y] 0=some y:=rfl;have e3:(([y]:List zh).length:Int)==1:=rfl;simp only[e2,e3,Ba,Ab,Aa,bO (show zx (zC y)<=co by omega),ja]
     grind
    |cons z r=>
     grind
def ah(c:zh):Bool:=jg c&&((c.u==1&&c.w.isEmpty)||(c.u==2&&(!c.w.isEmpty&&(decide (c.w.length<=64)&&c.w.all Wh))))
def zx4{l:List zh}(hl:l.length<=co)(h: ∀c∈l,zx (zC c)<=co):Qz l=some (!l.all Wh):=by
 unfold Qz VP;refine Uo (Po l (λc=> !Wh c) hl (λi hi=> ?_) ?_) ((Ym _ _).trans (Jv _ _))
 ·have:MK l[i]=some (!Wh l[i]):=by unfold MK;simp only[Zh,zBn (h _ (Ia hi)),za,Aa]
  simp only[zN hi,Ca,zF hi,za,Aa,Zh,this]
 grind
def NP{c:zh}(h:zx (zC c)<=co):Oy c=some (bif ah c then 0 else 8):=by
 have a:=QA c;have e:decide ((c.w.length:Int)<=64)=decide (c.w.length<=64):=ku _ 64;unfold Oy ah;simp only[Zh,uq,zx4 (show c.w.length<=co by omega) (λy b=>by have:=qU b;omega),zO,za,Aa,Nq,ZU,e]
 grind
def ztZ{c:zh}(h:zx (zC c)<=co):NI c=some (ah c):=by
 have b:=QA c;have e:decide ((c.w.length:Int)>64)= !decide (c.w.length<=64):=kg _ 64;unfold NI ah;simp only[Zh,Ny,za,Aa,AB,ZU,e,bne];cases jg c with
 |false=>rfl
 |true=>
  simp only[Ab,Ba,ja];by_cases k1:c.u=1
  ·simp_all
  ·have b1:=Fa.2 k1;simp only[b1,Ba,Bc,Ac];have hl:zM (λ(a:Int)=>
      bif decide (a<(c.w.length:Int))then
       (cl c.w a).bind λd=>
       (oo d).bind λf=>
       bif !f then
        some (LO.ret false)
       else
        some (LO.again (cj (a+1)))
      else
       some (LO.out ()):Int->Option (LO (Int) (Unit) _)) 0 (λ_=>some true)=some (c.w.all Wh):=by
    refine(qd c.w (λv=>bif Wh v then none else some false) () (λi hi=> ?_) ?_).trans ?_
    ·have hm:=qU (Ia hi);simp only[zN hi,Ca,zF hi,Aa,LW (show zx (zC c.w[i])<=co by omega),zD hi (show c.w.length<=co by omega)]
     grind
    ·grind
    ·rw[Dj]
     grind
   grind
def Ho{n:Nat}(h:n<=co):cj ((n:Int)+1)=((n+1:Nat):Int):=by rw[cj,ZX (by omega) (by grind)];omega
def eT{n:Nat}(h:n<=co):cj (1+(n:Int))=((n+1:Nat):Int):=by rw[cj,ZX (by omega) (by grind)];omega
def Vq{α:Type}(f:α->Nat): ∀{l:List α} {i:Nat} (h:i<l.length),((l.take (i+1)).map f).sum=((l.take i).map f).sum+f l[i]
 |[],_,h=>by cases h
 |v::l,0,_=>by simp
 |v::l,i+1,h=>by simp only[Ld,Xb,xc,List.getElem_cons_succ];rw[Vq f (l:=l) (i:=i) (by simpa using h)];omega
def xw{α:Type}(f:α->Nat): ∀(l:List α) (i:Nat),((l.take i).map f).sum<=(l.map f).sum
 |[],_=>by simp
 |v::l,0=>by simp
 |v::l,i+1=>by simp only[Ld,Xb,xc];have:=xw f l i;omega
def Az{α:Type}(f:α->Nat): ∀{l:List α} {i:Nat} (h:i<l.length),mx f (l.take (i+1))=max (mx f (l.take i)) (f l[i])
 |[],_,h=>by cases h
 |v::l,0,_=>by simp[mx]
 |v::l,i+1,h=>by simp only[Ld,mx,List.getElem_cons_succ];rw[Az f (l:=l) (i:=i) (by simpa using h)];omega
def Bw{α:Type}(p:α->Bool): ∀{l:List α} {i:Nat} (h:i<l.length),(l.take (i+1)).all p=((l.take i).all p&&p l[i])
 |[],_,h=>by cases h
 |v::l,0,_=>by simp
 |v::l,i+1,h=>by simp only[Ld,Yc,List.getElem_cons_succ];rw[Bw p (l:=l) (i:=i) (by simpa using h),rf]
def zPk{α:Type}{p:α->Bool}{l:List α}{i:Nat}(h:i<l.length)(hp:p l[i]=false):l.all p=false:=by
 grind
def zNP(l:List zo):Dp (l,[])=some l.isEmpty:=by
 refine ZB (λ_=>0) (λx:List zo×List zo=>x.2=[]) (λx=>x.1.isEmpty) (λS x a _=> ?_) (x:=(l,[])) rfl;obtain⟨l,m⟩:=x;obtain rfl:m=[]:=a;unfold jH;cases l with
 |nil=>
  refine(qd ([]:List zo) (λ_=>none) () (λi hi=>by cases hi) ?_).trans rfl
  grind
 |cons v l=>
  grind
mutual
def cC:zh->Nat
 |⟨_,_,_,_,l⟩=>1+Hl l
def Hl:List zh->Nat
 |[]=>0
 |c::r=>cC c+Hl r
end
def zCO(l:List zh):Hl l=(l.map cC).sum:=by
 induction l with
 |nil=>rw[Hl];rfl
 |cons c l a=>rw[Hl,a];rfl
def ui(c:zh):cC c=1+(c.w.map cC).sum:=by obtain⟨k,n,m,d,l⟩:=c;rw[cC,zCO]
def zNW: ∀l:List zh,Hl l<=zL zC l:=by
 have a: ∀(n:Nat) (l:List zh),zL zC l<n->Hl l<=zL zC l:=by
  intro n
  induction n with
  |zero=>intro l h;omega
  |succ n c=>
   intro l
   induction l with
   |nil=>intro _;rw[Hl];grind
   |cons v l b=>
    intro h;rw[wh]at h ⊢;rw[Hl,ui,<-zCO];have d:=Cm v
    grind
 grind
def sZ(c:zh):cC c<=zx (zC c):=by have:=zNW [c];rw[Hl,Hl,wh,GD]at this;omega
def NW{c:zh}{m:Nat}(h:zx (zC c)<=co)(hm:m<=co):
  ∃r:Nat,Qy (c,(m:Int))=some (r:Int)/\r<=cC c/\(cC c<=m->r=cC c)/\(m<cC c->m<r):=by
 have v: ∃y:Int,Qy (c,(m:Int))=some y/\ ∃r:Nat,y=(r:Int)/\r<=cC c/\ ∀b:Nat,(m:Int)=(b:Int)->(cC c<=b->r=cC c)/\(b<cC c->b<r):=by
  refine Ko ztb (λx:zh×Int=>zx (zC x.1)) (λx=>zx (zC x.1)<=co/\ ∃m:Nat,x.2=(m:Int)/\m<=co)
   (λx (y:Int)=> ∃r:Nat,y=(r:Int)/\r<=cC x.1/\ ∀b:Nat,x.2=(b:Int)->(cC x.1<=b->r=cC x.1)/\(b<cC x.1->b<r)) (λS x E hS=> ?_) (x:=(c,(m:Int))) ⟨h,m,rfl,hm⟩
  obtain⟨c,n⟩:=x;obtain⟨hc,m,hn,hm⟩:=E;have hn:n=(m:Int):=hn;have hc:zx (zC c)<=co:=hc;subst hn;have u:=QA c;have F:=sZ c;have M:=ui c;unfold yx;have O: ∀a:Nat,a<=co->cj ((a:Int)+0)=(a:Int):=λa ha=>by rw[cj,ZX (by omega) (by grind)];omega
  refine Jt (A:=Nat) c.w.length (λi a=>((a:Int),(i:Int))) (λi a=>a<=1+((c.w.take i).map cC).sum/\(1+((c.w.take i).map cC).sum<=m->a=1+((c.w.take i).map cC).sum)/\(m<1+((c.w.take i).map cC).sum->m<a)) _ (a0:=1) rfl (by simp) (λi a hi hI=> ?_) (λa hI=> .inl ?_)
  ·obtain⟨Q,J,U⟩:=hI;have ht:=xw cC c.w i;have j:=xw cC c.w (i+1);rw[Vq cC hi]at j;have k:=qU (Ia hi);by_cases L:a<=m
   ·have ha:a=1+((c.w.take i).map cC).sum:=J (by omega);have e1:decide ((a:Int)<=(m:Int))=true:=Ga (by omega);have l:cj ((m:Int) - (a:Int))=((m - a:Nat):Int):=by rw[cj,ZX (by omega) (by grind)];omega
    obtain⟨y,o,r,p,d,s⟩:=hS (c.w[i],((m - a:Nat):Int)) ⟨by grind,m - a,rfl,by omega⟩ k;have d:r<=cC c.w[i]:=d;obtain⟨e,f⟩:=s (m - a) rfl;have e:cC c.w[i]<=m - a->r=cC c.w[i]:=e;have f:m - a<cC c.w[i]->m - a<r:=f;have t:cj ((a:Int)+(r:Int))=((a+r:Nat):Int):=Bv (by omega);refine .inl ⟨a+r,?_,?_,?_,?_⟩
    ·simp only[zN hi,e1,Ca,zF hi,za,Aa,Zh,l,o,p,t,zD hi (show c.w.length<=co by omega)]
    ·rw[Vq cC hi];omega
    ·rw[Vq cC hi];omega
    ·rw[Vq cC hi];omega
   ·grind
  ·grind
 grind
def bf(c:zh):Bool:=c.u==7||c.u==8
mutual
def Ig:zh->Nat
 |⟨k,_,_,d,l⟩=>bif k==7 then 1+QI d.i else bif k==8 then 1 else OD l
def OD:List zh->Nat
 |[]=>0
 |c::r=>max ((bif bf c then 0 else 1)+Ig c) (OD r)
end
def Ui(c:zh):Nat:=(bif bf c then 0 else 1)+Ig c
def zIz(l:List zh):OD l=mx Ui l:=by
 induction l with
 |nil=>rw[OD];rfl
 |cons c l a=>rw[OD,a];rfl
def pF(c:zh):Ig c=bif c.u==7 then 1+QI c.decl.i else bif c.u==8 then 1 else mx Ui c.w:=by obtain⟨k,n,m,d,l⟩:=c;rw[Ig,zIz]
def oF: ∀c:zh,Ig c<=zx (zC c):=by
 have d: ∀(n:Nat) (c:zh),zx (zC c)<n->Ig c<=zx (zC c):=by
  intro n
  induction n with
  |zero=>intro c h;omega
  |succ n e=>
   intro c h;have b:=Cm c;have f:=Im c.decl;rw[pF];cases c.u==7 with
   |true=>
    have h1:=Vo c.decl.i;have h2:=Fq c.decl.i
    grind
   |false=>
    cases c.u==8 with
    |true=>grind
    |false=>
     simp only[Ba];have: ∀l:List zh,(∀y∈l,y∈c.w)->mx Ui l<=1+zL zC l:=by
      intro l
      induction l with
      |nil=>intro _;exact Yb _
      |cons y l a=>
       intro hl;have h1:=a λz b=>hl z (Vb _ b);have h2:=qU (hl y Ub);have h3:=e y (by omega);have h4:Ui y<=1+Ig y:=by unfold Ui;cases bf y<;>simp only[Ca,Ba]<;>omega
       rw[mx,wh];omega
     grind
 grind
def XV{c:zh}(h:zx (zC c)<=co):Dn c=some (Ig c:Int):=by
 refine ZB (λc=>zx (zC c)) (λc=>zx (zC c)<=co) (λc=>(Ig c:Int)) (λS c hc hS=> ?_) h;have l:=Cm c;have m:=Im c.decl;have j:=QA c;have hv:=Fq c.decl.i;unfold OI;rw[pF];cases n:c.u==7 with
 |true=> have h1:=Vo c.decl.i;simp only[Ca,MF (show cT c.decl.i<=co by omega),za,Aa,eT (show QI c.decl.i<=co by omega)];rw[Lf]
 |false=>
  cases o:c.u==8 with
  |true=>rfl
  |false=>
   simp only[Ba];refine(Oo c.w Ui (λa i=>((a:Int),(i:Int))) (λa=>(a:Int)) (a0:=0) rfl (λi a hi=> ?_) (λa=> ?_)).trans ?_
   ·have hm:=qU (Ia hi);have hs:=hS c.w[i] (by omega) hm;have k:=oF c.w[i];simp only[zN hi,Ca,zF hi,za,Aa,Zh,hs,zD hi (show c.w.length<=co by omega)];have e:(bif c.w[i].u==7 then true else c.w[i].u==8)=bf c.w[i]:=by unfold bf;cases c.w[i].u==7<;>rfl
    rw[e];have b:Ui c.w[i]=(bif bf c.w[i]then 0 else 1)+Ig c.w[i]:=rfl;cases d:bf c.w[i]with
    |true=>
     rw[d,Ca,Gd]at b;have f:cj (0+(Ig c.w[i]:Int))=(Ui c.w[i]:Int):=by rw[cj,ZX (by omega) (by grind)];omega
     simp only[Ca,zf,f,Yk]
    |false=>
     rw[d,Ba]at b;have f:cj (1+(Ig c.w[i]:Int))=(Ui c.w[i]:Int):=by rw[cj,ZX (by omega) (by grind)];omega
     simp only[Ba,zf,f,Yk]
   ·grind
   grind
mutual
def d8:zh->Bool
 |⟨k,n,m,d,l⟩=>bif k==7 then l.isEmpty&&(n==[]&&(m==0&&Qm d))else bif k==8 then l.isEmpty&&jg ⟨k,n,m,d,l⟩else
  (k==3||(k==1||k==2))&&(jg ⟨k,n,m,d,l⟩&&((bif k==3 then l.length==1 else decide (2<=l.length))&&IC l))
def IC:List zh->Bool
 |[]=>true
 |c::r=>d8 c&&IC r
end
def zLr(l:List zh):IC l=l.all d8:=by
 induction l with
 |nil=>rw[IC];rfl
 |cons c l a=>rw[IC,a];rfl
def ol(c:zh):d8 c=bif c.u==7 then c.w.isEmpty&&(c.q==[]&&(c.kg==0&&Qm c.decl))else bif c.u==8 then c.w.isEmpty&&jg c else
  (c.u==3||(c.u==1||c.u==2))&&(jg c&&((bif c.u==3 then c.w.length==1 else decide (2<=c.w.length))&&c.w.all d8)):=by
 obtain⟨k,n,m,d,l⟩:=c;rw[d8,zLr]
def IZ{α:Type}(l:List α):decide ((l.length:Int)<2)= !decide (2<=l.length):=by
 grind
def A9{α:Type}(l:List α):((l.length:Int)==1)=(l.length==1):=by grind
def zoY{c:zh}(h:zx (zC c)<=co):qo c=some (d8 c):=by
 refine ZB (λc=>zx (zC c)) (λc=>zx (zC c)<=co) (λc=>d8 c) (λS c hc hS=> ?_) h;have d:=QA c;have j:=WN c;unfold PK;rw[ol];simp only[Zh,Ny,sW (show zx (Z0 c.decl)<=co by omega),ZU,zO,za,Aa];cases l:c.u==7 with
 |true=>
  simp only[Ca];cases c.q==[]<;>cases c.kg==0<;>cases c.w.isEmpty<;>cases Qm c.decl<;>rfl
 |false=>
  cases m:c.u==8 with
  |true=>
   grind
  |false=>
   simp only[Ba];cases h3:c.u==3 with
   |true=>
    simp only[Ca,Uc,ja,A9];cases jg c with
    |false=>rfl
    |true=>
     cases hl:c.w with
     |nil=>rfl
     |cons y r=>
      cases r with
      |nil=> have hm:=qU (c:=c) (y:=y) (by grind);have e2:cl [y] 0=some y:=rfl;have e3:(([y]:List zh).length==1)=true:=rfl;simp only[e2,e3,Ca,zQ,Aa,hS y (show zx (zC y)<=co by omega) hm,ja,Yc,List.all_nil,Nb]
      |cons z r=> simp_all
   |false=>
    have e: ∀{R:Type} (k:Bool->Option R),zK (X:=Bool) (bif c.u==1 then some (LX.out (c.u==1))else some (LX.out (c.u==2))) k=k (c.u==1||c.u==2):=by intro R k;cases c.u==1<;>rfl
    simp only[Ba,Ac];rw[e];cases (c.u==1||c.u==2)with
    |false=>rfl
    |true=>
     simp only[Ca,IZ,ja];have hl:zM (λ(a:Int)=>
        bif decide (a<(c.w.length:Int))then
         (cl c.w a).bind λf=>
         (S f).bind λb=>
         bif !b then
          some (LO.ret false)
         else
          some (LO.again (cj (a+1)))
        else
         some (LO.out ()):Int->Option (LO (Int) (Unit) _)) 0 (λ_=>some true)=some (c.w.all d8):=by
      refine(qd c.w (λv=>bif d8 v then none else some false) () (λi hi=> ?_) ?_).trans ?_
      ·have hm:=qU (Ia hi);simp only[zN hi,Ca,zF hi,Aa,hS _ (show zx (zC c.w[i])<=co by omega) hm,zD hi (show c.w.length<=co by omega)]
       grind
      ·grind
      ·rw[Dj]
       grind
     grind
def DV(c:zh):EA c=some (bf c):=by
 unfold EA bf
 grind
def Gm(c:zh):1<=cC c:=by rw[ui];omega
def zxZ{c:zh}{m:Nat}(h:zx (zC c)<=co)(hm:m<=1500):
  ∃y:(Int×Bool)×Int,vk (c,(m:Int))=some y/\y.1.2=(d8 c&&decide (m+cC c<=1500))/\(y.1.2=true->y.1.1=(Ig c:Int)/\y.2=((m+cC c:Nat):Int)):=by
 have a3: ∃y:(Int×Bool)×Int,vk (c,(m:Int))=some y/\ ∀j:Nat,(m:Int)=(j:Int)->y.1.2=(d8 c&&decide (j+cC c<=1500))/\(y.1.2=true->y.1.1=(Ig c:Int)/\y.2=((j+cC c:Nat):Int)):=by
  refine Ko zvr (λx:zh×Int=>zx (zC x.1)) (λx=>zx (zC x.1)<=co/\ ∃m:Nat,x.2=(m:Int)/\m<=1500)
   (λx (y:(Int×Bool)×Int)=> ∀j:Nat,x.2=(j:Int)->y.1.2=(d8 x.1&&decide (j+cC x.1<=1500))/\(y.1.2=true->y.1.1=(Ig x.1:Int)/\y.2=((j+cC x.1:Nat):Int))) (λS x hx hS=> ?_) (x:=(c,(m:Int))) ⟨h,m,rfl,hm⟩
  obtain⟨c,n⟩:=x;obtain⟨hc,m,hn,hm⟩:=hx;have hn:n=(m:Int):=hn;have hc:zx (zC c)<=co:=hc;subst hn;have W:=QA c;have hd:=WN c;have a6:=sZ c;have E:=ui c;have hv:=Fq c.decl.i;have a7:=Im c.decl;have o: ∀(d:Int) (b:Bool) (n:Int),b=(d8 c&&decide (m+cC c<=1500))->(b=true->d=(Ig c:Int)/\n=((m+cC c:Nat):Int))->
    ∀j:Nat,(m:Int)=(j:Int)->b=(d8 c&&decide (j+cC c<=1500))/\(b=true->d=(Ig c:Int)/\n=((j+cC c:Nat):Int)):=by
   intro d b n h1 h2 j a8;obtain rfl:m=j:=by omega
   exact⟨h1,h2⟩
  have hw:cj ((m:Int)+1)=((m+1:Nat):Int):=Ho (by unfold co;omega);unfold Tx;simp only[hw,Zh];by_cases a9:m+1>1500
  ·have e1:decide (((m+1:Nat):Int)>1500)=true:=Ga (by omega);simp only[e1,Ca]
   grind
  have e1:decide (((m+1:Nat):Int)>1500)=false:=Ma (by omega);simp only[e1,Ba];have hs:=ol c;have f:=pF c;cases Y:c.u==7 with
  |true=>
   rw[Y]at hs f;simp only[Ca]at hs f ⊢;rw[vN (show cT c.decl.i<=co by omega),DW (show zx (Z0 c.decl)<=co by omega)];simp only[za,Aa,ZU,zO];refine⟨_,rfl,o _ _ _ ?_ ?_⟩
   ·rw[hs];have ab:Qm c.decl=(Qm c.decl&&(fx c.decl.i==0)):=by unfold Qm;cases ai c.decl.q<;>cases fx c.decl.i==0<;>simp
    grind
   ·intro hf;have p:fx c.decl.i=0:=by
     by_cases p:fx c.decl.i=0
     ·exact p
     ·grind
    have hl:c.w=[]:=by
     cases t:c.w.isEmpty with
     |true=>grind
     |false=>grind
    have h1:=Vo c.decl.i;rw[La p,f];rw[hl]at E;simp only[Ho (show QI c.decl.i<=co by omega)];refine⟨by rw[Lf],?_⟩;rw[E];rfl
  |false=>
   rw[Y]at hs f;simp only[Ba]at hs f ⊢;cases Z:c.u==8 with
   |true=>
    rw[Z]at hs f;simp only[Ca]at hs f ⊢;simp only[za,Aa,ZU,zO,uq]
    grind
   |false=>
    rw[Z]at hs f;simp only[Ba]at hs f ⊢;have hj: ∀{R:Type} (k:Bool->Option R),zK (X:=Bool) (bif c.u==3 then some (LX.out (c.u==3))else bif c.u==1 then some (LX.out (c.u==1))else some (LX.out (c.u==2))) k=k (c.u==3||(c.u==1||c.u==2)):=by intro R k;cases c.u==3<;>cases c.u==1<;>rfl
    rw[hj];cases hk:(c.u==3||(c.u==1||c.u==2))with
    |false=>
     rw[hk]at hs;exact⟨_,rfl,o _ _ _ (by rw[hs];rfl) (λh=>by cases h)⟩
    |true=>
     rw[hk]at hs;simp only[Ca,ja]at hs ⊢;have hg:(bif bif !jg c then true else bif c.u==3 then(c.w.length:Int) != 1 else false then true else bif c.u != 3 then decide ((c.w.length:Int)<2)else false)= !(jg c&&(bif c.u==3 then c.w.length==1 else decide (2<=c.w.length))):=by rw[IZ,bne,bne,A9];cases jg c<;>cases c.u==3<;>cases c.w.length==1<;>rfl
     simp only[uq,za,Aa,hg];cases hb:(jg c&&(bif c.u==3 then c.w.length==1 else decide (2<=c.w.length)))with
     |false=>
      rw[<-rf,hb]at hs;exact⟨_,rfl,o _ _ _ (by rw[hs];rfl) (λh=>by cases h)⟩
     |true=>
      rw[<-rf,hb,ja]at hs;simp only[Ab,Ba];refine Jt (A:=Nat×Nat) c.w.length (λi a=>(((a.1:Int),(i:Int)),(a.2:Int))) (λi a=>a.2=m+1+((c.w.take i).map cC).sum/\a.2<=1500/\a.1=mx Ui (c.w.take i)/\(c.w.take i).all d8=true) _ (a0:=(0,m+1)) rfl ⟨by simp,by show m+1<=1500;omega,by simp[mx],by simp⟩ (λi a hi hI=> ?_) (λa hI=> .inl ?_)
      ·obtain⟨F,i2,J,L⟩:=hI;have ht:=xw cC c.w (i+1);rw[Vq cC hi]at ht;have M:=qU (Ia hi);obtain⟨y,O,Q⟩:=hS (c.w[i],(a.2:Int)) ⟨by show zx (zC c.w[i])<=co;omega,a.2,rfl,i2⟩ M;obtain⟨e,U⟩:=Q a.2 rfl;have e:y.1.2=(d8 c.w[i]&&decide (a.2+cC c.w[i]<=1500)):=e;simp only[zN hi,Ca,zF hi,Aa,Zh,O];cases hf:y.1.2 with
       |false=>
        refine .inr (.inl ⟨_,rfl,o _ _ _ ?_ (λh=>by cases h)⟩);rw[hf]at e;cases u:d8 c.w[i]with
        |false=>rw[hs,zPk hi u];rfl
        |true=> rw[u,ja]at e;have:=of_decide_eq_false e.symm;have e2:decide (m+cC c<=1500)=false:=Ma (by omega);rw[e2,Nc]
       |true=>
        obtain⟨r,s⟩:=U hf;rw[hf]at e;have e:=e.symm;rw[Da]at e;have t:=jb e.2;have ad:=oF c.w[i];have r:y.1.1=(Ig c.w[i]:Int):=r;have s:y.2=((a.2+cC c.w[i]:Nat):Int):=s;refine .inl ⟨(max a.1 (Ui c.w[i]),a.2+cC c.w[i]),?_,?_,t,?_,?_⟩
        ·have l:Ui c.w[i]=(bif bf c.w[i]then 0 else 1)+Ig c.w[i]:=rfl;have V:=Ho (n:=Ig c.w[i]) (by omega);simp only[Ab,Ba,DV,Aa,r,s,V,zD hi (show c.w.length<=co by omega)];cases v:bf c.w[i]with
         |true=> rw[v]at l;rw[Ca,Gd]at l;simp only[Ab,Ba,zf,l,Yk]
         |false=> rw[v]at l;rw[Ba,Lf]at l;simp only[Va,Ca,zf,l,Yk]
        ·rw[Vq cC hi,F];show _+_+_+_=_;omega
        ·rw[Az Ui hi,J]
        ·rw[Bw d8 hi,L,e.1];rfl
      ·rw[Xc]at hI;obtain⟨F,i2,J,L⟩:=hI;refine⟨((a.1:Int),(a.2:Int)),?_,_,rfl,o _ _ _ ?_ (λ_=>⟨?_,?_⟩)⟩
       ·simp only[Nh,Ba]
       ·have e2:decide (m+cC c<=1500)=true:=Ga (by omega);rw[hs,L,e2];rfl
       ·rw[f,J]
       ·show(a.2:Int)=_;rw[F,E];congr 1;omega
 grind
def Ri(c:zh):Bool:=d8 c&&(decide (cC c<=1500)&&decide (Ig c<=16))
def XX{c:zh}(h:zx (zC c)<=co):DC c=some (bif Ri c then 0 else 8):=by
 obtain⟨y,h1,h2,h3⟩:=zxZ (m:=0) h (by omega);unfold DC Ri;replace h1:vk (c,0)=some y:=h1;simp only[Zh,h1,za,Aa];rw[Gd]at h2;cases hf:y.1.2 with
 |false=> rw[hf]at h2;rw[<-rf,<-h2];rfl
 |true=> have e:decide ((Ig c:Int)>16)= !decide (Ig c<=16):=kg _ 16;rw[(h3 hf).1,e];rw[hf]at h2;rw[<-rf,<-h2];cases decide (Ig c<=16)<;>rfl
def zny{c:zh}(h:zx (zC c)<=co):yJ c=some (Ri c):=by
 obtain⟨r,h1,h2,h3,h4⟩:=NW (m:=1500) h (by unfold co;omega);replace h1:Qy (c,1500)=some (r:Int):=h1;have e:decide ((Ig c:Int)<=16)=decide (Ig c<=16):=ku _ 16;have e2:decide ((r:Int)<=1500)=decide (cC c<=1500):=by
  by_cases hs:cC c<=1500
  ·rw[Ga hs,h3 hs,Ga (by omega)]
  ·have:=h4 (by omega);rw[Ma hs,Ma (by omega)]
 unfold yJ Ri;simp only[Zh,h1,za,Aa,XV h,zoY h,zO,e2];cases decide (cC c<=1500)with
 |false=>simp
 |true=>simp only[Ca,e];cases decide (Ig c<=16)<;>cases d8 c<;>rfl
--< pulled
--p eO
def eO(l:aE)(m:Int):Wx (l,m)=some (decide ((l.length:Int)>m)|| !ZL l):=by
 unfold Wx;simp only[QQ,zO,za,Aa];cases decide ((l.length:Int)>m)with
 |true=>rfl
 |false=>exact congrArg some (Ms l)
--p pO
def pO(l:aE):Cy l=some (Gh l):=by unfold Cy Gh;simp only[eO,zO,za,Aa];have:decide ((l.length:Int)>64)= !decide (l.length<=64):=kg _ 64;rw[this];cases l==[]<;>cases decide (l.length<=64)<;>cases ZL l<;>rfl
--p WO
def WO{l:aE}(m:Int)(h:l.length<=co):uA (l,m)=some (ZL l&&decide ((l.length:Int)<=m)):=by
 unfold uA;refine(qd l (λb=>bif (!(b==0))then none else some false) () (λi hi=> ?_) ?_).trans ?_
 ·simp only[zN hi,Ca,zF hi,za,Aa,ir,zD hi h]
  grind
 ·grind
 ·rw[Dj];show _=some (ZL l&&_);unfold ZL
  grind
--p RI
def RI{l:aE}(h:l.length<=co):Hu l=some (Gh l):=by
 unfold Hu Gh;simp only[WO _ h,zO,za,Aa];have:decide ((l.length:Int)<=64)=decide (l.length<=64):=by
  by_cases h:l.length<=64
  ·grind
  ·grind
 grind
--p oO
def oO{l:aE}(h:l.length<=co):Ay l=some (aj l):=by
 unfold Ay aj;simp only[pO,aA h,zO,za,Aa]
 grind
--p XO
def XO{l:aE}(h:l.length<=co):xA l=some (aj l):=by
 unfold xA aj;simp only[RI h,JA h,zO,za,Aa]
 grind
--p kU
def kU(l:aE):jI l=some (!Gh l):=by unfold jI Gh;simp only[QQ,zO,za,Aa];have:decide ((l.length:Int)>64)= !decide (l.length<=64):=kg _ 64;rw[this];cases l==[]<;>cases decide (l.length<=64)<;>first|rfl|exact congrArg some (Ms l)
--p zBH
def zBH{l:List aE}(h:l.length<=co):Ql l=some (jz (λv=> !Gh v) l):=by
 unfold Ql;refine Po l _ h (λi hi=> ?_) ?_
 ·simp only[zN hi,Ca,zF hi,za,Aa,kU]
 grind
--p RV
def RV{l:List aE}(h:l.length<=co):qG l=some (!l.all Gh):=by unfold qG;exact Uo (zBH h) ((Ym _ _).trans (Jv _ _))
--p GU
def GU{l:List aE}(h:l.length<=co):PH l=some (Vh l):=by
 unfold PH Vh;have e1:decide ((l.length:Int)>0)= !l.isEmpty:=by
  cases l with
  |nil=>rfl
  |cons a l=>grind
 have e2:decide ((l.length:Int)<=16)=decide (l.length<=16):=ku _ 16;simp only[RV h,zO,za,Aa,e1,e2]
 grind
--p eU
def eU{l:List aE}(h:l.length<=co)(hv: ∀v∈l,v.length<=co):Xx l=some (Vh l):=by
 unfold Xx Vh;have e2:decide ((l.length:Int)>16)= !decide (l.length<=16):=kg _ 16;rw[AB,e2];have e3: ∀(k:Unit->Option Bool),k ()=some true->zM (λ(a:Int)=>
    bif decide (a<(l.length:Int))then
     za (cl l a) λc=>
     za (Hu c) λd=>
     bif !d then
      some (LO.ret false)
     else
      some (LO.again (cj (a+1)))
    else
     some (LO.out ())) 0 k=some (l.all Gh):=by
  intro k hk;refine(qd l (λb=>bif Gh b then none else some false) () (λi hi=> ?_) ?_).trans ?_
  ·simp only[zN hi,Ca,zF hi,za,Aa,RI (hv _ (Ia hi)),zD hi h]
   grind
  ·grind
  ·rw[Dj]
   grind
 grind
--p Qe
def Qe(x:zm):zx (zk x)=3+zL z8 x.kc+x.kj.length:=by rw[jB];simp only[zx,bPV,YY,zL];omega
--p qE
def qE(x:zU):zx (z8 x)=2+x.lg.length+zL zT x.ka:=by rw[EC];simp only[zx,bPV,zL];omega
--p qW
def qW(x:zH):zx (zT x)=9+x.q.length+x.i.length+zL zk x.w:=by rw[vB];simp only[zx,bPV,zL];omega
--p vY
def vY(x:List aE):zx [.sl (x.map λy=>[.str y])]=1+zL (λy=>[.str y]) x:=by simp only[zx,bPV,zL];omega
--p Si
def Si(x:zP):zx (zu x)=5+zL zk x.ke+zL Z0 x.kh+zx (zC x.cond)+zL (λl=>[.sl (l.map λy=>[.str y])]) x.kf+zL zu x.j:=by rw[TB,Cm,Im];simp only[zx,bPV,zL];omega
--p qZ
def qZ(x:zm):1<=zx (zk x):=by have:=Qe x;omega
--p QP
def QP(x:zU):1<=zx (z8 x):=by have:=qE x;omega
--p yo
def yo(x:zH):1<=zx (zT x):=by have:=qW x;omega
--p Bj
def Bj(x:zP):1<=zx (zu x):=by have:=Si x;omega
--p Ji
def Ji(c:zh):Bool:=c.u==0&&(c.w.isEmpty&&jg c)
--p IU
def IU(c:zh):yw c=some (Ji c):=by
 unfold yw Ji jg Xk;rw[ZU,ZU]
 grind
--p lT
def lT(c:zh):fw c=some (Ji c):=by
 unfold fw;have:Bp (c,(⟨0,[],0,(⟨[],[],false⟩:Zv),[]⟩:zh))=some (Ji c):=by
  refine ZB (λ_=>0) (λx:zh×zh=>x.2=(⟨0,[],0,(⟨[],[],false⟩:Zv),[]⟩:zh)) (λx=>Ji x.1) (λS x a _=> ?_) (x:=(c,_)) rfl;obtain⟨c,m⟩:=x;obtain rfl:m=_:=a;have e5:JH (c.decl,(⟨[],[],false⟩:Zv))=some (Xk c.decl):=by unfold JH Xk;simp only[zNP,zO,za,Aa];cases c.decl.q==[]<;>cases c.decl.lb<;>cases c.decl.i.isEmpty<;>rfl
  have b:((c.w.length:Int) != (([]:List zh).length:Int))= !c.w.isEmpty:=by rw[bne,Cb,Int.natCast_zero,ZU]
  unfold MI Ji jg;simp only[e5,b,zO,za,Aa,bne];cases c.u==0 with
  |false=>rfl
  |true=>
   cases hl:c.w with
   |cons y r=>grind
   |nil=>
    cases c.q==[]<;>cases c.kg==0<;>cases Xk c.decl<;>try rfl
    refine(qd ([]:List zh) (λ_=>none) () (λi hi=>by cases hi) ?_).trans rfl
    grind
 simp only[Zh,this,za,Aa]
--p FU
def FU{c:zh}(h:zx (zC c)<=co): ∃y:Int,wm c=some y/\(d8 c=true->y=(Ig c:Int)):=by
 refine Ko zte (λc=>zx (zC c)) (λc=>zx (zC c)<=co) (λc (y:Int)=>d8 c=true->y=(Ig c:Int)) (λS c hc hS=> ?_) h;have n:=QA c;have hv:=Fq c.decl.i;have u:=Cm c;have p:=Im c.decl;have hs:=ol c;have b:=pF c;unfold Ux;cases o:c.u==7 with
 |true=>
  rw[o]at hs b;simp only[Ca]at hs b ⊢;rw[vN (show cT c.decl.i<=co by omega)];refine⟨_,rfl,λh=> ?_⟩;have j:fx c.decl.i=0:=by rw[hs]at h;unfold Qm at h;simp only[Da,Fb]at h;exact h.2.2.2.2.1
  have h1:=Vo c.decl.i;rw[La j,b,Ho (show QI c.decl.i<=co by omega),Lf]
 |false=>
  rw[o]at hs b;simp only[Ba]at hs b ⊢;cases r:c.u==8 with
  |true=>
   grind
  |false=>
   rw[r]at hs b;simp only[Ba]at hs b ⊢;refine Jt (A:=Int) c.w.length (λi a=>(a,(i:Int))) (λi a=>d8 c=true->a=(mx Ui (c.w.take i):Int)) _ (a0:=0) rfl (λ_=>by simp[mx]) (λi a hi hI=> .inl ?_) (λa hI=> .inl ?_)
   ·have hm:=qU (Ia hi);obtain⟨y,k,l⟩:=hS c.w[i] (by omega) hm;have m:(bif c.w[i].u != 7 then c.w[i].u != 8 else false)= !bf c.w[i]:=by unfold bf;rw[bne,bne];cases c.w[i].u==7<;>rfl
    refine⟨if(bif bf c.w[i]then y else cj (y+1))>a then(bif bf c.w[i]then y else cj (y+1))else a,?_,λh=> ?_⟩
    ·simp only[zN hi,Ca,zF hi,za,Aa,Zh,k,m,zD hi (show c.w.length<=co by omega)];cases bf c.w[i]<;>rfl
    ·have ha:=hI h;have d:c.w.all d8=true:=by rw[hs]at h;simp only[Da]at h;exact h.2.2.2
     have s:=l (Ya.1 d _ (Ia hi));have e:Ui c.w[i]=(bif bf c.w[i]then 0 else 1)+Ig c.w[i]:=rfl;have t:=oF c.w[i];rw[Az Ui hi,ha,s];cases f:bf c.w[i]with
     |true=>
      grind
     |false=> rw[f,Ba,Lf]at e;simp only[Ba,Ho (show Ig c.w[i]<=co by omega),<-e,Yk]
   grind
--> pulled
def eH(c:zm):(⟨c.lf,c.kc,c.kj⟩:zm)=c:=by cases c;rfl
def BV(c:zU):(⟨c.lg,c.ka⟩:zU)=c:=by cases c;rfl
def mq(c:zH):(⟨c.u,c.q,c.op,c.i,c.ld,c.lc,c.of_,c.w⟩:zH)=c:=by cases c;rfl
def Rs(n:Int):Bool:=decide (-1000000000<=n)&&decide (n<=1000000000)
def gS(a:fj):Bool:=Rs a.a&&Rs a.b
def anb0(a:fj):Bool:=a.a==0&&a.b==0
def Yr(x:zH):Bool:=x.op==0&&(x.i==[]&&(!x.ld&&(anb0 x.lc&& !x.of_)))
def di(x:zH):Bool:=
 bif x.u==1||x.u==2 then Gh x.q&&Yr x
 else bif x.u==3 then aj x.q&&(decide (x.op<=6)&&((ZL x.i&&decide (x.i.length<=400))&&((!(x.op==0)||x.i==[]&& !x.ld)&&(anb0 x.lc&& !x.of_))))
 else bif x.u==9||x.u==10 then gS x.lc&&(x.q==[]&&(x.op==0&&(x.i==[]&& !x.ld)))
 else(decide (4<=x.u)&&decide (x.u<=14))&&(x.q==[]&&Yr x)
def hasS(x:zH):Bool:=bif x.u==9||x.u==10 then x.of_ else decide (11<=x.u)&&decide (x.u<=14)
def nu(x:zH):Bool:=x.u==11||x.u==12
def Jl(b:UInt8):Bool:=decide (1<=b.toNat)&&decide (b.toNat<=4)
def tagS(t:aE):Bool:=t==[]||(t==[42]||aj t)
def lC(c:zU):Bool:=tagS c.lg&&((!(c.lg==[])|| !c.ka.isEmpty)&&decide (c.ka.length<=64))
def WC(c:zm)(b:Bool):Bool:=(b==(c.lf != 0))&&(decide (c.lf<=4)&&(decide (c.kj.length+1=c.kc.length)&&(decide (c.kc.length<=64)&&c.kj.all Jl)))
mutual
def Xg:zm->Nat->Bool->Bool->Bool
 |⟨lead,parts,combs⟩,d,h,b=>WC ⟨lead,parts,combs⟩ b&&BD parts d h
def BD:List zU->Nat->Bool->Bool
 |[],_,_=>true
 |c::r,d,h=>QF c d h&&BD r d h
def QF:zU->Nat->Bool->Bool
 |⟨tag,simples⟩,d,h=>lC ⟨tag,simples⟩&&nz simples d h
def nz:List zH->Nat->Bool->Bool
 |[],_,_=>true
 |x::r,d,h=>Oj x d h&&nz r d h
def Oj:zH->Nat->Bool->Bool
 |⟨kind,name,op,value,fold,anb,of_,list⟩,d,h=>di ⟨kind,name,op,value,fold,anb,of_,list⟩&&
   (bif hasS ⟨kind,name,op,value,fold,anb,of_,list⟩then
    !(d==3||h&&kind==14)&&((nu ⟨kind,name,op,value,fold,anb,of_,list⟩|| !list.isEmpty)&&aC list (d+1) (h||kind==14) (kind==14))
   else list.isEmpty)
def aC:List zm->Nat->Bool->Bool->Bool
 |[],_,_,_=>true
 |c::r,d,h,b=>Xg c d h b&&aC r d h b
end
def jM(c:zm)(d:Nat)(h b:Bool):Xg c d h b=(WC c b&&c.kc.all λc=>QF c d h):=by
 obtain⟨lead,parts,combs⟩:=c;rw[Xg];have: ∀l,BD l d h=l.all λc=>QF c d h:=by
  intro l
  induction l with
  |nil=>rw[BD];rfl
  |cons c l a=>rw[BD,a];rfl
 rw[this]
def aO(c:zU)(d:Nat)(h:Bool):QF c d h=(lC c&&c.ka.all λx=>Oj x d h):=by
 obtain⟨tag,simples⟩:=c;rw[QF];have: ∀l,nz l d h=l.all λc=>Oj c d h:=by
  intro l
  induction l with
  |nil=>rw[nz];rfl
  |cons c l a=>rw[nz,a];rfl
 rw[this]
def zJH(l:List zm)(d:Nat)(h b:Bool):aC l d h b=l.all λc=>Xg c d h b:=by
 induction l with
 |nil=>rw[aC];rfl
 |cons c l a=>rw[aC,a];rfl
def BO(x:zH)(d:Nat)(h:Bool):Oj x d h=(di x&&
   (bif hasS x then !(d==3||h&&x.u==14)&&((nu x|| !x.w.isEmpty)&&x.w.all λc=>Xg c (d+1) (h||x.u==14) (x.u==14))else x.w.isEmpty)):=by
 obtain⟨kind,name,op,value,fold,anb,of_,list⟩:=x;rw[Oj,zJH]
def IV(a:fj):Xw a=some (bif gS a then 0 else 8):=by
 unfold Xw kG gS Rs;simp only[zO,za,Aa]
 grind
def zEp{d:Nat}(b:d<=3)(h:Bool)(k:Int):vJ (⟨(d:Int),h⟩,k)=some (bif d==3||h&&k==14 then(⟨0,false⟩,false)else(⟨((d+1:Nat):Int),h||k==14⟩,true)):=by
 unfold vJ;have e1:((d:Int)==3)=(d==3):=by
  by_cases a:d=3
  ·subst a;rfl
  ·grind
 simp only[e1];have e2:d≠3->cj ((d:Int)+1)=((d+1:Nat):Int):=λa=>zD (n:=4) (by omega) (by decide)
 grind
def zM9(x:zH):XI x=some (hasS x,bif x.u==9||x.u==10 then false else !(x.u==13||x.u==14)):=by
 unfold XI hasS;by_cases n:x.u=9
 ·simp[n]
 by_cases a:x.u=10
 ·simp[a]
 by_cases b:x.u=11
 ·simp[b]
 by_cases c:x.u=12
 ·simp[c]
 by_cases d:x.u=13
 ·simp[d]
 by_cases f:x.u=14
 ·simp[f]
 have e:(decide (11<=x.u)&&decide (x.u<=14))=false:=by
  rw[bg];by_cases p:11<=x.u
  ·grind
  ·grind
 have o:=Fa.2 n;have i:=Fa.2 a;have j:=Fa.2 b;have k:=Fa.2 c;have l:=Fa.2 d;have m:=Fa.2 f;simp only[o,i,j,k,l,m,e,Ba,zf,Ke,Va]
def zIP{x:zH}(h1:x.q.length<=co)(k:Option Bool)(hk:k=some true):
  ((bif bif bif !(x.u==3)then bif bif x.op != 0 then true else !(x.i==[])then true else x.ld else false then true else bif !(bif x.u==9 then true else x.u==10)then bif x.of_ then true else !(x.lc.a==0&&(x.lc.b==0&&true))else false then
  some false
 else
  zK (X:=Bool) (
    bif x.u==1 then
     some (LX.out (x.u==1))
    else
     some (LX.out (x.u==2))) λy=>
  bif y then
   za (Cy x.q) λA=>
   some A
  else
   bif x.u==3 then
    za (Ay x.q) λv=>
    za (zA (bif v then decide (x.op<=6)else false) (Wx (x.i,400)) (default:Bool)) λE=>
    some (bif bif bif v then decide (x.op<=6)else false then !E else false then bif x.op != 0 then true else bif x.i==[]then !x.ld else false else false)
   else
    za (zA (!(!(bif x.u==9 then true else x.u==10))&&(bif bif x.q==[]then decide (x.u>=4)else false then decide (x.u<=14)else false)) (Xw x.lc) (default:Int)) λF=>
    some (bif bif bif x.q==[]then decide (x.u>=4)else false then decide (x.u<=14)else false then bif !(bif x.u==9 then true else x.u==10)then true else F==0 else false)):Option Bool)=some (di x):=by
 have i:decide ((x.i.length:Int)>400)= !decide (x.i.length<=400):=kg _ 400;simp only[pO,oO h1,eO,IV,zO,za,Aa,i,bne,ge_iff_le];unfold di Yr anb0;generalize Gh x.q=a1;generalize aj x.q=a2;generalize ZL x.i=l;generalize decide (x.i.length<=400)=a4;generalize decide (x.op<=6)=a5;generalize (x.op==0)=m;generalize (x.i==[])=n;generalize (x.q==[])=o;generalize (x.lc.a==0)=p;generalize (x.lc.b==0)=c;generalize gS x.lc=d;generalize x.ld=e;generalize x.of_=f;have r: ∀kd:Int,kd=1\/kd=2\/kd=3\/kd=9\/kd=10->x.u=kd->True:=λ_ _ _=>trivial;clear i hk r h1;by_cases k1:x.u=1
 ·simp only[k1];revert a1 a2 l a4 a5 m n o p c d e f;simp_all
 by_cases k2:x.u=2
 ·simp only[k2];revert a1 a2 l a4 a5 m n o p c d e f;simp_all
 by_cases k3:x.u=3
 ·simp only[k3];revert a1 a2 l a4 a5 m n o p c d e f;simp_all
 by_cases s:x.u=9
 ·simp only[s];revert a1 a2 l a4 a5 m n o p c d e f;simp_all
 by_cases j:x.u=10
 ·simp only[j];revert a1 a2 l a4 a5 m n o p c d e f;simp_all
 simp only[Fa.2 k1,Fa.2 k2,Fa.2 k3,Fa.2 s,Fa.2 j];generalize decide (4<=x.u)=t;generalize decide (x.u<=14)=u;clear k1 k2 k3 s j k x;revert a1 a2 l a4 a5 m n o p c d e f t u;decide+kernel
def cr(l:aE)(n:Nat):UInt8:=l.getD n 0
def cm(b:UInt8):Bool:=decide (48<=b.toNat)&&decide (b.toNat<=57)
def dj(b:UInt8):Bool:=b==10||b==9||b==32
def alB(b:UInt8):Bool:=decide (65<=b.toNat)&&decide (b.toNat<=90)||decide (97<=b.toNat)&&decide (b.toNat<=122)
def fa(b:UInt8):Bool:=alB b||b==95||decide (128<=b.toNat)
def cM(b:UInt8):Bool:=fa b||cm b||b==45
def i0(b:UInt8):Nat:=
 if cm b then b.toNat - 48 else if 97<=b.toNat/\b.toNat<=102 then b.toNat - 87 else if 65<=b.toNat/\b.toNat<=70 then b.toNat - 55 else 16
def Q4(b:UInt8):Bool:=decide (i0 b<16)
def cF(l:aE):Bool:=cr l 0==92&& !(cr l 1==10)
def d6(l:aE):Bool:=if cr l 0==45 then fa (cr l 1)||cr l 1==45||cF (l.drop 1)else fa (cr l 0)||cF l
def Hg(b:UInt8):Bool:=b==43||b==45
def cq(l:aE):aE:=if Hg (cr l 0)then l.drop 1 else l
def fd(l:aE):aE:=if cr l 0==46 then l.drop 1 else l
def iS(l:aE):Bool:=cm (cr (fd (cq l)) 0)
def Mm:aE:=[239,191,189]
def Dh(n:Nat):aE:=
 if n=0\/(55296<=n/\n<=57343)\/1114111<n then Mm
 else if n<128 then [UInt8.ofNat n]
 else if n<2048 then [UInt8.ofNat (192+n / 64),UInt8.ofNat (128+n%64)]
 else if n<65536 then [UInt8.ofNat (224+n / 4096),UInt8.ofNat (128+n / 64%64),UInt8.ofNat (128+n%64)]
 else [UInt8.ofNat (240+n / 262144),UInt8.ofNat (128+n / 4096%64),UInt8.ofNat (128+n / 64%64),UInt8.ofNat (128+n%64)]
def hexes:Nat->Nat->aE->Nat×aE
 |0,n,l=>(n,l)
 |_+1,n,[]=>(n,[])
 |k+1,n,c::r=>if Q4 c then hexes k (16*n+i0 c) r else(n,c::r)
def js:aE->aE
 |[]=>[]
 |c::r=>if dj c then r else c::r
def zR:aE->aE×aE
 |[]=>(Mm,[])
 |c::r=>if Q4 c then(Dh (hexes 6 0 (c::r)).1,js (hexes 6 0 (c::r)).2)else([c],r)
def xz: ∀(k n:Nat) (l:aE),(hexes k n l).2<:+l
 |0,n,l=>Ie l
 |k+1,n,[]=>Ie _
 |k+1,n,c::r=>by
  unfold hexes;split
  ·exact(xz k _ r).trans (Yd c r)
  grind
def zOc(l:aE):js l<:+l:=by
 cases l with
 |nil=>exact Ie _
 |cons c r=>
  show(if dj c then r else c::r)<:+c::r
  grind
def ZT(l:aE):(zR l).2<:+l:=by
 cases l with
 |nil=>exact Ie _
 |cons c r=>
  show(if Q4 c then(Dh (hexes 6 0 (c::r)).1,js (hexes 6 0 (c::r)).2)else([c],r)).2<:+c::r;split
  ·exact(zOc _).trans (xz 6 0 _)
  grind
def ZO(l:aE):(zR l).2.length<=l.length:=(ZT l).length_le
def zJ:aE->aE×aE
 |[]=>([],[])
 |c::r=>
  if cM c then((c::(zJ r).1),(zJ r).2)
  else if cF (c::r)then((zR r).1++(zJ (zR r).2).1,(zJ (zR r).2).2)
  else([],c::r)
termination_by l=>l.length
decreasing_by
 all_goals first|(have:=ZO r;simp only[Ha];omega)|(simp only[Ha];omega)
def cv(p:UInt8->Bool):aE->aE
 |[]=>[]
 |c::r=>if p c then cv p r else c::r
def Et(p:UInt8->Bool): ∀l:aE,cv p l<:+l
 |[]=>Ie _
 |c::r=>by
  unfold cv;split
  ·exact(Et p r).trans (Yd c r)
  grind
def Zx(l:aE):aE×Bool:=
 if cr l 0==46&&cm (cr l 1)then(cv cm (l.drop 1),false)else(l,true)
def cV(l:aE):Option aE:=
 if cr l 0==101||cr l 0==69 then(if cm (cr (cq (l.drop 1)) 0)then some (cv cm (cq (l.drop 1)))else none)else none
def Za(l:aE):aE×Bool:=
 let x:=Zx (cv cm (cq l))
 match cV x.1 with
 |some r=>(r,false)
 |none=>x
def eS(n:Nat)(b:UInt8):Nat:=10*n+(b.toNat - 48)
def upto(l r:aE):aE:=l.take (l.length - r.length)
def ZE(m:UInt8):aE->Option aE×aE
 |[]=>(some [],[])
 |c::r=>
  if c==m then(some [],r)
  else if c==10 then(none,c::r)
  else if c==92 then
   (if r.isEmpty then(some [],[])
   else if cr r 0==10 then ZE m (r.drop 1)
   else((ZE m (zR r).2).1.map ((zR r).1++ ·),(ZE m (zR r).2).2))
  else((ZE m r).1.map (c:: ·),(ZE m r).2)
termination_by l=>l.length
decreasing_by
 all_goals first|(have:=ZO r;simp only[Ha];omega)|(simp only[Ha,Ic];omega)
def gj:aE->aE
 |[]=>[]
 |c::r=>if c==41 then r else if cF (c::r)then gj (zR r).2 else gj r
termination_by l=>l.length
decreasing_by
 all_goals first|(have:=ZO r;simp only[Ha];omega)|(simp only[Ha];omega)
def unB(b:UInt8):Bool:=decide (b.toNat<=8)||b==11||decide (14<=b.toNat)&&decide (b.toNat<=31)||b==127
def da:aE->Option aE×aE
 |[]=>(some [],[])
 |c::r=>
  if c==41 then(some [],r)
  else if dj c then(match cv dj r with
   |[]=>(some [],[])
   |d::a=>if d==41 then(some [],a)else(none,gj (d::a)))
  else if c==34||c==39||c==40||unB c||c==92&& !cF (c::r)then(none,gj (c::r))
  else if c==92 then((da (zR r).2).1.map ((zR r).1++ ·),(da (zR r).2).2)
  else((da r).1.map (c:: ·),(da r).2)
termination_by l=>l.length
decreasing_by
 all_goals first|(have:=ZO r;simp only[Ha];omega)|(simp only[Ha];omega)
def vg(b:UInt8):Int:=
 if b==58 then 16 else if b==59 then 17 else if b==44 then 18 else if b==91 then 19 else if b==93 then 20 else if b==40 then 21 else if b==41 then 22 else if b==123 then 23 else if b==125 then 24 else 0
def Li(k:Int):ze:=⟨k,[],0,[],false⟩
def Tg:Nat:=1000000000000
def Xh:Nat->Nat->Nat
 |0,n=>n
 |k+1,n=>if n=0\/Tg<=n then n else Xh k (min Tg (10*n))
set_option maxRecDepth 100000
abbrev sc(s:aE)(k:Nat):zb:=⟨s,(k:Int)⟩
def pk(l:aE)(n:Nat):Int:=match l[n]? with|some b=>(b.toNat:Int)|none=> -1
def cG(s r:aE):Nat:=s.length - r.length
def zY{n:Int}(a: -9223372036854775808<=n)(h2:n<=9223372036854775807):cj n=n:=ZX a h2
def Rt{s r:aE}(h:r<:+s):s.drop (cG s r)=r:=by obtain⟨t,rfl⟩:=h;unfold cG;simp_all
def mi(s r:aE):cG s r<=s.length:=by unfold cG;omega
def zLX{s:aE}{k:Nat}(h:k<=s.length):cG s (s.drop k)=k:=by unfold cG;grind
def gD{s:aE}{k n:Nat}(c:s.length<=co)(g:k<=s.length)(f:n<=8):zg ((n:Int),sc s k)=some (pk (s.drop k) n):=by
 have d:co=4194304:=rfl;have e:cj ((k:Int)+(n:Int))=((k+n:Nat):Int):=by rw[zY (by omega) (by omega)];omega
 unfold zg pk;simp only[e];rw[Wd];by_cases h:k+n<s.length
 ·rw[Ga (by omega),Ca];have b:cl s ((k+n:Nat):Int)=some s[k+n]:=zF h;have a:=Kb s[k+n];simp only[za,b,Aa,Na h];rw[zY (by omega) (by omega)]
 ·grind
def KC{s:aE}{k:Nat}(b:s.length<=co)(a:k<=s.length):zg (0,sc s k)=some (pk (s.drop k) 0):=gD (n:=0) b a (by omega)
def GQ{s:aE}{k:Nat}(b:s.length<=co)(a:k<=s.length):zg (1,sc s k)=some (pk (s.drop k) 1):=gD (n:=1) b a (by omega)
def zTA{s:aE}{k:Nat}(b:s.length<=co)(a:k<=s.length):zg (2,sc s k)=some (pk (s.drop k) 2):=gD (n:=2) b a (by omega)
def NC{a:Type}{f:Int->Option a}{p:UInt8->a}(h: ∀b:UInt8,f (b.toNat:Int)=some (p b))(c:f (-1)=some (p 0))(l:aE)(n:Nat):f (pk l n)=some (p (cr l n)):=by
 unfold pk cr
 grind
def kq{a:Type}{f:Int->Option a}{p:UInt8->a}(h: ∀n:Nat,n<256->f (n:Int)=some (p (UInt8.ofNat n)))(b:UInt8):f (b.toNat:Int)=some (p b):=by have:=h b.toNat (Kb b);simp_all
def wy(l:aE)(n:Nat):Gu (pk l n)=some (dj (cr l n)):=NC (kq (by decide+kernel)) (by decide+kernel) l n
def Pq(l:aE)(n:Nat):Q9 (pk l n)=some (cm (cr l n)):=NC (kq (by decide+kernel)) (by decide+kernel) l n
def zRj(l:aE)(n:Nat):CB (pk l n)=some (fa (cr l n)):=NC (kq (by decide+kernel)) (by decide+kernel) l n
def C8(l:aE)(n:Nat):GI (pk l n)=some (cM (cr l n)):=NC (kq (by decide+kernel)) (by decide+kernel) l n
def md(b:UInt8):Int:=if Q4 b then(i0 b:Int)else -1
def mK(l:aE)(n:Nat):Rw (pk l n)=some (md (cr l n)):=NC (kq (by decide+kernel)) (by decide+kernel) l n
def Jj(l:aE)(n:Nat)(c:UInt8)(h:c≠0):(pk l n==(c.toNat:Int))=(cr l n==c):=by
 unfold pk cr;rw[Lc];cases l[n]? with
 |none=>
  grind
 |some b=>
  show((b.toNat:Int)==(c.toNat:Int))=(b==c);by_cases e:b=c
  ·grind
  ·have:b.toNat≠c.toNat:=λh=>e (Cf.1 h)
   grind
def EQ(l:aE)(n:Nat):(pk l n==10)=(cr l n==10):=Jj l n 10 (by decide)
def yX(l:aE)(n:Nat):(pk l n==34)=(cr l n==34):=Jj l n 34 (by decide)
def zTB(l:aE)(n:Nat):(pk l n==35)=(cr l n==35):=Jj l n 35 (by decide)
def zTC(l:aE)(n:Nat):(pk l n==37)=(cr l n==37):=Jj l n 37 (by decide)
def xX(l:aE)(n:Nat):(pk l n==39)=(cr l n==39):=Jj l n 39 (by decide)
def zTD(l:aE)(n:Nat):(pk l n==40)=(cr l n==40):=Jj l n 40 (by decide)
def CQ(l:aE)(n:Nat):(pk l n==41)=(cr l n==41):=Jj l n 41 (by decide)
def BQ(l:aE)(n:Nat):(pk l n==43)=(cr l n==43):=Jj l n 43 (by decide)
def JC(l:aE)(n:Nat):(pk l n==45)=(cr l n==45):=Jj l n 45 (by decide)
def AQ(l:aE)(n:Nat):(pk l n==46)=(cr l n==46):=Jj l n 46 (by decide)
def zTE(l:aE)(n:Nat):(pk l n==64)=(cr l n==64):=Jj l n 64 (by decide)
def zTF(l:aE)(n:Nat):(pk l n==69)=(cr l n==69):=Jj l n 69 (by decide)
def wX(l:aE)(n:Nat):(pk l n==92)=(cr l n==92):=Jj l n 92 (by decide)
def zSN(l:aE)(n:Nat):(pk l n==101)=(cr l n==101):=Jj l n 101 (by decide)
def jr(l:aE):(pk l 0== -1)=l.isEmpty:=by
 cases l with
 |nil=>rfl
 |cons b r=>
  show((b.toNat:Int)== -1)=false
  grind
def Fj(l:aE)(k n:Nat):cr (l.drop k) n=cr l (k+n):=by
 unfold cr
 grind
def O8 {R:Type}{step:zb->Option (LO zb zb R)}{s:aE}(p:UInt8->Bool)(h0:p 0=false)
  (h: ∀k,k<=s.length->step (sc s k)=some (bif p (cr (s.drop k) 0)then .again (sc s (k+1))else .out (sc s k))) {k:Nat} (hk:k<=s.length):
  Dg step (sc s k)=some (.out (sc s (cG s (cv p (s.drop k))))):=by
 refine qh (λz=> ∃j,z=sc s j/\j<=s.length/\cv p (s.drop j)=cv p (s.drop k)) (λz=>s.length - z.at_.toNat) _ ?_ ⟨k,rfl,hk,rfl⟩;rintro _ ⟨j,rfl,e,b⟩;rw[h j e];cases a:s.drop j with
 |nil=>
  rw[show cr ([]:aE) 0=0 from rfl,h0,Ba];refine .inr (.inl ⟨_,rfl,?_⟩);rw[<-b,a];have:j=s.length:=by have:=Ad.1 a;omega
  subst this;show LX.out (sc s (cG s []))=_;unfold cG;rw[Cb,Nat.sub_zero]
 |cons c r=>
  have d:j<s.length:=by
   rcases Ec j s.length with h'|h'
   ·exact h'
   ·grind
  have hr:s.drop (j+1)=r:=by have:=Eb d;rw[a]at this;injection this with _ h2;exact h2.symm
  rw[show cr (c::r) 0=c from rfl];cases hp:p c with
  |true=> refine .inl ⟨_,rfl,⟨j+1,rfl,by omega,?_⟩,by grind⟩;rw[hr,<-b,a,cv,hp];rfl
  |false=> refine .inr (.inl ⟨_,rfl,?_⟩);rw[<-b,a,cv,hp,Ka (by decide),<-a,zLX e]
def J4{s:aE}{k:Nat}(b:s.length<=co)(a:k<=s.length):cj ((k:Int)+1)=((k+1:Nat):Int):=by have c:co=4194304:=rfl;rw[zY (by omega) (by omega)];omega
def zOh{s:aE}{k:Nat}(a:s.length<=co)(c:k<=s.length):qb (sc s k)=some (sc s (cG s (cv dj (s.drop k)))):=by
 unfold qb;rw[Zt (O8 dj rfl (λj b=> ?_) c)];simp only[za,KC a b,Aa,wy,J4 a b]
 grind
def zLH{s:aE}{k:Nat}(a:s.length<=co)(c:k<=s.length):ZN (sc s k)=some (sc s (cG s (cv cm (s.drop k)))):=by
 unfold ZN;rw[Zt (O8 cm rfl (λj b=> ?_) c)];simp only[za,KC a b,Aa,Pq,J4 a b]
 grind
def number_eq{s:aE}{k:Nat}(a:s.length<=co)(c:k<=s.length):qV (sc s k)=some (iS (s.drop k)):=by
 unfold qV iS cq fd Hg;simp only[za,KC a c,Aa,BQ,JC];have d: ∀(b:Bool),(zK (X:=Int) (bif b then some (LX.out 1)else some (LX.out 0)) λe=>
   zK (X:=Int) ((zg (e,sc s k)).bind λf=>bif f==46 then some (LX.out (cj (e+1)))else some (LX.out e)) λg=>
   (zg (g,sc s k)).bind λi=>(Q9 i).bind λj=>some j)=some (cm (cr (if cr (if b then(s.drop k).drop 1 else s.drop k) 0==46 then(if b then(s.drop k).drop 1 else s.drop k).drop 1 else(if b then(s.drop k).drop 1 else s.drop k)) 0)):=by
  intro b;cases b with
  |false=>
   simp only[Ba,zf,KC a c,Aa,AQ,Cc,Xd];cases h:cr (s.drop k) 0==46 with
   |false=>simp only[Ba,zf,KC a c,Aa,Pq,Cc,Xd]
   |true=> simp only[Ca,zf,He];rw[show cj (0+1)=1 from rfl,GQ a c];simp only[Aa,Pq];rw[Fj (s.drop k) 1 0]
  |true=>
   simp only[Ca,zf,GQ a c,Aa,AQ,He];rw[Fj (s.drop k) 1 0];cases h:cr (s.drop k) (1+0)==46 with
   |false=> simp only[Od]at h;simp only[h,Ba,zf,GQ a c,Aa,Pq,Cc,Xd];rw[Fj (s.drop k) 1 0]
   |true=> simp only[Od]at h;simp only[h,Ca,zf,He];rw[show cj (1+1)=2 from rfl,zTA a c];simp only[Aa,Pq];rw[ae,Fj (s.drop k) (1+1) 0]
 have:=d (cr (s.drop k) 0==43||cr (s.drop k) 0==45)
 grind
abbrev sr(s r:aE):zb:=sc s (cG s r)
def sr_0(s:aE):(⟨s,0⟩:zb)=sr s s:=by show sc s 0=sc s (cG s s);unfold cG;rw[Nat.sub_self]
def Wu{s r:aE}{n:Nat}(b:s.length<=co)(c:r<:+s)(a:n<=8):zg ((n:Int),sr s r)=some (pk r n):=by rw[gD b (mi s r) a,Rt c]
def uh{s r:aE}(a:s.length<=co)(b:r<:+s):zg (0,sr s r)=some (pk r 0):=Wu (n:=0) a b (by omega)
def yC{s r:aE}(a:s.length<=co)(b:r<:+s):zg (1,sr s r)=some (pk r 1):=Wu (n:=1) a b (by omega)
def zSM{s r:aE}(a:s.length<=co)(b:r<:+s):zg (2,sr s r)=some (pk r 2):=Wu (n:=2) a b (by omega)
def wK{s r:aE}(a:s.length<=co)(b:r<:+s):qb (sr s r)=some (sr s (cv dj r)):=by rw[zOh a (mi s r),Rt b]
def dL{s r:aE}(a:s.length<=co)(b:r<:+s):ZN (sr s r)=some (sr s (cv cm r)):=by rw[zLH a (mi s r),Rt b]
def zQE{s r:aE}(a:s.length<=co)(b:r<:+s):qV (sr s r)=some (iS r):=by rw[number_eq a (mi s r),Rt b]
def SS{s r:aE}{n:Nat}(a:r<:+s)(b:n<=r.length):cG s r+n=cG s (r.drop n):=by
 have:=a.length_le;unfold cG
 grind
def gK{s r:aE}{n:Nat}(c:s.length<=co)(a:r<:+s)(b:n<=r.length):(⟨s,cj ((cG s r:Int)+(n:Int))⟩:zb)=sr s (r.drop n):=by have d:co=4194304:=rfl;have:=mi s r;have e:=a.length_le;rw[zY (by omega) (by omega),show(cG s r:Int)+(n:Int)=((cG s r+n:Nat):Int) by omega,SS a b]
def tC{l:aE}{n:Nat}(h:cr l n≠0):n<l.length:=by
 rcases Ec n l.length with a|a
 ·exact a
 ·exact absurd (by unfold cr;grind) h
def kC{s r:aE}(a:s.length<=co)(b:r<:+s)(h:cr r 0≠0):(⟨s,cj ((cG s r:Int)+1)⟩:zb)=sr s (r.drop 1):=gK (n:=1) a b (tC h)
def Em{s r:aE}(a:r<:+s)(n:Nat):r.drop n<:+s:=(Af n r).trans a
def Dm{s r:aE}(p:UInt8->Bool)(a:r<:+s):cv p r<:+s:=(Et p r).trans a
def dw{s r:aE}(a:r<:+s):cq r<:+s:=by
 unfold cq;split
 ·exact Em a 1
 ·exact a
def tZ{b:UInt8}(h:Hg b=true):b≠0:=by rintro rfl;revert h;decide
def Vy(a b:Bool):(bif a then true else b)=(a||b):=by cases a<;>rfl
def tY(a b:Bool):(bif a then b else false)=(a&&b):=by cases a<;>rfl
def iM{s r:aE}(a:r<:+s):(Zx r).1<:+s:=by
 unfold Zx;split
 ·exact Dm _ (Em a 1)
 ·exact a
def l6{s r q:aE}(a:r<:+s)(h:cV r=some q):q<:+s:=by
 unfold cV at h;split at h
 ·split at h
  ·cases h;exact Dm _ (dw (Em a 1))
  ·cases h
 ·cases h
def OU{s r:aE}(b:r<:+s):(Za r).1<:+s:=by
 unfold Za;have a:=iM (Dm cm (dw b));simp only;cases h:cV (Zx (cv cm (cq r))).1 with
 |some q=>exact l6 a h
 |none=>exact a
def zMC{s l:aE}(hs:s.length<=co)(hl:l<:+s):VK (sr s l)=some ((Za l).2,sr s (Za l).1):=by
 unfold VK;simp only[za,uh hs hl,Aa,BQ,JC,Vy];have e1:(bif (cr l 0==43||cr l 0==45)then some (LX.out (⟨s,cj ((cG s l:Int)+1)⟩:zb))else some (LX.out (sr s l)))=(some (LX.out (sr s (cq l))):Option (LX zb (Bool×zb))):=by
  unfold cq;cases h:Hg (cr l 0)with
  |true=> have h':(cr l 0==43||cr l 0==45)=true:=h;rw[h',Ca,La rfl,kC hs hl (tZ h)]
  |false=>
   have h':(cr l 0==43||cr l 0==45)=false:=h
   grind
 rw[e1,zf];have hu:=dw hl;rw[dL hs hu];simp only[Aa];have hp:=Dm cm hu;unfold Za;generalize cv cm (cq l)=q at hp ⊢;have e2:zK (X:=Bool×zb) (R:=Bool×zb) ((zg (0,sr s q)).bind λm=>
   (zA (m==46) (zg (1,sr s q)) (default:Int)).bind λA=>
   (zA (m==46) (Q9 A) (default:Bool)).bind λE=>
   bif bif m==46 then E else false then(ZN (⟨s,cj ((cG s q:Int)+1)⟩:zb)).bind λF=>some (LX.out (false,F))else some (LX.out (true,sr s q)))=zK (some (LX.out ((Zx q).2,sr s (Zx q).1))):=by
  congr 1;unfold Zx;simp only[uh hs hp,yC hs hp,Aa,AQ];cases h:cr q 0==46 with
  |false=>simp_all
  |true=>
   simp only[zQ,Aa,Ca,Pq,ja];cases h2:cm (cr q 1)with
   |false=>grind
   |true=> rw[Ca,La rfl,kC hs hp (by grind),dL hs (Em hp 1)];rfl
 rw[e2,zf];have d:=iM hp;generalize Zx q=W at d ⊢;obtain⟨w,i⟩:=W;simp only at d ⊢;have e3:((zg (0,sr s w)).bind λv=>
   (zA (!(v==101)) (zg (0,sr s w)) (default:Int)).bind λc=>
   bif bif v==101 then true else c==69 then
    zK (X:=(Bool×Int)×zb) ((zg (1,sr s w)).bind λk=>bif bif k==43 then true else k==45 then some (LX.out ((i,2),sr s w))else some (LX.out ((i,1),sr s w))) λa=>
    (zg (a.1.2,a.2)).bind λn=>(Q9 n).bind λp=>
    bif p then(ZN (⟨a.2.s,cj (a.2.at_+a.1.2)⟩:zb)).bind λt=>some (LX.out (false,t))else some (LX.out (a.1.1,a.2))
   else some (LX.out (i,sr s w)))=(some (LX.out (match cV w with|some r=>(false,sr s r)|none=>(i,sr s w))):Option (LX (Bool×zb) (Bool×zb))):=by
  simp only[uh hs d,Aa,zSN];have e4:((zA (!(cr w 0==101)) (some (pk w 0)) (default:Int)).bind λc=>(some (bif cr w 0==101 then true else c==69):Option Bool))=some (cr w 0==101||cr w 0==69):=by
   cases h:cr w 0==101 with
   |true=>rfl
   |false=>simp only[Va,zQ,Aa,Ba,zTF,Ac]
  have e5: ∀(f:Bool->Option (LX (Bool×zb) (Bool×zb))),((zA (!(cr w 0==101)) (some (pk w 0)) (default:Int)).bind λc=>f (bif cr w 0==101 then true else c==69))=f (cr w 0==101||cr w 0==69):=by intro f;have:=congrArg (λo=>Option.bind o f) e4;simpa [Option.bind_assoc] using this
  refine(e5 (λb=>bif b then _ else _)).trans ?_;unfold cV;cases h:(cr w 0==101||cr w 0==69)with
  |false=>rfl
  |true=>
   have u:cr w 0≠0:=by intro e;rw[e]at h;revert h;decide
   simp only[Ca,He,yC hs d,Aa,BQ,JC,Vy];unfold cq;have x:cr (w.drop 1) 0=cr w 1:=by rw[Fj w 1 0]
   rw[x];cases y:(cr w 1==43||cr w 1==45)with
   |true=>
    have j:Hg (cr w 1)=true:=y;have J:=tC (tZ j);simp only[Ca,zf,zSM hs d,Aa,Pq,j,He,ae];rw[show cr (w.drop (1+1)) 0=cr w 2 by rw[Fj w 2 0]];cases L:cm (cr w 2)with
    |false=>rfl
    |true=> rw[Ca,La rfl,show(2:Int)=((2:Nat):Int)from rfl,gK hs d (by omega),dL hs (Em d 2)];rfl
   |false=>
    have j:Hg (cr w 1)=false:=y;simp only[Ba,zf,yC hs d,Aa,Pq,j,Cc,Xd];rw[x];cases L:cm (cr w 1)with
    |false=>rfl
    |true=> rw[Ca,La rfl,kC hs d u,dL hs (Em d 1)];rfl
 refine(congrArg (λo=>zK o _) e3).trans ?_;rw[zf];cases cV w<;>rfl
end Go.Lv.VT
