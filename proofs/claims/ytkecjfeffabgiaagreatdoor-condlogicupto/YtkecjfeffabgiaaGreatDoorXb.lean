/- Lemmas on conditions: what the texts of the older seat had. -/
import Derived.Test.YtkecjfeffabgiaaGreatDoorXa
import Derived.Test.YtkecjfeffabgiaaGreatDoorMo
import Derived.KernelRfl
set_option linter.unusedSimpArgs false
set_option linter.unusedVariables false
namespace Go.Lv.VT
theorem Bl(x:zB):zC (Qq x)=3+x.name.length+zL Zd x.value:=by simp only[Qq,zC,bPV,zL];omega
theorem Wi(x:zh):zC (zq x)=4+x.name.length+zC (Qq x.decl)+zL zq x.list - 1+1:=by rw[Bl];rw[OZ];simp only[zC,bPV,zL];omega
theorem Hy(x:zB):1<=zC (Qq x):=by have:=Bl x;omega
theorem KI{α:Type}(l:List α):decide ((l.length:Int)>0)= !l.isEmpty:=by
 cases l with
 |nil=>rfl
 |cons a l=>exact Ta (by simp only[Ab];omega)
theorem nS(x:zh):1<=zC (zq x):=by have:=Wi x;omega
theorem zB1{a b:Nat}(h:a+b<=big):w64 ((a:Int)+(b:Int))=((a+b:Nat):Int):=by rw[w64,Zo (by omega) (by unfold big at h;omega)];omega
theorem Ho{d:zB}(h:zC (Qq d)<=big):szL d.value<=big/\d.name.length<=big:=by have:=Bl d;have:=Ow d.value;constructor<;>omega
theorem L6{d:zB}(h:zC (Qq d)<=big):QI d=some (bif mf d then 0 else 8):=RZ (Ho h).1 (Ho h).2
theorem Y5{d:zB}(h:zC (Qq d)<=big):Dp d=some (bif mf d then 0 else 8):=O3 (Ho h).1 (Ho h).2
theorem qO(c:zh):(⟨c.kind,c.name,c.num,c.decl,c.list⟩:zh)=c:=by cases c;rfl
def Tk(d:zB):Bool:=d.name==[]&&(d.value.isEmpty&& !d.important)
def Hf(c:zh):Bool:=c.name==[]&&(c.num==0&&Tk c.decl)
theorem jl(c:zh):ZZ c=some (Hf c):=by unfold ZZ Hf Tk;rw[ji];cases c.name==[]<;>cases c.num==0<;>cases c.decl.name==[]<;>cases c.decl.value.isEmpty<;>rfl
theorem J3(d:zB):Bu d=some (Tk d):=by unfold Bu Tk;rw[ji];cases d.name==[]<;>cases d.value.isEmpty<;>rfl
theorem WP(c:zh):Dm c=some (Hf c):=by unfold Dm Hf;simp only[J3,Zb,zb,Aa];cases c.name==[]<;>cases c.num==0<;>rfl
def keyS(x:Str):Bool:=x==[]||(x==[97,110,100]||(x==[111,114]||(x==[110,111,116]||x==[111,110,108,121])))
def medS(x:Str):Bool:= !keyS x&&(decide (x.length<=64)&&(lowS x==x&&Re x))
theorem M8(l:List Str)(x:Str)(h:l.length<=big):slices_Contains_string (l,x)=some (l.any fun v=>x==v):=by
 unfold slices_Contains_string slices_Index_string;refine Ay (dx l (fun v=>x==v) h (fun i hi=> ?_) ?_) (Js _ _)
 ·simp only[Zw hi,Ea,ZF hi,zb,Aa]
 ·simp only[af,Da]
theorem zBv(x:Str):(([[],[97,110,100],[111,114],[110,111,116],[111,110,108,121]]:List Str).any fun v=>x==v)=keyS x:=by simp only[List.any_cons,List.any_nil,Ud];rfl
theorem O6{x:Str}(h:x.length<=big):Q3 x=some (medS x):=by
 have e:decide ((x.length:Int)<=64)=decide (x.length<=64):=cB _ 64;have e1:decide (Lib.indexByte x (0:Int).toNat.toUInt8<0)=Re x:=by rw[PI,jB,df]
 have hcs:=M8 [[],[97,110,100],[111,114],[110,111,116],[111,110,108,121]] x (by decide);unfold Q3 medS;simp only[hcs,zBv,ay h,BF,Zb,zb,Aa,e];cases keyS x<;>cases decide (x.length<=64)<;>try rfl
 simp only[Ua,Ea,aa];cases lowS x==x
 ·rfl
 ·exact congrArg some e1
def isN(n:Int):Bool:=decide (-1000000000000<=n)&&decide (n<=1000000000000)
theorem H6(n:Int):Q5 n=some (bif isN n then 0 else 8):=by
 unfold Q5 Wj;have e1:decide (n< -1000000000000)= !decide (-1000000000000<=n):=by have:=VB n (-1000000000000);show _= !decide (n>=_);rw[this,df]
 have e2:decide (n>1000000000000)= !decide (n<=1000000000000):=by have:=VB 1000000000000 n;show decide (1000000000000<n)= !decide (1000000000000>=n);rw[this,df]
 have:zY (fun(s1:Int)=>
   bif decide (s1<(([n]:List Int).length:Int))then
    zb (geti [n] s1) fun y2=>
    bif bif decide (y2<(-1000000000000))then true else decide (y2>1000000000000)then
     some (LO.ret (8:Int))
    else
     some (LO.again (w64 (s1+1)))
   else
    some (LO.out ()):Int->Option (LO (Int) (Unit) Int)) 0 (fun o3=>some (0:Int))=some (bif isN n then 0 else 8):=by
  refine(Sl [n] (fun n=>bif isN n then none else some 8) () (fun i hi=> ?_) ?_).trans ?_
  ·obtain rfl:i=0:=by simpa using hi
   simp only[Zw hi,Ea,ZF hi,zb,Aa,List.getElem_cons_zero,e1,e2,isN];cases decide (-1000000000000<=n)<;>cases decide (n<=1000000000000)<;>rfl
  ·simp only[af,Da]
  ·rw[Oo];simp only[List.all_cons,List.all_nil,Vb];cases isN n<;>rfl
 rw[this];rfl
def Fh(first:Bool)(y:zh):Bool:=
 y.list.isEmpty&&(Tk y.decl&&((first&&(y.kind==4&&(y.num==0&&medS y.name)))||((y.kind==5||y.kind==6)&&(y.name==[]&&(decide (0<=y.num)&&isN y.num)))))
def SC(l:List zh):Bool:=(List.range l.length).all fun i=>Fh (i==0) (l.getD i default)
def Li(c:zh):Bool:=c.kind==1&&(Hf c&&(!c.list.isEmpty&&SC c.list))
def nA(c:zh):Bool:=match c.list with
 |[]=>false
 |y::_=>y.kind==4
theorem zBP(i:Nat):decide ((i:Int)>0)= !(i==0):=by
 cases i with
 |zero=>rfl
 |succ i=>exact Ta (by omega)
theorem SV{c:zh}(h:zC (zq c)<=big)(i:Nat)(R:Type)(A:Option R)(k:Int->Option R):
  (zF (X:=Int) (
       zb (zo (!(decide ((c.list.length:Int)>0))) (ZZ (⟨c.kind,[],0,c.decl,c.list⟩:zh)) (default:Bool)) fun y4=>
       bif bif decide ((c.list.length:Int)>0)then true else !y4 then
        A.map LX.ret
       else
        bif c.kind==4 then
         zb (zo (!(bif decide ((i:Int)>0)then true else c.num != 0)) (Q3 c.name) (default:Bool)) fun y5=>
         bif bif bif decide ((i:Int)>0)then true else c.num != 0 then true else !y5 then
          A.map LX.ret
         else
          some (LX.out (i:Int))
        else
         zF (X:=Bool) (
           bif c.kind==5 then
            some (LX.out (c.kind==5))
           else
            some (LX.out (c.kind==6))) fun j6=>
         bif j6 then
          zb (zo (!(bif !(c.name==[])then true else decide (c.num<0))) (Q5 c.num) (default:Int)) fun y7=>
          bif bif bif !(c.name==[])then true else decide (c.num<0)then true else y7 != 0 then
           A.map LX.ret
          else
           some (LX.out (i:Int))
         else
          A.map LX.ret) k)=bif Fh (i==0) c then k (i:Int)else A:=by
 have hz:=Wi c;have hn:c.name.length<=big:=by have:=Hy c.decl;omega
 have hA:zF (A.map LX.ret) k=A:=by cases A<;>rfl
 have e1:decide (c.num<0)= !decide (0<=c.num):=by have:=VB c.num 0;show _= !decide (c.num>=0);rw[this,df]
 have e2:((bif isN c.num then(0:Int)else 8) != 0)= !isN c.num:=by cases isN c.num<;>rfl
 have eb:Hf ⟨c.kind,[],0,c.decl,c.list⟩=Tk c.decl:=rfl;unfold Fh;simp only[jl,eb,KI,Zb,zb,Aa,O6 hn,H6,zBP i,e1,bne];cases c.list.isEmpty with
 |false=>exact hA
 |true=>
  cases Tk c.decl with
  |false=>exact hA
  |true=>
   simp only[ja,Ua,Ea,Da,aa];by_cases k4:c.kind=4
   ·simp only[k4,Int.reduceBEq,Ea,Ud,Jc,aa];cases (i==0)<;>cases c.num==0<;>cases medS c.name<;>first|rfl|exact hA
   ·have b4:=Ja.2 k4;simp only[b4,Da,Jc,Tc,Ld];by_cases k5:c.kind=5
    ·simp only[k5,Int.reduceBEq,Ea,zS,Yd,aa];cases c.name==[]<;>cases decide (0<=c.num)<;>cases isN c.num<;>first|rfl|exact hA
    ·have b5:=Ja.2 k5;simp only[b5,Da,zS,Ld];cases c.kind==6
     ·exact hA
     ·cases c.name==[]<;>cases decide (0<=c.num)<;>cases isN c.num<;>first|rfl|exact hA
theorem Qc{c y:zh}(h:y∈c.list):zC (zq y)<zC (zq c):=by have hz:=Wi c;have:=aR (f:=zq) h;have:=Hy c.decl;omega
theorem Yi(c:zh):c.list.length<=zC (zq c):=by have hz:=Wi c;have:=bA nS c.list;have:=Hy c.decl;omega
theorem ky(c:zh):zC (Qq c.decl)<=zC (zq c):=by have hz:=Wi c;omega
theorem sN{c:zh}(h:zC (zq c)<=big):Tj c=some (Li c):=by
 have hlen:=Yi c;unfold Tj Li;simp only[qO,jl,Zb,zb,Aa,ji,bne];cases c.kind==1 with
 |false=>rfl
 |true=>
  cases Hf c with
  |false=>rfl
  |true=>
   cases c.list.isEmpty with
   |true=>rfl
   |false=>
    simp only[ja,Ua,Ea,Da,aa];refine(pE c.list.length (fun i=>Fh (i==0) (c.list.getD i default)) false (fun i hi=> ?_) ?_).trans ?_
    ·have hm:=Qc (Fb hi);have hgd:c.list.getD i default=c.list[i]:=by simp[hi]
     have:=SV (c:=c.list[i]) (by omega) i (LO Int Unit Bool) (some (LO.ret false)) fun j=>some (.again (w64 (j+1)));simp only[jl,WP,Zb,zb,Aa,bne,Ie]at this;simp only[Zw hi,Ea,ZF hi,Aa,hgd];refine this.trans ?_;rw[Zh hi (by omega)];cases Fh (i==0) c.list[i]<;>rfl
    ·simp only[af,Da]
    ·unfold SC;cases (List.range c.list.length).all fun i=>Fh (i==0) (c.list.getD i default)<;>rfl
theorem UZ(c:zh):vo c=some (nA c):=by
 unfold vo nA;cases c.list with
 |nil=>rfl
 |cons y r=> have e1:decide (((y::r).length:Int)>0)=true:=Ta (by simp only[Ab];omega);have e2:geti (y::r) 0=some y:=rfl;simp only[e1,e2,zU,zb,Aa,Ea]
def Lh(c:zh):Bool:=bif c.kind==3 then Hf c&&(match c.list with
 |[y]=>Li y&&nA y
 |_=>false)else Li c
theorem zBz{α:Type}(y z:α)(r:List α):(((y::z::r).length:Int)==1)=false:=Ja.2 (by simp only[Ab];omega)
theorem RY{c:zh}(h:zC (zq c)<=big):Jl c=some (Lh c):=by
 unfold Jl Lh;simp only[qO,jl,zb,Aa,sN h,UZ];cases c.kind==3 with
 |false=>rfl
 |true=>
  simp only[Ea];cases Hf c with
  |false=>rfl
  |true=>
   cases hl:c.list with
   |nil=>rfl
   |cons y r=>
    cases r with
    |nil=>
     have hm:=Qc (c:=c) (y:=y) (by rw[hl];exact Ob);have e2:geti [y] 0=some y:=rfl;have e3:(([y]:List zh).length:Int)==1:=rfl;simp only[e2,e3,Ea,zU,Aa,sN (show zC (zq y)<=big by omega),aa];cases Li y
     ·rfl
     ·simp only[zU,Aa,Ea,aa]
    |cons z r=> simp only[zBz,Ea,Zi,Aa,Da,Tc]
def yf(c:zh):Bool:=Hf c&&((c.kind==1&&c.list.isEmpty)||(c.kind==2&&(!c.list.isEmpty&&(decide (c.list.length<=64)&&c.list.all Lh))))
theorem TZ{l:List zh}(hl:l.length<=big)(h: ∀c∈l,zC (zq c)<=big):Zj l=some (!l.all Lh):=by
 unfold Zj Z4;refine Ay (dx l (fun c=> !Lh c) hl (fun i hi=> ?_) ?_) ((Js _ _).trans (zAU _ _))
 ·have:qw l[i]=some (!Lh l[i]):=by unfold qw;simp only[qO,RY (h _ (Fb hi)),zb,Aa]
  simp only[Zw hi,Ea,ZF hi,zb,Aa,qO,this]
 ·simp only[af,Da]
theorem N8{c:zh}(h:zC (zq c)<=big):Z8 c=some (bif yf c then 0 else 8):=by
 have hlen:=Yi c;have e:decide ((c.list.length:Int)<=64)=decide (c.list.length<=64):=cB _ 64;unfold Z8 yf;simp only[qO,jl,TZ (show c.list.length<=big by omega) (fun y hy=>by have:=Qc hy;omega),Zb,zb,Aa,KI,ji,e];have h12:c.kind==1->c.kind==2->False:=fun a b=>by rw[Sb]at a b;omega
 cases Hf c with
 |false=>rfl
 |true=> cases c.kind==1<;>cases c.kind==2<;>cases c.list.isEmpty<;>cases decide (c.list.length<=64)<;>cases c.list.all Lh<;>rfl
theorem fB{n:Nat}(h:n<=big):w64 ((n:Int)+1)=((n+1:Nat):Int):=by rw[w64,Zo (by omega) (by unfold big at h;omega)];omega
theorem zAt{n:Nat}(h:n<=big):w64 (1+(n:Int))=((n+1:Nat):Int):=by rw[w64,Zo (by omega) (by unfold big at h;omega)];omega
theorem Nj{α:Type}(f:α->Nat): ∀{l:List α} {i:Nat} (h:i<l.length),((l.take (i+1)).map f).sum=((l.take i).map f).sum+f l[i]
 |[],_,h=>by cases h
 |v::l,0,_=>by simp
 |v::l,i+1,h=>by simp only[Md,Ub,Me,List.getElem_cons_succ];rw[Nj f (l:=l) (i:=i) (by simpa using h)];omega
theorem Au{α:Type}(f:α->Nat): ∀(l:List α) (i:Nat),((l.take i).map f).sum<=(l.map f).sum
 |[],_=>by simp
 |v::l,0=>by simp
 |v::l,i+1=>by simp only[Md,Ub,Me];have:=Au f l i;omega
theorem RI{α:Type}(f:α->Nat): ∀{l:List α} {i:Nat} (h:i<l.length),mx f (l.take (i+1))=max (mx f (l.take i)) (f l[i])
 |[],_,h=>by cases h
 |v::l,0,_=>by simp[mx]
 |v::l,i+1,h=>by simp only[Md,mx,List.getElem_cons_succ];rw[RI f (l:=l) (i:=i) (by simpa using h)];omega
theorem RJ{α:Type}(p:α->Bool): ∀{l:List α} {i:Nat} (h:i<l.length),(l.take (i+1)).all p=((l.take i).all p&&p l[i])
 |[],_,h=>by cases h
 |v::l,0,_=>by simp
 |v::l,i+1,h=>by simp only[Md,List.all_cons,List.getElem_cons_succ];rw[RJ p (l:=l) (i:=i) (by simpa using h),Te]
theorem zAS{α:Type}{p:α->Bool}{l:List α}{i:Nat}(h:i<l.length)(hp:p l[i]=false):l.all p=false:=by rw[List.all_eq_false];exact⟨l[i],Fb h,by rw[hp];simp⟩
mutual
def sizC:zh->Nat
 |⟨_,_,_,_,l⟩=>1+Jh l
def Jh:List zh->Nat
 |[]=>0
 |c::r=>sizC c+Jh r
end
theorem LK(l:List zh):Jh l=(l.map sizC).sum:=by
 induction l with
 |nil=>rw[Jh];rfl
 |cons c l ih=>rw[Jh,ih];rfl
theorem Vh(c:zh):sizC c=1+(c.list.map sizC).sum:=by obtain⟨k,n,m,d,l⟩:=c;rw[sizC,LK]
theorem zAl: ∀l:List zh,Jh l<=zL zq l:=by
 have key: ∀(n:Nat) (l:List zh),zL zq l<n->Jh l<=zL zq l:=by
  intro n
  induction n with
  |zero=>intro l h;omega
  |succ n ih=>
   intro l
   induction l with
   |nil=>intro _;rw[Jh];exact Gc _
   |cons v l ihl=> intro h;rw[Rh]at h ⊢;rw[Jh,Vh,<-LK];have hz:=Wi v;have hd:=Hy v.decl;have h1:=ih v.list (by omega);have h2:=ihl (by omega);omega
 exact fun l=>key _ l (Nat.lt_succ_self _)
theorem YC(c:zh):sizC c<=zC (zq c):=by have:=zAl [c];rw[Jh,Jh,Rh,jv]at this;omega
theorem sO{c:zh}{m:Nat}(h:zC (zq c)<=big)(hm:m<=big):
  ∃r:Nat,qj (c,(m:Int))=some (r:Int)/\r<=sizC c/\(sizC c<=m->r=sizC c)/\(m<sizC c->m<r):=by
 have key: ∃y:Int,qj (c,(m:Int))=some y/\ ∃r:Nat,y=(r:Int)/\r<=sizC c/\ ∀m':Nat,(m:Int)=(m':Int)->(sizC c<=m'->r=sizC c)/\(m'<sizC c->m'<r):=by
  refine Ux G5 (fun x:zh×Int=>zC (zq x.1)) (fun x=>zC (zq x.1)<=big/\ ∃m:Nat,x.2=(m:Int)/\m<=big)
   (fun x (y:Int)=> ∃r:Nat,y=(r:Int)/\r<=sizC x.1/\ ∀m':Nat,x.2=(m':Int)->(sizC x.1<=m'->r=sizC x.1)/\(m'<sizC x.1->m'<r)) (fun S x hx hS=> ?_) (x:=(c,(m:Int))) ⟨h,m,rfl,hm⟩
  obtain⟨c,n⟩:=x;obtain⟨hc,m,hn,hm⟩:=hx;have hn:n=(m:Int):=hn;have hc:zC (zq c)<=big:=hc;subst hn;have hlen:=Yi c;have hsz:=YC c;have he:=Vh c;unfold Wp;have hw: ∀a:Nat,a<=big->w64 ((a:Int)+0)=(a:Int):=fun a ha=>by rw[w64,Zo (by omega) (by unfold big at ha;omega)];omega
  refine ax (A:=Nat) c.list.length (fun i a=>((a:Int),(i:Int))) (fun i a=>a<=1+((c.list.take i).map sizC).sum/\(1+((c.list.take i).map sizC).sum<=m->a=1+((c.list.take i).map sizC).sum)/\(m<1+((c.list.take i).map sizC).sum->m<a)) _ (a0:=1) rfl (by simp) (fun i a hi hI=> ?_) (fun a hI=> .inl ?_)
  ·obtain⟨i1,i2,i3⟩:=hI;have ht:=Au sizC c.list i;have ht1:=Au sizC c.list (i+1);rw[Nj sizC hi]at ht1;have hmm:=Qc (Fb hi);by_cases ham:a<=m
   ·have ha:a=1+((c.list.take i).map sizC).sum:=i2 (by omega);have e1:decide ((a:Int)<=(m:Int))=true:=Ta (by omega);have hw2:w64 ((m:Int) - (a:Int))=((m - a:Nat):Int):=by rw[w64,Zo (by omega) (by unfold big at hm;omega)];omega
    obtain⟨y,hy1,r,hy2,hy3,hy4⟩:=hS (c.list[i],((m - a:Nat):Int)) ⟨by show zC (zq c.list[i])<=big;omega,m - a,rfl,by omega⟩ hmm;have hy3:r<=sizC c.list[i]:=hy3;obtain⟨hy5,hy6⟩:=hy4 (m - a) rfl;have hy5:sizC c.list[i]<=m - a->r=sizC c.list[i]:=hy5;have hy6:m - a<sizC c.list[i]->m - a<r:=hy6;have hw3:w64 ((a:Int)+(r:Int))=((a+r:Nat):Int):=zB1 (by omega);refine .inl ⟨a+r,?_,?_,?_,?_⟩
    ·simp only[Zw hi,e1,Ea,ZF hi,zb,Aa,qO,hw2,hy1,hy2,hw3,Zh hi (show c.list.length<=big by omega)]
    ·rw[Nj sizC hi];omega
    ·rw[Nj sizC hi];omega
    ·rw[Nj sizC hi];omega
   ·have e1:decide ((a:Int)<=(m:Int))=false:=Eb (by omega);refine .inr (.inr ⟨(a:Int),?_,(a:Int),rfl,a,rfl,?_,fun m' hm'=>⟨fun h=> ?_,fun h=> ?_⟩⟩)
    ·simp only[Zw hi,e1,Ea,Da]
    ·show a<=sizC c;omega
    ·have hm':(m:Int)=(m':Int):=hm';have h:sizC c<=m':=h;show a=sizC c;omega
    ·have hm':(m:Int)=(m':Int):=hm';show m'<a;omega
  ·rw[jc]at hI;obtain⟨i1,i2,i3⟩:=hI;refine⟨(a:Int),?_,(a:Int),rfl,a,rfl,?_,fun m' hm'=>⟨fun h=> ?_,fun h=> ?_⟩⟩
   ·simp only[af,Da]
   ·show a<=sizC c;omega
   ·have hm':(m:Int)=(m':Int):=hm';have h:sizC c<=m':=h;show a=sizC c;omega
   ·have hm':(m:Int)=(m':Int):=hm';have h:m'<sizC c:=h;show m'<a;omega
 obtain⟨y,h1,r,rfl,h2,h3⟩:=key;exact⟨r,h1,h2,h3 m rfl⟩
def Gh(c:zh):Bool:=c.kind==7||c.kind==8
mutual
def Cf:zh->Nat
 |⟨k,_,_,d,l⟩=>bif k==7 then 1+Xe d.value else bif k==8 then 1 else Dr l
def Dr:List zh->Nat
 |[]=>0
 |c::r=>max ((bif Gh c then 0 else 1)+Cf c) (Dr r)
end
def Yg(c:zh):Nat:=(bif Gh c then 0 else 1)+Cf c
theorem fU(l:List zh):Dr l=mx Yg l:=by
 induction l with
 |nil=>rw[Dr];rfl
 |cons c l ih=>rw[Dr,ih];rfl
theorem Ls(c:zh):Cf c=bif c.kind==7 then 1+Xe c.decl.value else bif c.kind==8 then 1 else mx Yg c.list:=by obtain⟨k,n,m,d,l⟩:=c;rw[Cf,fU]
theorem CJ: ∀c:zh,Cf c<=zC (zq c):=by
 have key: ∀(n:Nat) (c:zh),zC (zq c)<n->Cf c<=zC (zq c):=by
  intro n
  induction n with
  |zero=>intro c h;omega
  |succ n ih=>
   intro c h;have hz:=Wi c;have hd:=Bl c.decl;rw[Ls];cases c.kind==7 with
   |true=> have h1:=Al c.decl.value;have h2:=Ow c.decl.value;simp only[Ea];omega
   |false=>
    cases c.kind==8 with
    |true=>simp only[Ea,Da];omega
    |false=>
     simp only[Da];have: ∀l:List zh,(∀y∈l,y∈c.list)->mx Yg l<=1+zL zq l:=by
      intro l
      induction l with
      |nil=>intro _;exact Gc _
      |cons y l ihl=>
       intro hl;have h1:=ihl fun z hz=>hl z (Jb _ hz);have h2:=Qc (hl y Ob);have h3:=ih y (by omega);have h4:Yg y<=1+Cf y:=by unfold Yg;cases Gh y<;>simp only[Ea,Da]<;>omega
       rw[mx,Rh];omega
     have:=this c.list fun _ h=>h;omega
 exact fun c=>key _ c (Nat.lt_succ_self _)
theorem MZ{c:zh}(h:zC (zq c)<=big):Di c=some (Cf c:Int):=by
 refine Dh (fun c=>zC (zq c)) (fun c=>zC (zq c)<=big) (fun c=>(Cf c:Int)) (fun S c hc hS=> ?_) h;have hz:=Wi c;have hd:=Bl c.decl;have hlen:=Yi c;have hv:=Ow c.decl.value;unfold Cz;rw[Ls];cases h7:c.kind==7 with
 |true=> have h1:=Al c.decl.value;simp only[Ea,GD (show szL c.decl.value<=big by omega),zb,Aa,zAt (show Xe c.decl.value<=big by omega)];rw[bf]
 |false=>
  cases h8:c.kind==8 with
  |true=>rfl
  |false=>
   simp only[Da];refine(uT c.list Yg (fun a i=>((a:Int),(i:Int))) (fun a=>(a:Int)) (a0:=0) rfl (fun i a hi=> ?_) (fun a=> ?_)).trans ?_
   ·have hm:=Qc (Fb hi);have hs:=hS c.list[i] (by omega) hm;have hst:=CJ c.list[i];simp only[Zw hi,Ea,ZF hi,zb,Aa,qO,hs,Zh hi (show c.list.length<=big by omega)];have hlf:(bif c.list[i].kind==7 then true else c.list[i].kind==8)=Gh c.list[i]:=by unfold Gh;cases c.list[i].kind==7<;>rfl
    rw[hlf];have hst':Yg c.list[i]=(bif Gh c.list[i]then 0 else 1)+Cf c.list[i]:=rfl;cases hlc:Gh c.list[i]with
    |true=>
     rw[hlc,Ea,Cc]at hst';have hw:w64 (0+(Cf c.list[i]:Int))=(Yg c.list[i]:Int):=by rw[w64,Zo (by omega) (by unfold big at hc;omega)];omega
     simp only[Ea,zS,hw,Hw]
    |false=>
     rw[hlc,Da]at hst';have hw:w64 (1+(Cf c.list[i]:Int))=(Yg c.list[i]:Int):=by rw[w64,Zo (by omega) (by unfold big at hc;omega)];omega
     simp only[Da,zS,hw,Hw]
   ·simp only[af,Da]
   ·rw[Nat.zero_max]
mutual
def supC:zh->Bool
 |⟨k,n,m,d,l⟩=>bif k==7 then l.isEmpty&&(n==[]&&(m==0&&mf d))else bif k==8 then l.isEmpty&&Hf ⟨k,n,m,d,l⟩else
  (k==3||(k==1||k==2))&&(Hf ⟨k,n,m,d,l⟩&&((bif k==3 then l.length==1 else decide (2<=l.length))&&fq l))
def fq:List zh->Bool
 |[]=>true
 |c::r=>supC c&&fq r
end
theorem YU(l:List zh):fq l=l.all supC:=by
 induction l with
 |nil=>rw[fq];rfl
 |cons c l ih=>rw[fq,ih];rfl
theorem Tn(c:zh):supC c=bif c.kind==7 then c.list.isEmpty&&(c.name==[]&&(c.num==0&&mf c.decl))else bif c.kind==8 then c.list.isEmpty&&Hf c else
  (c.kind==3||(c.kind==1||c.kind==2))&&(Hf c&&((bif c.kind==3 then c.list.length==1 else decide (2<=c.list.length))&&c.list.all supC)):=by
 obtain⟨k,n,m,d,l⟩:=c;rw[supC,YU]
theorem wR{α:Type}(l:List α):decide ((l.length:Int)<2)= !decide (2<=l.length):=by
 by_cases h:2<=l.length
 ·rw[Ta h,Eb (by omega)];rfl
 ·rw[Eb h,Ta (by omega)];rfl
theorem nJ{α:Type}(l:List α):((l.length:Int)==1)=(l.length==1):=by rw[Bool.eq_iff_iff,Sb,Sb];omega
theorem V7{c:zh}(h:zC (zq c)<=big):ZC c=some (supC c):=by
 refine Dh (fun c=>zC (zq c)) (fun c=>zC (zq c)<=big) (fun c=>supC c) (fun S c hc hS=> ?_) h;have hlen:=Yi c;have hd:=ky c;unfold NA;rw[Tn];simp only[qO,WP,Y5 (show zC (Qq c.decl)<=big by omega),ji,Zb,zb,Aa];cases h7:c.kind==7 with
 |true=>
  simp only[Ea];cases c.name==[]<;>cases c.num==0<;>cases c.list.isEmpty<;>cases mf c.decl<;>rfl
 |false=>
  cases h8:c.kind==8 with
  |true=>
   simp only[Ea,Da];cases Hf c<;>cases c.list.isEmpty<;>rfl
  |false=>
   simp only[Da];cases h3:c.kind==3 with
   |true=>
    simp only[Ea,Yd,aa,nJ];cases Hf c with
    |false=>rfl
    |true=>
     cases hl:c.list with
     |nil=>rfl
     |cons y r=>
      cases r with
      |nil=> have hm:=Qc (c:=c) (y:=y) (by rw[hl];exact Ob);have e2:geti [y] 0=some y:=rfl;have e3:(([y]:List zh).length==1)=true:=rfl;simp only[e2,e3,Ea,zU,Aa,hS y (show zC (zq y)<=big by omega) hm,aa,List.all_cons,List.all_nil,Vb]
      |cons z r=>
       have e3:((y::z::r).length==1)=false:=by simp
       simp only[e3,Ea,Zi,Aa,Da,Jc,Tc]
   |false=>
    have hj: ∀{R:Type} (k:Bool->Option R),zF (X:=Bool) (bif c.kind==1 then some (LX.out (c.kind==1))else some (LX.out (c.kind==2))) k=k (c.kind==1||c.kind==2):=by intro R k;cases c.kind==1<;>rfl
    simp only[Da,Ld];rw[hj];cases (c.kind==1||c.kind==2)with
    |false=>rfl
    |true=>
     simp only[Ea,wR,aa];have hl:zY (fun(s8:Int)=>
        bif decide (s8<(c.list.length:Int))then
         (geti c.list s8).bind fun y9=>
         (S y9).bind fun y10=>
         bif !y10 then
          some (LO.ret false)
         else
          some (LO.again (w64 (s8+1)))
        else
         some (LO.out ()):Int->Option (LO (Int) (Unit) _)) 0 (fun _=>some true)=some (c.list.all supC):=by
      refine(Sl c.list (fun v=>bif supC v then none else some false) () (fun i hi=> ?_) ?_).trans ?_
      ·have hm:=Qc (Fb hi);simp only[Zw hi,Ea,ZF hi,Aa,hS _ (show zC (zq c.list[i])<=big by omega) hm,Zh hi (show c.list.length<=big by omega)];cases supC c.list[i]<;>rfl
      ·simp only[af,Da]
      ·rw[Oo];cases c.list.all supC<;>rfl
     rw[hl];cases Hf c<;>cases decide (2<=c.list.length)<;>rfl
theorem PY(c:zh):Xi c=some (Gh c):=by unfold Xi Gh;cases c.kind==7<;>rfl
theorem Es(c:zh):1<=sizC c:=by rw[Vh];omega
theorem VZ{c:zh}{m:Nat}(h:zC (zq c)<=big)(hm:m<=1500):
  ∃y:(Int×Bool)×Int,Z9 (c,(m:Int))=some y/\y.1.2=(supC c&&decide (m+sizC c<=1500))/\(y.1.2=true->y.1.1=(Cf c:Int)/\y.2=((m+sizC c:Nat):Int)):=by
 have key: ∃y:(Int×Bool)×Int,Z9 (c,(m:Int))=some y/\ ∀m':Nat,(m:Int)=(m':Int)->y.1.2=(supC c&&decide (m'+sizC c<=1500))/\(y.1.2=true->y.1.1=(Cf c:Int)/\y.2=((m'+sizC c:Nat):Int)):=by
  refine Ux xZ (fun x:zh×Int=>zC (zq x.1)) (fun x=>zC (zq x.1)<=big/\ ∃m:Nat,x.2=(m:Int)/\m<=1500)
   (fun x (y:(Int×Bool)×Int)=> ∀m':Nat,x.2=(m':Int)->y.1.2=(supC x.1&&decide (m'+sizC x.1<=1500))/\(y.1.2=true->y.1.1=(Cf x.1:Int)/\y.2=((m'+sizC x.1:Nat):Int))) (fun S x hx hS=> ?_) (x:=(c,(m:Int))) ⟨h,m,rfl,hm⟩
  obtain⟨c,n⟩:=x;obtain⟨hc,m,hn,hm⟩:=hx;have hn:n=(m:Int):=hn;have hc:zC (zq c)<=big:=hc;subst hn;have hlen:=Yi c;have hd:=ky c;have hsz:=YC c;have he:=Vh c;have hv:=Ow c.decl.value;have hzd:=Bl c.decl;have fin: ∀(d:Int) (b:Bool) (n:Int),b=(supC c&&decide (m+sizC c<=1500))->(b=true->d=(Cf c:Int)/\n=((m+sizC c:Nat):Int))->
    ∀m':Nat,(m:Int)=(m':Int)->b=(supC c&&decide (m'+sizC c<=1500))/\(b=true->d=(Cf c:Int)/\n=((m'+sizC c:Nat):Int)):=by
   intro d b n h1 h2 m' hm';obtain rfl:m=m':=by omega
   exact⟨h1,h2⟩
  have hw:w64 ((m:Int)+1)=((m+1:Nat):Int):=fB (by unfold big;omega);unfold Yj;simp only[hw,qO];by_cases hm1:m+1>1500
  ·have e1:decide (((m+1:Nat):Int)>1500)=true:=Ta (by omega);simp only[e1,Ea];have e2:decide (m+sizC c<=1500)=false:=Eb (by omega);exact⟨_,rfl,fin _ _ _ (by rw[e2,Tc]) (fun h=>by cases h)⟩
  have e1:decide (((m+1:Nat):Int)>1500)=false:=Eb (by omega);simp only[e1,Da];have hs:=Tn c;have hdp:=Ls c;cases h7:c.kind==7 with
  |true=>
   rw[h7]at hs hdp;simp only[Ea]at hs hdp ⊢;rw[KW (show szL c.decl.value<=big by omega),L6 (show zC (Qq c.decl)<=big by omega)];simp only[zb,Aa,ji,Zb];refine⟨_,rfl,fin _ _ _ ?_ ?_⟩
   ·rw[hs];have hde:mf c.decl=(mf c.decl&&(errS c.decl.value==0)):=by unfold mf;cases vg c.decl.name<;>cases errS c.decl.value==0<;>simp
    cases hle:c.list.isEmpty with
    |false=>rfl
    |true=>
     have hl:c.list=[]:=Xd.1 hle;rw[hl]at he;have e2:decide (m+sizC c<=1500)=true:=Ta (by rw[he];simp;omega);rw[e2];by_cases her:errS c.decl.value=0
     ·rw[Na her];cases c.name==[]<;>cases c.num==0<;>cases mf c.decl<;>rfl
     ·rw[Ra her];have her':=Ja.2 her;rw[her',Tc]at hde;rw[hde];simp only[her'];cases c.name==[]<;>cases c.num==0<;>rfl
   ·intro hf;have her:errS c.decl.value=0:=by
     by_cases her:errS c.decl.value=0
     ·exact her
     ·rw[Ra her]at hf;have her':=Ja.2 her;simp only[her']at hf;revert hf;cases c.list.isEmpty<;>cases c.name==[]<;>cases c.num==0<;>intro h<;>cases h
    have hl:c.list=[]:=by
     cases hle:c.list.isEmpty with
     |true=>exact Xd.1 hle
     |false=>rw[hle]at hf;cases hf
    have h1:=Al c.decl.value;rw[Na her,hdp];rw[hl]at he;simp only[fB (show Xe c.decl.value<=big by omega)];refine⟨by rw[bf],?_⟩;rw[he];rfl
  |false=>
   rw[h7]at hs hdp;simp only[Da]at hs hdp ⊢;cases h8:c.kind==8 with
   |true=>
    rw[h8]at hs hdp;simp only[Ea]at hs hdp ⊢;simp only[zb,Aa,ji,Zb,jl];refine⟨_,rfl,fin _ _ _ ?_ ?_⟩
    ·rw[hs];cases hle:c.list.isEmpty with
     |false=>rfl
     |true=> have hl:c.list=[]:=Xd.1 hle;rw[hl]at he;have e2:decide (m+sizC c<=1500)=true:=Ta (by rw[he];simp;omega);rw[e2];cases Hf c<;>rfl
    ·intro hf;have hl:c.list=[]:=by
      cases hle:c.list.isEmpty with
      |true=>exact Xd.1 hle
      |false=>rw[hle]at hf;cases hf
     rw[hl]at he;rw[hdp,he];exact⟨rfl,rfl⟩
   |false=>
    rw[h8]at hs hdp;simp only[Da]at hs hdp ⊢;have hj: ∀{R:Type} (k:Bool->Option R),zF (X:=Bool) (bif c.kind==3 then some (LX.out (c.kind==3))else bif c.kind==1 then some (LX.out (c.kind==1))else some (LX.out (c.kind==2))) k=k (c.kind==3||(c.kind==1||c.kind==2)):=by intro R k;cases c.kind==3<;>cases c.kind==1<;>rfl
    rw[hj];cases hk:(c.kind==3||(c.kind==1||c.kind==2))with
    |false=>
     rw[hk]at hs;exact⟨_,rfl,fin _ _ _ (by rw[hs];rfl) (fun h=>by cases h)⟩
    |true=>
     rw[hk]at hs;simp only[Ea,aa]at hs ⊢;have hg:(bif bif !Hf c then true else bif c.kind==3 then(c.list.length:Int) != 1 else false then true else bif c.kind != 3 then decide ((c.list.length:Int)<2)else false)= !(Hf c&&(bif c.kind==3 then c.list.length==1 else decide (2<=c.list.length))):=by rw[wR,bne,bne,nJ];cases Hf c<;>cases c.kind==3<;>cases c.list.length==1<;>rfl
     simp only[jl,zb,Aa,hg];cases hb:(Hf c&&(bif c.kind==3 then c.list.length==1 else decide (2<=c.list.length)))with
     |false=>
      rw[<-Te,hb]at hs;exact⟨_,rfl,fin _ _ _ (by rw[hs];rfl) (fun h=>by cases h)⟩
     |true=>
      rw[<-Te,hb,aa]at hs;simp only[ja,Da];refine ax (A:=Nat×Nat) c.list.length (fun i a=>(((a.1:Int),(i:Int)),(a.2:Int))) (fun i a=>a.2=m+1+((c.list.take i).map sizC).sum/\a.2<=1500/\a.1=mx Yg (c.list.take i)/\(c.list.take i).all supC=true) _ (a0:=(0,m+1)) rfl ⟨by simp,by show m+1<=1500;omega,by simp[mx],by simp⟩ (fun i a hi hI=> ?_) (fun a hI=> .inl ?_)
      ·obtain⟨i1,i2,i3,i4⟩:=hI;have ht:=Au sizC c.list (i+1);rw[Nj sizC hi]at ht;have hmm:=Qc (Fb hi);obtain⟨y,hy1,hy2⟩:=hS (c.list[i],(a.2:Int)) ⟨by show zC (zq c.list[i])<=big;omega,a.2,rfl,i2⟩ hmm;obtain⟨hy3,hy4⟩:=hy2 a.2 rfl;have hy3:y.1.2=(supC c.list[i]&&decide (a.2+sizC c.list[i]<=1500)):=hy3;simp only[Zw hi,Ea,ZF hi,Aa,qO,hy1];cases hf:y.1.2 with
       |false=>
        refine .inr (.inl ⟨_,rfl,fin _ _ _ ?_ (fun h=>by cases h)⟩);rw[hf]at hy3;cases hsi:supC c.list[i]with
        |false=>rw[hs,zAS hi hsi];rfl
        |true=> rw[hsi,aa]at hy3;have:=of_decide_eq_false hy3.symm;have e2:decide (m+sizC c<=1500)=false:=Eb (by omega);rw[e2,Tc]
       |true=>
        obtain⟨hy5,hy6⟩:=hy4 hf;rw[hf]at hy3;have hy3:=hy3.symm;rw[Ca]at hy3;have hle:=Db hy3.2;have hdl:=CJ c.list[i];have hy5:y.1.1=(Cf c.list[i]:Int):=hy5;have hy6:y.2=((a.2+sizC c.list[i]:Nat):Int):=hy6;refine .inl ⟨(max a.1 (Yg c.list[i]),a.2+sizC c.list[i]),?_,?_,hle,?_,?_⟩
        ·have hst:Yg c.list[i]=(bif Gh c.list[i]then 0 else 1)+Cf c.list[i]:=rfl;have hw2:=fB (n:=Cf c.list[i]) (by omega);simp only[ja,Da,PY,Aa,hy5,hy6,hw2,Zh hi (show c.list.length<=big by omega)];cases hlf:Gh c.list[i]with
         |true=> rw[hlf]at hst;rw[Ea,Cc]at hst;simp only[ja,Da,zS,hst,Hw]
         |false=> rw[hlf]at hst;rw[Da,bf]at hst;simp only[Ua,Ea,zS,hst,Hw]
        ·rw[Nj sizC hi,i1];show _+_+_+_=_;omega
        ·rw[RI Yg hi,i3]
        ·rw[RJ supC hi,i4,hy3.1];rfl
      ·rw[jc]at hI;obtain⟨i1,i2,i3,i4⟩:=hI;refine⟨((a.1:Int),(a.2:Int)),?_,_,rfl,fin _ _ _ ?_ (fun _=>⟨?_,?_⟩)⟩
       ·simp only[af,Da]
       ·have e2:decide (m+sizC c<=1500)=true:=Ta (by omega);rw[hs,i4,e2];rfl
       ·rw[hdp,i3]
       ·show(a.2:Int)=_;rw[i1,he];congr 1;omega
 obtain⟨y,h1,h2⟩:=key;exact⟨y,h1,h2 m rfl⟩
def ZH(c:zh):Bool:=supC c&&(decide (sizC c<=1500)&&decide (Cf c<=16))
theorem X9{c:zh}(h:zC (zq c)<=big):Ze c=some (bif ZH c then 0 else 8):=by
 obtain⟨y,h1,h2,h3⟩:=VZ (m:=0) h (by omega);unfold Ze ZH;replace h1:Z9 (c,0)=some y:=h1;simp only[qO,h1,zb,Aa];rw[Cc]at h2;cases hf:y.1.2 with
 |false=> rw[hf]at h2;rw[<-Te,<-h2];rfl
 |true=> have e:decide ((Cf c:Int)>16)= !decide (Cf c<=16):=Aw _ 16;rw[(h3 hf).1,e];rw[hf]at h2;rw[<-Te,<-h2];cases decide (Cf c<=16)<;>rfl
theorem H8{c:zh}(h:zC (zq c)<=big):Pv c=some (ZH c):=by
 obtain⟨r,h1,h2,h3,h4⟩:=sO (m:=1500) h (by unfold big;omega);replace h1:qj (c,1500)=some (r:Int):=h1;have e:decide ((Cf c:Int)<=16)=decide (Cf c<=16):=cB _ 16;have e2:decide ((r:Int)<=1500)=decide (sizC c<=1500):=by
  by_cases hs:sizC c<=1500
  ·rw[Ta hs,h3 hs,Ta (by omega)]
  ·have:=h4 (by omega);rw[Eb hs,Eb (by omega)]
 unfold Pv ZH;simp only[qO,h1,zb,Aa,MZ h,V7 h,Zb,e2];cases decide (sizC c<=1500)with
 |false=>simp
 |true=>simp only[Ea,e];cases decide (Cf c<=16)<;>cases supC c<;>rfl
mutual
/-- The declarations of a condition, in order. -/
def Zc:zh->List zB
 |⟨k,_,_,d,l⟩=>bif k==7 then [d]else Er l
def Er:List zh->List zB
 |[]=>[]
 |c::r=>Zc c++Er r
end
theorem uL: ∀l:List zh,Er l=l.flatMap Zc
 |[]=>by rw[Er];rfl
 |c::r=>by rw[Er,uL r,Af]
theorem Og(c:zh):Zc c=bif c.kind==7 then [c.decl]else c.list.flatMap Zc:=by obtain⟨⟩:=c;rw[Zc,uL]
def allW:Str:=[97,108,108]
def ow:Str:=[115,99,114,101,101,110]
mutual
/-- Whether a condition holds: a width in thousandths, a truth value for each declaration. -/
def holC(w:Int):zh->List Bool->Bool
 |⟨k,n,m,_,l⟩,ys=>
  bif k==4 then n==allW||n==ow else bif k==5 then decide (w>=m)else bif k==6 then decide (w<=m)else bif k==7 then ys.headD false else bif k==8 then false else
  bif k==1 then Ff w l ys else bif k==2 then Qg w l ys else !Qg w l ys
def Ff(w:Int):List zh->List Bool->Bool
 |[],_=>true
 |c::r,ys=>holC w c (ys.take (Zc c).length)&&Ff w r (ys.drop (Zc c).length)
def Qg(w:Int):List zh->List Bool->Bool
 |[],_=>false
 |c::r,ys=>holC w c (ys.take (Zc c).length)||Qg w r (ys.drop (Zc c).length)
end
theorem Mx(w:Int)(c:zh)(ys:List Bool):holC w c ys=
  bif c.kind==4 then c.name==allW||c.name==ow else bif c.kind==5 then decide (w>=c.num)else bif c.kind==6 then decide (w<=c.num)else bif c.kind==7 then ys.headD false else bif c.kind==8 then false else
  bif c.kind==1 then Ff w c.list ys else bif c.kind==2 then Qg w c.list ys else !Qg w c.list ys:=by
 obtain⟨⟩:=c;rw[holC]
def Nw(c:zh)(w:Int)(ys:List Bool):Bool×Int:=
 bif !(yf c||ZH c)then(false,8)else
 bif decide (w<0)||(decide (w>1000000000)|| !(ys.length==(Zc c).length))then(false,2)else(holC (1000*w) c ys,0)
def cNot(a:zh):zh:=⟨3,[],0,⟨[],[],false⟩,[a]⟩
def cAnd(a b:zh):zh:=⟨1,[],0,⟨[],[],false⟩,[a,b]⟩
def cOr(a b:zh):zh:=⟨2,[],0,⟨[],[],false⟩,[a,b]⟩
theorem CS(a:zh):Zc (cNot a)=Zc a:=by rw[Og];show List.flatMap Zc [a]=_;simp
theorem KS(a b:zh):Zc (cAnd a b)=Zc a++Zc b:=by rw[Og];show List.flatMap Zc [a,b]=_;simp
theorem zBd(a b:zh):Zc (cOr a b)=Zc a++Zc b:=by rw[Og];show List.flatMap Zc [a,b]=_;simp
theorem zBp{w:Int}{a:zh}{x:List Bool}(hx:x.length=(Zc a).length):holC w (cNot a) x= !holC w a x:=by rw[Mx];show(!Qg w [a] x)=_;rw[Qg,Qg,<-hx,jc,Ud]
theorem zBo{w:Int}{a b:zh}{x y:List Bool}(hx:x.length=(Zc a).length)(hy:y.length=(Zc b).length):holC w (cAnd a b) (x++y)=(holC w a x&&holC w b y):=by rw[Mx];show Ff w [a,b] (x++y)=_;rw[Ff,Ff,Ff,<-hx,<-hy,List.take_left,List.drop_left,jc,Vb]
theorem zCm{w:Int}{a b:zh}{x y:List Bool}(hx:x.length=(Zc a).length)(hy:y.length=(Zc b).length):holC w (cOr a b) (x++y)=(holC w a x||holC w b y):=by rw[Mx];show Qg w [a,b] (x++y)=_;rw[Qg,Qg,Qg,<-hx,<-hy,List.take_left,List.drop_left,jc,Ud]
theorem zCN(a b:zh):ZH (cOr a b)=ZH (cAnd a b):=by
 have h1:supC (cOr a b)=supC (cAnd a b):=by rw[Tn,Tn];rfl
 have h2:sizC (cOr a b)=sizC (cAnd a b):=by rw[Vh,Vh];rfl
 have h3:Cf (cOr a b)=Cf (cAnd a b):=by rw[Ls,Ls];rfl
 unfold ZH;rw[h1,h2,h3]
theorem Sr{y:zh}: ∀{l:List zh},y∈l->sizC y<=(l.map sizC).sum
 |[],h=>by cases h
 |c::r,h=>by
  rw[Ub,Me];rcases Ya.1 h with rfl|h
  ·omega
  ·have:=Sr h;omega
theorem jT: ∀{c:zh},supC c=true-> ∀d∈Zc c,mf d=true:=by
 have key: ∀(n:Nat) (c:zh),sizC c<=n->supC c=true-> ∀d∈Zc c,mf d=true:=by
  intro n
  induction n with
  |zero=>intro c hc;have:=Es c;omega
  |succ n ih=>
   intro c hc hs d hd;rw[Og]at hd;rw[Tn]at hs;cases h7:c.kind==7 with
   |true=> rw[h7,Ea]at hs hd;simp only[Ca]at hs;rw[Yb.1 hd];exact hs.2.2.2
   |false=>
    rw[h7,Da]at hs hd;obtain⟨y,hy,hd⟩:=Wd.1 hd;have hlt:sizC y<=n:=by have h1:=Vh c;have h2:=Sr hy;omega
    refine ih y hlt ?_ d hd;cases h8:c.kind==8 with
    |true=>
     rw[h8,Ea]at hs;simp only[Ca,Xd]at hs;rw[hs.1]at hy;cases hy
    |false=>
     rw[h8,Da]at hs;cases h3:c.kind==3<;>rw[h3]at hs<;>simp at hs
     all_goals first|exact hs.2.2 y hy|exact hs.2.2.2 y hy|exact hs.2 y hy|skip
 intro c hs;exact key _ c (La _) hs
theorem YL{l:List zh}(h:SC l=true){y:zh}(hy:y∈l): ∃f,Fh f y=true:=by
 obtain⟨i,hi,rfl⟩:=Uf hy;have:=Bb.1 h i (jb.2 hi);refine⟨i==0,?_⟩
 rwa [Cg,Ka hi]at this
theorem TV{f:Bool}{y:zh}(h:Fh f y=true):Zc y=[]:=by
 unfold Fh at h;simp only[Ca,Xd]at h;rw[Og,h.1];have h7:(y.kind==7)=false:=by rw[Ja];intro e;simp[e]at h
 rw[h7];rfl
theorem AL{c:zh}(h:Li c=true):Zc c=[]:=by unfold Li at h;simp only[Ca,Sb]at h;rw[Og,h.1,List.flatMap_eq_nil_iff.2 fun y hy=>let⟨_,e⟩:=YL h.2.2.2 hy;TV e];rfl
theorem WW{c:zh}(h:Lh c=true):Zc c=[]:=by
 unfold Lh at h;cases h3:c.kind==3 with
 |false=>rw[h3]at h;exact AL h
 |true=>
  rw[h3,Ea,Ca]at h;have:=h.2;revert this;rw[Og,eq_of_beq h3];cases hl:c.list with
  |nil=>intro _;rfl
  |cons y r=>
   cases r with
   |nil=> intro hq;simp only[Ca]at hq;simp[AL hq.1]
   |cons z r=>intro hq;cases hq
theorem VV{c:zh}(h:yf c=true):Zc c=[]:=by
 unfold yf at h;simp only[Ca,Yc,Sb,Xd,Bb]at h;rw[Og];rcases h.2 with⟨hk,hl⟩|⟨hk,_,_,hl⟩
 ·rw[hk,hl];rfl
 ·rw[hk,List.flatMap_eq_nil_iff.2 fun y hy=>WW (hl y hy)];rfl
theorem PW{R:Type}(x:Option R):both x x=x:=by unfold both;rw[Na rfl]
theorem VS{l:List ze}(h:szL l<=big):qQ l=some l:=by
 unfold qQ;have b:=Jg l;unfold big at h;have a:zQ 0 l.length 80=true:=Yh (by omega);cases l with
 |nil=>simp only[a,PW,Qs,List.isEmpty_nil,Ea]
 |cons v r=>simp_all
theorem zBY{l:List ze}(h:szL l<=big):qb l=some l:=by
 refine Dh (fun l=>szL l) (fun l=>szL l<=big) (fun l=>l) (fun S l hl hS=> ?_) h;unfold Ep;have hlen:=Jg l;simp only[zb,VS hl,Aa];refine(nk l (fun i (a:List ze)=>((i:Int),a)) (fun v a=>some (.again a)) (fun a=>some (.out a)) (fun i a=>a=l) (a:=l) rfl rfl (fun i a hi hI=> ?_) (fun a hI=> ?_) (r:= .out l) ?_)
 ·subst hI;have hsz:=Uh (Fb hi);have hv2:=xg a[i];refine⟨?_,fun a' ha=>by cases ha;rfl⟩;have h1:S a[i].list=some a[i].list:=hS a[i].list (by omega) (by omega);have h2:decide ((0:Int)<=(i:Int))=true:=Ta (by omega);have h3:a[i]? =some a[i]:=Ka hi;have h4:a.set i ⟨a[i].token,a[i].list⟩=a:=by
   have:(⟨a[i].token,a[i].list⟩:ze)=a[i]:=by cases a[i];rfl
   rw[this,List.set_getElem_self]
  simp only[Zw hi,h2,Bool.and_self,Ea,Qs,Ec,h3,Aa,h1,h4,Zh hi (by omega),Ie]
 ·grind
 ·rw[Nl (fun a v=>a) (fun v a=>rfl)];congr 2;clear hl hS hlen h;generalize l=b at*;have: ∀(m b:List ze),m.foldl (fun a _=>a) b=b:=by
   intro m
   induction m with
   |nil=>intro b;rfl
   |cons v m ih=>grind
  exact this _ _
theorem XA{l:List ze}{i:Nat}(h:i<l.length):Vj ((i:Int),l)=some (isSp l[i]):=by unfold Vj;simp only[zb,ZF h,Aa];rfl
theorem IU{l:List ze}(h:szL l<=big):lg l=some (if errS l=0 then(trimS l,0)else([],errS l)):=by
 unfold lg;have hlen:=Jg l;simp only[zb,wD h,Aa];by_cases h1:errS l=0
 ·rw[Na h1];have hne:(errS l != 0)=false:=by simp[h1]
  simp only[hne,Da];have hdl:=List.Sublist.length_le (He isSp (l:=l));have hdd:=Gx isSp l;refine(kg (r:= .out ((l.length - (l.dropWhile isSp).length:Nat):Int)) (Rs (fun s=> ∃k:Nat,s=(k:Int)/\k<=l.length/\(l.drop k).dropWhile isSp=l.dropWhile isSp) (fun s=>l.length - s.toNat) _ (fun s hs=> ?_) ⟨0,rfl,Gc _,rfl⟩)).trans ?_
  ·obtain⟨k,rfl,hk,he⟩:=hs;by_cases hlt:k<l.length
   ·rw[Xa hlt,Ad]at he;have hw:=Zh hlt (by grind);cases hv:isSp l[k]with
    |true=> rw[Na hv]at he;refine .inl ⟨((k+1:Nat):Int),?_,⟨k+1,rfl,hlt,he⟩,by omega⟩;simp only[Zw hlt,zU,XA hlt,Aa,hv,Ea,hw]
    |false=>
     rw[Ra (by rw[hv];simp)]at he;refine .inr (.inl ⟨(k:Int),?_,?_⟩)
     ·simp only[Zw hlt,zU,XA hlt,Aa,hv,Ea,Da]
     grind
   ·have hkk:k=l.length:=by omega
    simp_all
  ·rw[zsZ];generalize hf:l.length - (l.dropWhile isSp).length=f at hdd;have hfl:f<=l.length:=by omega
   generalize l.dropWhile isSp=d at hdd;subst hdd;refine(kg (r:= .out ((f+(trimB (l.drop f)).length:Nat):Int)) (Rs (fun s=> ∃m:Nat,s=(m:Int)/\f<=m/\m<=l.length/\trimB ((l.take m).drop f)=trimB (l.drop f)) (fun s=>s.toNat) _ (fun s hs=> ?_) ⟨l.length,rfl,hfl,La _,by grind⟩)).trans ?_
   ·obtain⟨m,rfl,hm1,hm2,he⟩:=hs;by_cases hlt:f<m
    ·have hm:m - 1<l.length:=by omega
     have hsn:(l.take m).drop f=(l.take (m - 1)).drop f++[l[m - 1]]:=by
      have:l.take m=l.take (m - 1)++[l[m - 1]]:=by
       have:=Mc hm
       rwa [show m - 1+1=m by omega]at this
      rw[this,List.drop_append_of_le_length (by rw[Od];omega)]
     rw[hsn,Vt]at he;have h2:decide ((f:Int)<(m:Int))=true:=Ta (by omega);have hw:w64 ((m:Int) - 1)=((m - 1:Nat):Int):=by rw[w64,Zo (by omega) (by unfold big at h;omega)];omega
     cases hv:isSp l[m - 1]with
     |true=> rw[Na hv]at he;refine .inl ⟨((m - 1:Nat):Int),?_,⟨m - 1,rfl,by omega,by omega,he⟩,by omega⟩;simp only[h2,zU,hw,XA hm,Aa,hv,Ea]
     |false=>
      rw[Ra (by rw[hv];simp)]at he;refine .inr (.inl ⟨(m:Int),?_,?_⟩)
      ·simp only[h2,zU,hw,XA hm,Aa,hv,Ea,Da]
      ·rw[<-he];congr 1;simp;omega
    ·have hmm:m=f:=by omega
     subst hmm;have h2:decide ((m:Int)<(m:Int))=false:=Eb (by omega);refine .inr (.inl ⟨(m:Int),?_,?_⟩)
     ·simp only[h2,Zi,Aa,Da]
     ·rw[List.drop_eq_nil_of_le (by rw[Od];omega),XU]at he;rw[<-he];simp
   ·rw[zsZ];have htl:=List.Sublist.length_le (Jy (l.drop f));rw[Jd]at htl;have hcut:List.drop f (List.take (f+(trimB (l.drop f)).length) l)=trimB (l.drop f):=by
     rw[List.drop_take];have: ∀d:List ze,d.take (trimB d).length=trimB d:=by intro d;unfold trimB;rw[List.length_reverse];have h3:=Gx isSp d.reverse;have h4:=List.Sublist.length_le (He isSp (l:=d.reverse));rw[List.length_reverse]at h3 h4;rw[<-h3,List.drop_reverse,List.reverse_reverse];congr 1;simp
     have e:=this (l.drop f);rw[show f+(trimB (l.drop f)).length - f=(trimB (l.drop f)).length by omega];exact e
    have hneed:(decide ((0:Int)<=(f:Int))&&(decide ((f:Int)<=((f+(trimB (l.drop f)).length:Nat):Int))&&(decide (((f+(trimB (l.drop f)).length:Nat):Int)<=((f+(trimB (l.drop f)).length:Nat):Int))&&decide (((f+(trimB (l.drop f)).length:Nat):Int)<=(l.length:Int))))&&decide True)=true:=by simp only[Ca,ma];refine⟨?_,trivial⟩;omega
    have hts:trimS l=trimB (l.drop f):=by unfold trimS;rw[<-Gx isSp l,hf]
    simp only[hneed,Qs,Ec,hcut,zBY (Lb (WC ((Jy _).trans (List.drop_sublist _ _))) h),Aa,hts]
 grind
set_option maxRecDepth 100000
inductive Cuts (k:Int):List ze->List (List ze)->Prop
 |one (p:List ze) (h: ∀x∈p,(x.token.kind==k)=false):Cuts k p [p]
 |more (p:List ze) (s:ze) (v:List ze) (ps:List (List ze)) (h: ∀x∈p,(x.token.kind==k)=false) (hs:(s.token.kind==k)=true) (hc:Cuts k v ps):Cuts k (p++s::v) (p::ps)
theorem uV(v:List ze):(trimS v).Sublist v:=(Jy _).trans (He _)
end Go.Lv.VT
