import Derived.Test.YtiidaccdmolmkaaGreatDoorXc
set_option linter.all false
namespace Go.Lv.VT
set_option maxRecDepth 100000
def XY{α:Type}(f:α->List PV): ∀(a b:List α),zL f (a++b)=zL f a+zL f b
 |[],b=>by rw[Lb,GD,Gd]
 |x::a,b=>by rw[Bb,wh,wh,XY f a b,Yf]
def AL{α:Type}{sep:Nat->aE}{f:α->aE}{e:α->List PV}{K:Nat}(hs: ∀i,(sep i).length<=3){l:List α}(h: ∀x∈l,(f x).length+3<=K*zx (e x)):(fL sep (l.map f)).length<=K*zL e l:=by
 have a: ∀n,n<=l.length->(eN sep (l.map f) n).length<=K*zL e (l.take n):=by
  intro n
  induction n with
  |zero=>intro _;show 0<=_;omega
  |succ n b=>
   intro hn;have hl:n<l.length:=by omega
   have h1:=b (by omega);have h2:=h _ (Ia hl);have h3:=hs n;have c:(l.map f).getD n []=f l[n]:=by rw[Lc,Ta,Na hl];rfl
   rw[eN,c,Jb hl,XY,Nat.mul_add,Ea,Ea];have e1:zL e [l[n]]=zx (e l[n]):=by rw[wh,GD,Od]
   have h4:(bif n==0 then []else sep n:aE).length<=3:=by
    cases n==0 with
    |true=>exact Yb _
    |false=>exact h3
   rw[e1];omega
 have:=a l.length (Db _);unfold fL
 rwa [Xa,Xc]at*
def zNR(b:UInt8):(eM b).length<=3:=by
 have: ∀n:Nat,(Pn.getD n []).length<=3
  |0=>by decide|1=>by decide|2=>by decide|3=>by decide|4=>by decide|n+5=>by exact Yb _
 exact this _
def zJB(k:Int):(Uh k).length<=3:=by
 have: ∀n:Nat,(Pn.getD n []).length<=3
  |0=>by decide|1=>by decide|2=>by decide|3=>by decide|4=>by decide|n+5=>by exact Yb _
 unfold Uh;have:=this k.toNat;cases decide (k>1)
 ·exact Yb _
 ·rw[Ca,Ic];omega
def Wv(l:aE):(ZA l).length<=4*l.length:=Ej _ _ _
def zMQ{x:zH}(hf:di x=true)(s:aE):(hdsW x s).length<=100+4*x.q.length+4*x.i.length+s.length:=by
 have h1:=Wv x.q;have h2:=Am dl x.i;have h3:(opsW.getD x.op.toNat []).length<=2:=by
  have: ∀n:Nat,(opsW.getD n []).length<=2
   |0=>by decide|1=>by decide|2=>by decide|3=>by decide|4=>by decide|5=>by decide|6=>by decide|n+7=>by exact Yb _
  exact this _
 have h4:(pseW.getD (x.u - 4).toNat []).length<=20:=by
  have: ∀n:Nat,(pseW.getD n []).length<=20
   |0=>by decide|1=>by decide|2=>by decide|3=>by decide|4=>by decide|5=>by decide|6=>by decide|7=>by decide|8=>by decide|9=>by decide|10=>by decide|n+11=>by exact Yb _
  exact this _
 have c:gS x.lc=true:=by
  unfold di Yr anb0 at hf;unfold gS Rs;cases k1:x.u==1||x.u==2<;>cases k3:x.u==3<;>cases d:x.u==9||x.u==10<;>rw[k1,k3,d]at hf<;>simp only[Ca,Ba,Da,Fb,aa,Pb]at hf ⊢
  all_goals first|exact(by unfold gS Rs at hf;simpa only[Da,aa] using hf.1)|(obtain⟨ha,hb⟩:x.lc.a=0/\x.lc.b=0:=by grind);(rw[ha,hb];decide)
 have e:=zEQ c;have f:fstW.length<=12/\lstW.length<=12/\ofW.length<=4:=by decide
 unfold hdsW attW lO;cases x.u==1 with
 |true=>rw[Ca,Ha];omega
 |false=>
 cases x.u==2 with
 |true=>rw[Ba,Ca,Ha];omega
 |false=>
 cases x.u==3 with
 |true=>cases x.op==0<;>cases x.ld<;>simp only[Ca,Ba,Ha,Ea,Cb]<;>omega
 |false=>
 cases Rm x with
 |true=>cases x.u==9<;>simp only[Ca,Ba]<;>omega
 |false=>cases decide (x.u<=8)<;>cases decide (x.u<=10)<;>cases x.of_<;>simp only[Ca,Ba,Ha,Ea,Cb]<;>omega
def J6{n:Nat}(d: ∀y:zH,zx (zT y)<=n->okX y->(eJ y).length+3<=20*zx (zT y)){c:zm}(hc:lR c)(hn:zx (zk c)<=n):(mj c).length+3<=20*zx (zk c):=by
 have e:=Qe c;obtain⟨_,c2,_,_,j⟩:=PE hc;have k:=zJB c.lf;have l:(fL (λi=>eM (c.kj.getD (i - 1) 0)) (c.kc.map hJ)).length<=20*zL z8 c.kc:=by
  refine AL (λi=>zNR _) λq a=> ?_;have m:=Z7 (f:=z8) a;have o:=qE q;obtain⟨_,_,_,p4⟩:=NL (j q a);have ht:(gg q.lg).length<=4*q.lg.length+1:=by
   have:=Wv q.lg;unfold gg;cases q.lg==[42]
   ·rw[Ba];omega
   ·show 1<=_;omega
  have p:(fL (λ_=>[]) (q.ka.map eJ)).length<=20*zL zT q.ka:=by refine AL (λ_=>Yb _) λy b=>d y ?_ (p4 y b);have:=Z7 (f:=zT) b;omega
  rw[bE,Ea];omega
 rw[fE,Ea];omega
def zRh: ∀(n:Nat) (x:zH),zx (zT x)<=n->okX x->(eJ x).length+3<=20*zx (zT x):=by
 intro n
 induction n with
 |zero=>intro x b;have:=yo x;omega
 |succ n d=> intro x b hv;obtain⟨hf,hc,_,_⟩:=ML hv;have e:=qW x;have i:=zMQ hf (fg x.w);have hl:(fg x.w).length<=20*zL zk x.w:=AL (λ_=>by show 2<=3;omega) λc a=>J6 d (hc c a) (by have:=Z7 (f:=zk) a;omega);rw[mD];omega
def rD{l:List zm}(hv: ∀c∈l,lR c):(fg l).length<=20*zL zk l:=
 AL (λ_=>by show 2<=3;omega) λc a=>J6 (zRh _) (hv c a) (Db _)
def fR(z:zm×Zg×Bool):Bool:=Xg z.1 z.2.1.deep.toNat z.2.1.has z.2.2
def okR(z:zm×Zg×Bool):Prop:=zx (zk z.1)<=co/\ ∃d:Nat,d<=3/\z.2.1.deep=(d:Int)
def zLY{d:Nat}(b:d<=3)(h:Bool)(k:Int):VH (⟨(d:Int),h⟩,k)=some (bif d==3||h&&k==14 then(⟨(d:Int),h⟩,false)else(⟨((d+1:Nat):Int),h||k==14⟩,true)):=by
 unfold VH;have e1:((d:Int)==3)=(d==3):=by
  by_cases a:d=3
  ·subst a;rfl
  ·rw[Fa.2 a,Fa.2 (by omega)]
 simp only[e1];have e2:d≠3->cj ((d:Int)+1)=((d+1:Nat):Int):=λa=>zD (n:=4) (by omega) (by decide);cases hb:(d==3)with
 |true=>rfl
 |false=> rw[e2 (by simpa using hb)];cases h<;>cases (k==14)<;>rfl
def valid_eq(a:fj):GH a=some (gS a):=by unfold GH gS Rs;simp only[ge_iff_le];cases decide (-1000000000<=a.a)<;>cases decide (a.a<=1000000000)<;>cases decide (-1000000000<=a.b)<;>cases decide (a.b<=1000000000)<;>rfl
section
variable {S:zm×Zg×Bool->Option Bool} {N:Nat} (hS: ∀z,okR z->zx (zk z.1)<N->S z=some (fR z)) (hN:N<=co)
include hS hN
def hSr{c:zm}{d:Nat}{h b:Bool}(hc:zx (zk c)<N)(a:d<=3):S (c,⟨(d:Int),h⟩,b)=some (Xg c d h b):=
 hS (c,⟨(d:Int),h⟩,b) ⟨by show zx (zk c)<=co;omega,d,a,rfl⟩ hc
def zJK{x:zH}(j:zx (zT x)<=N){d:Nat}(b:d<=3)(h:Bool):
  Fy S (x.w,⟨(d:Int),h⟩,x.u)=some (!(d==3||h&&x.u==14)&&x.w.all λc=>Xg c (d+1) (h||x.u==14) (x.u==14)):=by
 have k:=qW x;have a:=Z4 qZ x.w;unfold Fy;simp only[zLY b,za,Aa];cases hp:(d==3||h&&x.u==14)with
 |true=>rfl
 |false=>
  have e:d≠3:=by intro hc;rw[hc]at hp;cases hp
  simp only[Ba,Ab,Va,ja];refine(qd x.w (λc=>bif Xg c (d+1) (h||x.u==14) (x.u==14)then none else some false) () (λi hi=> ?_) ?_).trans ?_
  ·have hm:=Z7 (f:=zk) (Ia hi);simp only[zN hi,Ca,zF hi,Aa,eH,zD hi (show x.w.length<=co by omega)];rw[hSr hS hN (by omega) (show d+1<=3 by omega)];simp only[Aa];cases Xg x.w[i] (d+1) (h||x.u==14) (x.u==14)<;>rfl
  ·simp only[Nh,Ba]
  ·rw[Dj];cases x.w.all λc=>Xg c (d+1) (h||x.u==14) (x.u==14)<;>rfl
def zHu{x:zH}(E:zx (zT x)<=N){d:Nat}(Q:d<=3)(h:Bool):MB S (x,⟨(d:Int),h⟩)=some (Oj x d h):=by
 have U:=qW x;have o:decide ((x.i.length:Int)<=400)=decide (x.i.length<=400):=ku _ 400;rw[BO];unfold MB cO;simp only[za,Aa,mq,zJK hS hN E Q,RI (show x.q.length<=co by omega),XO (show x.q.length<=co by omega),WO _ (show x.i.length<=co by omega),o,valid_eq,zO,ZU,Nq,bne,ge_iff_le];generalize x.w.all (λc=>Xg c (d+1) (h||x.u==14) (x.u==14))=b1;generalize y:(d==3||h&&x.u==14)=b2;unfold di Yr anb0 hasS nu;generalize x.w.isEmpty=m;generalize Gh x.q=a1;generalize aj x.q=a2;generalize ZL x.i=V;generalize decide (x.i.length<=400)=a4;generalize decide (x.op<=6)=a5;generalize (x.op==0)=j;generalize (x.i==[])=k;generalize (x.q==[])=n;generalize (x.lc.a==0)=l;generalize (x.lc.b==0)=i;generalize gS x.lc=p;generalize x.ld=e;generalize x.of_=f;simp only[Ff];clear y o U E hS;by_cases k1:x.u=1
 ·simp only[k1];cases a1<;>cases j<;>cases k<;>cases l<;>cases i<;>cases e<;>cases f<;>rfl
 by_cases k2:x.u=2
 ·simp only[k2];cases a1<;>cases j<;>cases k<;>cases l<;>cases i<;>cases e<;>cases f<;>rfl
 by_cases k3:x.u=3
 ·simp only[k3];cases a2<;>cases V<;>cases a4<;>cases a5<;>cases j<;>cases k<;>cases l<;>cases i<;>cases e<;>cases f<;>rfl
 by_cases F:x.u=9
 ·simp only[F];cases j<;>cases k<;>cases n<;>cases p<;>cases e<;>cases f<;>cases b1<;>cases b2<;>cases m<;>rfl
 by_cases r:x.u=10
 ·simp only[r];cases j<;>cases k<;>cases n<;>cases p<;>cases e<;>cases f<;>cases b1<;>cases b2<;>cases m<;>rfl
 by_cases s:x.u=11
 ·simp only[s];cases j<;>cases k<;>cases n<;>cases l<;>cases i<;>cases e<;>cases f<;>cases b1<;>cases b2<;>cases m<;>rfl
 by_cases t:x.u=12
 ·simp only[t];cases j<;>cases k<;>cases n<;>cases l<;>cases i<;>cases e<;>cases f<;>cases b1<;>cases b2<;>cases m<;>rfl
 by_cases u:x.u=13
 ·simp only[u];cases j<;>cases k<;>cases n<;>cases l<;>cases i<;>cases e<;>cases f<;>cases b1<;>cases b2<;>cases m<;>rfl
 by_cases v:x.u=14
 ·simp only[v];cases j<;>cases k<;>cases n<;>cases l<;>cases i<;>cases e<;>cases f<;>cases b1<;>cases b2<;>cases m<;>rfl
 have d1:decide (4<=x.u)=true\/decide (4<=x.u)=false:=(ic _);simp only[Fa.2 k1,Fa.2 k2,Fa.2 k3,Fa.2 F,Fa.2 r,Fa.2 s,Fa.2 t,Fa.2 u,Fa.2 v];have e11:(decide (11<=x.u)&&decide (x.u<=14))=false:=by
  rw[bg];by_cases A:11<=x.u
  ·exact .inr (Ma (by omega))
  ·exact .inl (Ma A)
 rw[e11];by_cases k4:x.u=4
 ·simp only[k4];cases j<;>cases k<;>cases n<;>cases l<;>cases i<;>cases e<;>cases f<;>cases m<;>rfl
 by_cases J:x.u=5
 ·simp only[J];cases j<;>cases k<;>cases n<;>cases l<;>cases i<;>cases e<;>cases f<;>cases m<;>rfl
 by_cases L:x.u=6
 ·simp only[L];cases j<;>cases k<;>cases n<;>cases l<;>cases i<;>cases e<;>cases f<;>cases m<;>rfl
 by_cases M:x.u=7
 ·simp only[M];cases j<;>cases k<;>cases n<;>cases l<;>cases i<;>cases e<;>cases f<;>cases m<;>rfl
 by_cases O:x.u=8
 ·simp only[O];cases j<;>cases k<;>cases n<;>cases l<;>cases i<;>cases e<;>cases f<;>cases m<;>rfl
 have e4:(decide (4<=x.u)&&decide (x.u<=14))=false:=by
  rw[bg];by_cases A:4<=x.u
  ·exact .inr (Ma (by omega))
  ·exact .inl (Ma A)
 rw[e4];simp only[Fa.2 k4,Fa.2 J,Fa.2 L,Fa.2 M,Fa.2 O];rfl
end
section
variable {S:zm×Zg×Bool->Option Bool} {N:Nat} (hS: ∀z,okR z->zx (zk z.1)<N->S z=some (fR z)) (hN:N<=co)
include hS hN
def zBi{c:zU}(m:zx (z8 c)<=N){d:Nat}(k:d<=3)(h:Bool):cB S (c,⟨(d:Int),h⟩)=some (QF c d h):=by
 have n:=qE c;have j:=Z4 yo c.ka;have b:decide ((c.ka.length:Int)>64)= !decide (c.ka.length<=64):=kg _ 64;rw[aO];unfold cB lC tagS;have hl:zM (λ(e:Int)=>
    bif decide (e<(c.ka.length:Int))then
     za (cl c.ka e) λa=>
     za (MB S ((⟨a.u,a.q,a.op,a.i,a.ld,a.lc,a.of_,a.w⟩:zH),⟨(d:Int),h⟩)) λl=>
     bif !l then
      some (LO.ret false)
     else
      some (LO.again (cj (e+1)))
    else
     some (LO.out ())) 0 (λ_=>some true)=some (c.ka.all λx=>Oj x d h):=by
  refine(qd c.ka (λx=>bif Oj x d h then none else some false) () (λi hi=> ?_) ?_).trans ?_
  ·have hm:=Z7 (f:=zT) (Ia hi);simp only[zN hi,Ca,zF hi,za,Aa,mq,zHu hS hN (show zx (zT c.ka[i])<=N by omega) k h,zD hi (show c.ka.length<=co by omega)]
   grind
  ·grind
  ·rw[Dj]
   grind
 simp only[XO (show c.lg.length<=co by omega),zO,za,Aa,b,ZU]at hl ⊢;rw[hl]
 grind
end
def zPl{α β:Type}(p:α->Bool)(q:β->Bool): ∀(l:List α) (m:List β),m.length+1=l.length->
  ((∀i (h:i<l.length),p l[i]=true/\(∀(h':i - 1<m.length),0<i->q m[i - 1]=true))↔(l.all p=true/\m.all q=true)):=by
 intro l m b;simp only[Ya];constructor
 ·intro a;refine⟨λv hv=> ?_,λv hv=> ?_⟩
  ·obtain⟨i,hi,rfl⟩:=Rf hv;exact(a i hi).1
  ·obtain⟨i,hi,rfl⟩:=Rf hv;exact(a (i+1) (by omega)).2 (by omega) (by omega)
 grind
def zKR{c:zm}{d:Nat}{h b:Bool}(hc:zx (zk c)<=co)(l:d<=3):Zn (c,⟨(d:Int),h⟩,b)=some (Xg c d h b):=by
 refine ZB (λz=>zx (zk z.1)) okR fR (λS z y hS=> ?_) (x:=(c,⟨(d:Int),h⟩,b)) ⟨hc,d,l,rfl⟩;obtain⟨c,⟨A,h⟩,b⟩:=z;obtain⟨hc,d,l,m⟩:=y;have m:A=(d:Int):=m;subst m;have hc:zx (zk c)<=co:=hc;have E:=Qe c;have s:=Z4 QP c.kc;show _=some (Xg c ((d:Int).toNat) h b);rw[Oa,jM];unfold aI WC;have e1:decide (c.lf>4)= !decide (c.lf<=4):=by
  by_cases k:c.lf<=4
  ·grind
  ·grind
 have e3:decide ((c.kc.length:Int)>64)= !decide (c.kc.length<=64):=kg _ 64;have e4:((c.lf != 0)==b)=(b==(c.lf != 0)):=by cases b<;>cases (c.lf != 0)<;>rfl
 simp only[e1,e3,e4,ZU,Nf];cases hp:c.kc with
 |nil=>simp
 |cons p ps=>
  rw[<-hp];have n:c.kc.isEmpty=false:=by rw[hp];rfl
  have t:0<c.kc.length:=by rw[hp];simp
  have e2:((c.kj.length:Int) != cj ((c.kc.length:Int) - 1))= !decide (c.kj.length+1=c.kc.length):=by
   have:cj ((c.kc.length:Int) - 1)=((c.kc.length - 1:Nat):Int):=by rw[cj,ZX (by omega) (by grind)];omega
   rw[this];by_cases k:c.kj.length+1=c.kc.length
   ·grind
   ·grind
  rw[e2,n];cases e:decide (c.kj.length+1=c.kc.length)with
  |false=>grind
  |true=>
   have e:=jb e;have hl:zM (λ(a:Int)=>
    bif decide (a<(c.kc.length:Int))then
     za (cl c.kc a) λu=>
     za (cB S ((⟨u.lg,u.ka⟩:zU),⟨(d:Int),h⟩)) λo=>
     za (zA (decide (a>0)&& !(!o)) (cl c.kj (cj (a - 1))) (default:UInt8)) λv=>
     za (zA (!(decide ((v.toNat:Int)<1))&&(decide (a>0)&& !(!o))) (cl c.kj (cj (a - 1))) (default:UInt8)) λF=>
     bif bif !o then true else bif decide (a>0)then bif decide ((v.toNat:Int)<1)then true else decide ((F.toNat:Int)>4)else false then
      some (LO.ret false)
     else
      some (LO.again (cj (a+1)))
    else
     some (LO.out ())) 0 (λ_=>some true)=some (c.kj.all Jl&&c.kc.all λx=>QF x d h):=by
    refine(BB c.kc.length (λi=>QF (c.kc.getD i default) d h&&(i==0||Jl (c.kj.getD (i - 1) 0))) false (λi hi=> ?_) ?_).trans ?_
    ·have hm:=Z7 (f:=z8) (Ia hi);have r:c.kc.getD i default=c.kc[i]:=by simp[hi]
     simp only[zN hi,Ca,zF hi,za,Aa,BV,zBi (N:=zx (zk c)) hS hc (show zx (z8 c.kc[i])<=zx (zk c) by omega) l,zD hi (show c.kc.length<=co by omega),r];cases i with
     |zero=>cases QF c.kc[0] d h<;>rfl
     |succ i=>
      have j:i<c.kj.length:=by omega
      have J:decide (((i+1:Nat):Int)>0)=true:=Ga (by omega);have L:cj (((i+1:Nat):Int) - 1)=(i:Int):=by rw[cj,ZX (by omega) (by grind)];omega
      have M:c.kj.getD (i+1 - 1) 0=c.kj[i]:=by simp[j]
      have O:decide ((c.kj[i].toNat:Int)<1)= !decide (1<=c.kj[i].toNat):=by
       by_cases k:1<=c.kj[i].toNat
       ·grind
       ·grind
      have Q:decide ((c.kj[i].toNat:Int)>4)= !decide (c.kj[i].toNat<=4):=kg _ 4;rw[J,L,M,zF j];cases QF c.kc[i+1] d h with
      |false=>rfl
      |true=>
       simp only[Ab,Va,Nb,ja,zQ,Aa,Ba,Ca,O,zO,Q];unfold Jl
       grind
    ·grind
    ·have:(List.range c.kc.length).all (λi=>QF (c.kc.getD i default) d h&&(i==0||Jl (c.kj.getD (i - 1) 0)))=(c.kj.all Jl&&c.kc.all λx=>QF x d h):=by
      rw[Gg,Da,and_comm,<-zPl _ _ _ _ e,Ya];constructor
      ·intro k i hi;have:=k i (Pd.2 hi)
       grind
      ·grind
     grind
   grind
def Ht {α R:Type}{step:Int×Int->Option (LO (Int×Int) Int R)}{k:Int->Option R}(l:List α)(f:α->Nat)(a0 M:Nat)(hb:a0+(l.map f).sum<=M)
  (e: ∀(i a:Nat) (h:i<l.length),a+f l[i]<=M->step ((a:Int),(i:Int))=some (.again (((a+f l[i]:Nat):Int),((i+1:Nat):Int))))
  (hf: ∀a:Nat,step ((a:Int),(l.length:Int))=some (.out (a:Int))):zM step ((a0:Int),0) k=k ((a0+(l.map f).sum:Nat):Int):=by
 have d: ∀(m:List α) (i a:Nat),l.drop i=m->i<=l.length->a+(m.map f).sum<=M-> ∃n,ZP step n ((a:Int),(i:Int))=some (.out ((a+(m.map f).sum:Nat):Int)):=by
  intro m
  induction m with
  |nil=>
   intro i a c hi _;have:i=l.length:=by have:=Ad.1 c;omega
   subst this;exact⟨1,by simp only[ZP,hf];simp⟩
  |cons v m j=>
   intro i a c hi o;have b:i<l.length:=by
    rcases Ec i l.length with h|h
    ·exact h
    ·grind
   have hv:l[i]=v:=by have:=Eb b;rw[c]at this;injection this with h1 _;exact h1.symm
   rw[Xb,xc]at o ⊢;have hs:=e i a b (by rw[hv];omega);rw[hv]at hs;obtain⟨n,hn⟩:=j (i+1) (a+f v) (by rw[Eb b]at c;injection c) (by omega) (by omega);refine⟨n+1,?_⟩;simp only[ZP,hs];rw[hn,Yf]
 obtain⟨n,hn⟩:=d l 0 a0 rfl (by omega) hb;replace hn:ZP step n ((a0:Int),0)=_:=hn;rw[Di (qM hn)];rfl
mutual
/-- How many complex ones there are, in all. -/
def gO:List zm->Nat
 |[]=>0
 |⟨_,parts,_⟩::r=>1+mb parts+gO r
def mb:List zU->Nat
 |[]=>0
 |⟨_,simples⟩::r=>mc simples+mb r
def mc:List zH->Nat
 |[]=>0
 |⟨_,_,_,_,_,_,_,list⟩::r=>gO list+mc r
end
def F6(l:List zH):mc l=(l.map λx=>gO x.w).sum:=by
 induction l with
 |nil=>rw[mc];rfl
 |cons x l a=>obtain⟨⟩:=x;rw[mc,a];rfl
def Y5(l:List zU):mb l=(l.map λx=>mc x.ka).sum:=by
 induction l with
 |nil=>rw[mb];rfl
 |cons x l a=>obtain⟨⟩:=x;rw[mb,a];rfl
def l5(l:List zm):gO l=l.length+(l.map λx=>mb x.kc).sum:=by
 induction l with
 |nil=>rw[gO];rfl
 |cons x l a=>obtain⟨⟩:=x;rw[gO,a,Xb,xc,Ha];dsimp only;omega
mutual
def SE: ∀l:List zm,gO l<=zL zk l
 |[]=>by rw[gO];grind
 |⟨a,parts,b⟩::r=>by
  rw[gO,wh,Qe];have:=Y1 parts;have:=SE r
  grind
def Y1: ∀l:List zU,mb l<=zL z8 l
 |[]=>by rw[mb];grind
 |⟨a,simples⟩::r=>by
  rw[mb,wh,qE];have:=D6 simples;have:=Y1 r
  grind
def D6: ∀l:List zH,mc l<=zL zT l
 |[]=>by rw[mc];grind
 |⟨a,b,c,d,e,f,g,list⟩::r=>by
  rw[mc,wh,qW];have:=SE list;have:=D6 r
  grind
end
def zrl{l:List zm}(h:zL zk l<=co):QN l=some (gO l:Int):=by
 refine ZB (λl=>zL zk l) (λl=>zL zk l<=co) (λl=>(gO l:Int)) (λS l hl hS=> ?_) h;unfold dJ;have hn:=SE l;have o:=Z4 qZ l;rw[l5]at hn ⊢;refine(Ht l (λx=>mb x.kc) l.length co (by omega) (λi a hi ha=> ?_) (λa=> ?_)).trans rfl
 ·have hm:=Z7 (f:=zk) (Ia hi);have u:=Qe l[i];have k:=Z4 QP l[i].kc;simp only[zN hi,Ca,zF hi,za,Aa,zD hi (show l.length<=co by omega)];rw[Y5]at ha ⊢;refine(Ht l[i].kc (λx=>mc x.ka) a co ha (λj b e hb=> ?_) (λa=> ?_)).trans rfl
  ·have p:=Z7 (f:=z8) (Ia e);have r:=qE l[i].kc[j];have n:=Z4 yo l[i].kc[j].ka;simp only[zN e,Ca,zF e,Aa,zD e (show l[i].kc.length<=co by omega)];rw[F6]at hb ⊢;refine(Ht l[i].kc[j].ka (λx=>gO x.w) b co hb (λm c d hc=> ?_) (λa=> ?_)).trans rfl
   ·have s:=Z7 (f:=zT) (Ia d);have t:=qW l[i].kc[j].ka[m];simp only[zN d,Ca,zF d,Aa,zD d (show l[i].kc[j].ka.length<=co by omega)];rw[hS _ (by grind) (by grind)];simp only[Aa,Bv hc]
   ·grind
  ·grind
 ·grind
def ztX{l:List zm}(h:zL zk l<=co):Lp l=some (gO l:Int):=by
 refine ZB (λl=>zL zk l) (λl=>zL zk l<=co) (λl=>(gO l:Int)) (λS l hl hS=> ?_) h;unfold oI;have hn:=SE l;have o:=Z4 qZ l;rw[l5]at hn ⊢;refine(Ht l (λx=>mb x.kc) l.length co (by omega) (λi a hi ha=> ?_) (λa=> ?_)).trans rfl
 ·have hm:=Z7 (f:=zk) (Ia hi);have u:=Qe l[i];have k:=Z4 QP l[i].kc;simp only[zN hi,Ca,zF hi,za,Aa,zD hi (show l.length<=co by omega)];rw[Y5]at ha ⊢;refine(Ht l[i].kc (λx=>mc x.ka) a co ha (λj b e hb=> ?_) (λa=> ?_)).trans rfl
  ·have p:=Z7 (f:=z8) (Ia e);have r:=qE l[i].kc[j];have n:=Z4 yo l[i].kc[j].ka;simp only[zN e,Ca,zF e,Aa,zD e (show l[i].kc.length<=co by omega)];rw[F6]at hb ⊢;refine(Ht l[i].kc[j].ka (λx=>gO x.w) b co hb (λm c d hc=> ?_) (λa=> ?_)).trans rfl
   ·have s:=Z7 (f:=zT) (Ia d);have t:=qW l[i].kc[j].ka[m];simp only[zN d,Ca,zF d,Aa,zD d (show l[i].kc[j].ka.length<=co by omega)];rw[hS _ (by grind) (by grind)];simp only[Aa,Bv hc]
   ·grind
  ·grind
 ·grind
def iv(l:List zm):Int:=bif l.isEmpty|| !(l.all λc=>Xg c 0 false false)then 8 else bif decide (gO l<=64)then 0 else 4
def FX{l:List zm}(h:zL zk l<=co):WB l=some (iv l):=by
 have e:=Z4 qZ l;have a:decide ((gO l:Int)>64)= !decide (gO l<=64):=kg _ 64;have hc:qP l=some (!l.all λc=>Xg c 0 false false):=by
  unfold qP dP;refine Uo (Po l (λx=> !Xg x 0 false false) (by omega) (λi hi=> ?_) ?_) ((Ym _ _).trans (Jv _ _))
  ·have hm:=Z7 (f:=zk) (Ia hi);simp only[zN hi,Ca,zF hi,za,Aa,BP,eH];have:=zHn (c:=l[i]) (d:=0) (h:=false) (b:=false) (by omega) (by omega)
   grind
  ·grind
 unfold WB iv;simp only[hc,zrl h,zO,za,Aa,ZU,a]
 grind
def zv1{l:List zm}(h:zL zk l<=co):FH l=some (iv l):=by
 have e:=Z4 qZ l;have a:decide ((gO l:Int)>64)= !decide (gO l<=64):=kg _ 64;have hc:pG l=some ((l.all λc=>Xg c 0 false false)&& !l.isEmpty):=by
  unfold pG;refine(qd l (λc=>bif Xg c 0 false false then none else some false) () (λi hi=> ?_) ?_).trans ?_
  ·have hm:=Z7 (f:=zk) (Ia hi);simp only[zN hi,Ca,zF hi,za,Aa,eH,zD hi (show l.length<=co by omega)];have:=zKR (c:=l[i]) (d:=0) (h:=false) (b:=false) (by omega) (by omega);simp only[Int.natCast_zero]at this
   grind
  ·grind
  ·rw[Dj,Nq]
   grind
 unfold FH iv;simp only[hc,ztX h,za,Aa,a]
 grind
def zNT: ∀n:Nat,n<5->([[],[32],[32,62,32],[32,43,32],[32,126,32]]:List aE)[0+((n:Int)).toNat*1]? =some (Pn.getD n []):=by decide+kernel
def zLa: ∀n:Nat,n<5->([[],[32],[32,62,32],[32,43,32],[32,126,32]]:List aE)[0+n*1]? =some (Pn.getD n []):=by decide+kernel
def zQ3: ∀n:Nat,n<11->((WI ()).bind λy=>cl y (cN ((4+n:Int) - 4)))=some (pseW.getD n []):=by decide+kernel
def Y0: ∀n:Nat,n<7->cl [([]:aE),([61]:aE),([126,61]:aE),([124,61]:aE),([94,61]:aE),([36,61]:aE),([42,61]:aE)] (n:Int)=some (opsW.getD n []):=by decide+kernel
def IE:cl [([58,102,105,114,115,116,45,99,104,105,108,100]:aE),([58,108,97,115,116,45,99,104,105,108,100]:aE)] (cN (9 - 9))=some fstW/\cl [([58,102,105,114,115,116,45,99,104,105,108,100]:aE),([58,108,97,115,116,45,99,104,105,108,100]:aE)] (cN (10 - 9))=some lstW:=by decide+kernel
def zJW:ZA []=[]:=rfl
section
def zNS{R:Type}{i:Nat}{s a:aE}(h:a.length+(bif i==0 then []else s:aE).length<=eI)(k:aE->Option R):
  zK (bif decide ((i:Int)>0)then(zq (s,a)).bind λy=>some (.out y.2)else some (.out a)) k=k (a++bif i==0 then []else s):=by
 rcases De i with rfl|hi
 ·simp_all
 ·have e:(i==0)=false:=Fa.2 (by omega);rw[e,Ba]at h ⊢;rw[Ga (show(i:Int)>0 by omega),Ca,Ol h];rfl
def zJC{R:Type}{n:Int}{a:aE}(hn:n<=4)(h:a.length+(Uh n).length<=eI)(k:aE->Option R):
  zK (bif decide (n>1)then ck (decide (0<=n)&&decide (n<5))<|(([[],[32],[32,62,32],[32,43,32],[32,126,32]]:List aE)[0+n.toNat*1]?).bind λb=>ck (decide (1<=(b.length:Int)))<|
   (zq (List.drop 1 b,a)).bind λc=>some (.out c.2)else some (.out a)) k=k (a++Uh n):=by
 unfold Uh at h ⊢;by_cases h1:n>1
 ·obtain⟨m,rfl⟩: ∃m:Nat,n=m:=⟨n.toNat,by omega⟩;rw[Ga h1,Ca]at h ⊢;rw[zn (by grind),zNT m (by omega)];have: ∀m:Nat,m<5->1<m->(1<=(Pn.getD m []).length):=by decide
  have:=this m (by omega) (by omega);rw[Oa]at h ⊢;rw[Ca,Aa,zn (Ga (by omega)),Ol h];rfl
 ·rw[Ma h1,Ba,Ba,Ib];rfl
def zIk{R:Type}{i:Nat}{combs:List UInt8}{a:aE}(hc: ∀b∈combs,b.toNat<=4)(hi:i<=combs.length)(m:combs.length<=co)(h:a.length+(bif i==0 then []else eM (combs.getD (i - 1) 0):aE).length<=eI)(k:aE->Option R):
  zK (bif decide ((i:Int)>0)then(cl combs (cj ((i:Int) - 1))).bind λc=>ck (decide (0<=(c.toNat:Int))&&decide ((c.toNat:Int)<5))<|
   (([[],[32],[32,62,32],[32,43,32],[32,126,32]]:List aE)[0+c.toNat*1]?).bind λd=>(zq (d,a)).bind λf=>some (.out f.2)else some (.out a)) k=
   k (a++bif i==0 then []else eM (combs.getD (i - 1) 0)):=by
 have j:co=4194304:=rfl;rcases De i with rfl|hp
 ·simp_all
 ·have e:(i==0)=false:=Fa.2 (by omega);have hl:i - 1<combs.length:=by omega
  have l:combs.getD (i - 1) 0=combs[i - 1]:=by rw[Lc,Na hl];rfl
  rw[e,Ba,l]at h ⊢;have hb:=hc _ (Ia hl);rw[Ga (show(i:Int)>0 by omega),Ca,zY (by omega) (by omega),show(i:Int) - 1=((i - 1:Nat):Int) by omega,zF hl,Aa,
   zn (by grind),zLa _ (by omega),Aa]
  unfold eM at h;rw[Ol h];rfl
def zN3{R:Type}{t a:aE}(ht:tagS t=true)(h:a.length+(gg t).length<=eI)(k:aE->Option R):
  zK (bif t==[]then some (.out a)else bif t==[42]then(Zf (42,a)).bind λb=>some (.out b)else(Zi (⟨1,t,0,[],false⟩,a)).bind λc=>some (.out c)) k=k (a++gg t):=by
 unfold tagS at ht;unfold gg at h ⊢;by_cases h0:t=[]
 ·subst h0;show zK (some (.out a)) k=k (a++ZA []);rw[zJW,Ib];rfl
 ·have e0:(t==[])=false:=Fa.2 h0;rw[e0]at ht ⊢;cases e1:t==[42]with
  |true=> rw[e1,Ca]at h;rw[Ba,Ca,Ca,Xr (y:=42) rfl h];rfl
  |false=> rw[e1]at ht h;rw[Ac,Ac]at ht;unfold aj at ht;rw[Da]at ht;rw[Ba,Ba,Ba,tkw1 ht.1 h];rfl
variable {S:zH×List UInt8->Option (List UInt8)} {N:Nat}
def V5(hS: ∀x acc,okX x->zx (zT x)<=N->acc.length+(eJ x).length<=eI->S (x,acc)=some (acc++eJ x))(hN:N<=co){l:List zm}(hl:zL zk l<=N)(hv: ∀c∈l,lR c){acc:aE}(hb:acc.length+(fg l).length<=eI):
  qD S (l,acc)=some (acc++fg l):=by
 have J:co=4194304:=rfl;have O:=Z4 qZ l;unfold qD;refine lL (sep:=io) (L:=l.map mj) (by grind) hb (λi a hi j=> ?_) (λa=> ?_)
 ·have k:i<l.length:=by rwa [Xa]at hi
  have hm:=Z7 (f:=zk) (Ia k);obtain⟨c1,c2,c3,c4,M⟩:=PE (hv _ (Ia k));have Q:=Qe l[i];rw[Md]at j ⊢;rw[fE]at j ⊢;simp only[zN k,Ca,zF k,za,Aa];generalize l[i]=c at hm c1 c2 c3 c4 M Q j;rw[Ea,Ea]at j;have b1:a.length+(bif i==0 then []else([44,32]:aE):aE).length<=eI:=by have:(bif i==0 then []else io i:aE).length=(bif i==0 then []else([44,32]:aE):aE).length:=rfl;omega
  rw[zNS b1];have t:(a++bif i==0 then []else([44,32]:aE)).length+((Uh c.lf).length+(fL (λi=>eM (c.kj.getD (i - 1) 0)) (c.kc.map hJ)).length)<=eI:=by rw[Ea];have:(bif i==0 then []else io i:aE).length=(bif i==0 then []else([44,32]:aE):aE).length:=rfl;omega
  rw[show(a++((bif i==0 then []else io i)++(Uh c.lf++fL (λi=>eM (c.kj.getD (i - 1) 0)) (c.kc.map hJ))))=(a++bif i==0 then []else([44,32]:aE))++Uh c.lf++fL (λi=>eM (c.kj.getD (i - 1) 0)) (c.kc.map hJ) by
   simp only[Ja];rfl]
  generalize (a++bif i==0 then []else([44,32]:aE))=a2 at t;rw[zJC c1 (by omega)];have p:(a2++Uh c.lf).length+(fL (λi=>eM (c.kj.getD (i - 1) 0)) (c.kc.map hJ)).length<=eI:=by rw[Ea];omega
  generalize a2++Uh c.lf=Y at p;have U:=Z4 QP c.kc;refine(lL (sep:=λi=>eM (c.kj.getD (i - 1) 0)) (L:=c.kc.map hJ) (by grind) p (λe b u m=> ?_) (λb=> ?_))
  ·have n:e<c.kc.length:=by rwa [Xa]at u
   have v:=Z7 (f:=z8) (Ia n);obtain⟨p1,p2,V,p4⟩:=NL (M _ (Ia n));have y:=qE c.kc[e];rw[Md]at m ⊢;rw[bE]at m ⊢;simp only[zN n,Ca,zF n,za,Aa];generalize c.kc[e]=q at v p1 p2 V p4 y m;rw[Ea,Ea]at m;rw[zIk c4 (by omega) (by omega) (by omega)];rw[show(b++((bif e==0 then []else eM (c.kj.getD (e - 1) 0))++(gg q.lg++fL (λ_=>[]) (q.ka.map eJ))))=(b++bif e==0 then []else eM (c.kj.getD (e - 1) 0))++gg q.lg++fL (λ_=>[]) (q.ka.map eJ) by grind];have A:(b++bif e==0 then []else eM (c.kj.getD (e - 1) 0)).length+((gg q.lg).length+(fL (λ_=>[]) (q.ka.map eJ)).length)<=eI:=by rw[Ea];omega
   generalize (b++bif e==0 then []else eM (c.kj.getD (e - 1) 0))=b2 at A;rw[zN3 p1 (by omega)];have r:(b2++gg q.lg).length+(fL (λ_=>[]) (q.ka.map eJ)).length<=eI:=by rw[Ea];omega
   generalize b2++gg q.lg=Z at r;refine(lL (sep:=λ_=>[]) (L:=q.ka.map eJ) (by grind) r (λE d F s=> ?_) (λd=> ?_))
   ·have o:E<q.ka.length:=by rwa [Xa]at F
    have W:=Z7 (f:=zT) (Ia o);rw[Md]at s ⊢;have e0:(bif E==0 then []else([]:aE))=[]:=by cases E==0<;>rfl
    simp only[e0,Lb]at s ⊢;simp only[zN o,Ca,zF o,za,Aa,mq]
    grind
   ·grind
  grind
 grind
def zLd{x:zH}(hS: ∀y acc,okX y->zx (zT y)<zx (zT x)->acc.length+(eJ y).length<=eI->S (y,acc)=some (acc++eJ y))(hN:zx (zT x)<=co)(hv:okX x){acc:aE}(hb:acc.length+(eJ x).length<=eI):
  qO S (x,acc)=some (acc++eJ x):=by
 have J:co=4194304:=rfl;have L:eI=1000000000:=rfl;obtain⟨hf,hc,hn,h0⟩:=ML hv;have hz:=qW x;have d: ∀acc:aE,acc.length+(fg x.w).length<=eI->qD S (x.w,acc)=some (acc++fg x.w):=λacc h=>
  V5 (N:=zL zk x.w) (λy acc O Q f=>hS y acc O (by omega) f) (by omega) (Db _) hc h
 rw[mD]at hb ⊢;unfold di at hf;unfold hdsW at hb ⊢;unfold qO;cases k1:x.u==1 with
 |true=> rw[k1,Uc,Ca,Da]at hf;rw[k1,Ca,Ha]at hb;simp only[k1,Ca,za];rw[tkw4 hf.1 (by omega)];rfl
 |false=>
 cases k2:x.u==2 with
 |true=> rw[k1,k2,Be,Ca,Da]at hf;rw[k1,k2,Ca,Ba,Ha]at hb;simp only[k1,k2,Ca,Ba,za];rw[Xr (y:=46) rfl (by omega),Aa,tkw1 hf.1 (by grind),Ja];rfl
 |false=>
 cases k3:x.u==3 with
 |true=>
  rw[k1,k2,k3,Dc,Ba,Ca]at hf;simp only[Da,Pb,aa]at hf;obtain⟨hs,ho,⟨r,t⟩,hp,_⟩:=hf;unfold aj at hs;rw[Da]at hs;rw[k1,k2,k3,Ca,Ba,Ba]at hb;unfold attW at hb;simp only[Ha,Ea,Cb]at hb;simp only[k1,k2,k3,Ca,Ba,za];rw[Xr (y:=91) rfl (by omega),Aa,tkw1 hs.1 (by grind),Aa];have e1: ∀{R:Type} {a:aE} (k:aE->Option R),a.length+(bif x.op==0 then []else opsW.getD x.op.toNat []++lO x.i:aE).length<=eI->
    zK (bif x.op != 0 then(cl [([]:aE),([61]:aE),([126,61]:aE),([124,61]:aE),([94,61]:aE),([36,61]:aE),([42,61]:aE)] x.op).bind λU=>(zq (U,a)).bind λV=>
     (Zi ((⟨5,x.i,0,[],false⟩:ze),V.2)).bind λW=>some (.out W)else some (.out a)) k=k (a++bif x.op==0 then []else opsW.getD x.op.toNat []++lO x.i):=by
   intro R a k h;cases l:x.op==0 with
   |true=> simp_all
   |false=>
    obtain⟨n,hn⟩: ∃n:Nat,x.op=n:=⟨x.op.toNat,by omega⟩;rw[l,Ba,Ea]at h;have m:(x.op != 0)=true:=by rw[bne,l];rfl
    rw[m,Ca,Ba,hn,Y0 n (by omega),Aa];rw[hn,Oa]at h;rw[Ol (by omega),Aa,tkw5 r t (by grind),Oa,Ja];rfl
  have e2: ∀{R:Type} {a:aE} (k:aE->Option R),a.length+(bif x.ld then [32,105]else []:aE).length<=eI->
    zK (bif x.ld then(zq ([32,105],a)).bind λi=>some (.out i.2)else some (.out a)) k=k (a++bif x.ld then [32,105]else []):=by
   intro R a k h;cases j:x.ld with
   |true=>rw[j,Ca]at h;rw[Ca,Ol h];rfl
   |false=>simp_all
  rw[e1 _ (by grind),e2 _ (by grind),Xr (y:=93) rfl (by grind),Aa];unfold attW;simp only[Ja,Bb,Lb]
 |false=>
  rw[k1,k2,k3,Dc,Ba,Ba]at hf;rw[k1,k2,k3,Ba,Ba,Ba]at hb;simp only[k1,k2,k3,Ba,za];have hk:(4<=x.u/\x.u<=14)/\((x.u=9\/x.u=10)/\gS x.lc=true\/x.u≠9/\x.u≠10/\x.lc.b=0):=by
   by_cases Y:x.u=9
   ·grind
   ·by_cases c:x.u=10
    ·grind
    ·rw[Fa.2 Y,Fa.2 c,Dc,Ba]at hf;unfold Yr anb0 at hf
     grind
  obtain⟨⟨g4,Z⟩,hk⟩:=hk;have u:(bif bif !x.of_ then x.lc.a==0&&(x.lc.b==1&&true)else false then decide (x.u<=10)else false)=Rm x:=rfl;rw[u];cases o:Rm x with
  |true=>
   rw[o,Ca]at hb;have m:x.lc.b=1:=by unfold Rm at o;cases v:x.of_<;>cases ha:x.lc.a==0<;>cases f:x.lc.b==1<;>rw[v,ha,f]at o<;>first|cases o|grind
   rw[Ca,Ca];rcases hk with⟨e|e,_⟩|⟨_,_,e⟩
   ·rw[e]at hb ⊢;rw[IE.1,Aa,Ol (s:=fstW) hb,Aa];rfl
   ·rw[e]at hb ⊢;rw[IE.2,Aa,Ol (s:=lstW) hb,Aa];rfl
   ·omega
  |false=>
   rw[o,Ba]at hb;rw[Ba,Ba];obtain⟨n,A⟩: ∃n:Nat,x.u=4+n:=⟨(x.u - 4).toNat,by omega⟩;have g:=zQ3 n (by omega);rw[<-A]at g;have g': ∀{R:Type} (k:aE->Option R),((WI ()).bind λE=>(cl E (cN (x.u - 4))).bind k)=k (pseW.getD n []):=λk=>(Option.bind_assoc _ _ _).symm.trans (by rw[g];rfl);rw[g',show(x.u - 4).toNat=n by omega];rw[show(x.u - 4).toNat=n by omega]at hb;have F: ∀n:Nat,n<11->(pseW.getD n []).length<=20:=by decide
   have hp:=F n (by omega);generalize pseW.getD n []=p at hb hp;simp only[Ha,Ea]at hb;rw[zn (Rn (by grind)),Ol (by grind),Aa];by_cases M:x.u<=8
   ·grind
   ·rw[Ma M,Ba]at hb;rw[Ma M,Ba,Ba];simp only[Ha,Ea,Cb]at hb;rw[Xr (y:=40) rfl (by grind),Aa];by_cases c:x.u<=10
    ·rw[Ga c,Ca]at hb;rw[Ga c,Ca,Ca];have hA:gS x.lc=true:=by
      rcases hk with⟨_,h⟩|⟨h1,h2,_⟩
      ·exact h
      ·omega
     rw[Ea]at hb;rw[zC7,hA,Ca,Aa,Ol (by grind),Aa];have e2: ∀{R:Type} {a:aE} (k:aE->Option R),a.length+(bif x.of_ then ofW else []:aE).length<=eI->
       zK (bif x.of_ then(zq ([32,111,102,32],a)).bind λi=>some (.out i.2)else some (.out a)) k=k (a++bif x.of_ then ofW else []):=by
      intro R a k h;cases j:x.of_ with
      |true=>rw[j,Ca]at h;rw[Ca,show([32,111,102,32]:aE)=ofW from rfl,Ol h];rfl
      |false=>simp_all
     rw[e2 _ (by grind),d _ (by grind),Aa,
      Xr (y:=41) rfl (by grind),Aa]
     simp only[Ja,Bb,Lb]
    ·rw[Ma c,Ba,Cb]at hb;rw[Ma c,Ba,Ba,zf,d _ (by grind),Aa,
      Xr (y:=41) rfl (by grind),Aa]
     grind
end
def zCN{x:zH}{acc:aE}(b:zx (zT x)<=co)(hv:okX x)(hb:acc.length+(eJ x).length<=eI):zW (x,acc)=some (acc++eJ x):=
 ZB (λz:zH×List UInt8=>zx (zT z.1)) (λz=>zx (zT z.1)<=co/\okX z.1/\z.2.length+(eJ z.1).length<=eI) (λz=>z.2++eJ z.1)
  (λS z b hS=>by
   obtain⟨x,acc⟩:=z;exact zLd (λy a c h1 h2=>hS (y,a) ⟨Jc (Nat.le_of_lt h1) b.1,c,h2⟩ h1) b.1 b.2.1 b.2.2) (x:=(x,acc)) ⟨b,hv,hb⟩
def zK9{l:List zm}(a:zL zk l<=co)(hv: ∀c∈l,lR c)(hb:(fg l).length<=eI):LK l=some (fg l):=
 (show LK l=qD zW (l,[])from rfl).trans
  ((V5 (N:=co) (λx acc b h1 h2=>zCN h1 b h2) (Db _) a hv (by grind)).trans (by grind))
def zNi{l:aE}(h:l≠[]):1<=(ZA l).length:=by
 unfold ZA;cases l with
 |nil=>grind
 |cons c r=>
  rw[cJ,Ea];have:1<=(i9 (c::r==[45]) (qC (c::r)) c).length:=by
   unfold i9 ew
   grind
  omega
def head_ne(x:zH)(s:aE):1<=(hdsW x s).length:=by unfold hdsW attW;cases x.u==1<;>cases x.u==2<;>cases x.u==3<;>cases Rm x<;>cases x.u==9<;>simp only[Ca,Ba,Ha]<;>first|omega|decide
def xP{sep:Nat->aE}{a:aE}{r:List aE}(h:1<=a.length):1<=(fL sep (a::r)).length:=by
 have h1:=JL sep (a::r) (n:=(a::r).length) (i:=1) (by simp);have h2:(eN sep (a::r) 1).length=a.length:=by show([]++([]++a):aE).length=_;simp
 unfold fL;omega
def zRY{c:zU}(h:okP c):1<=(hJ c).length:=by
 obtain⟨_,_,h3,_⟩:=NL h;rw[bE,Ea];by_cases ht:c.lg=[]
 ·cases hs:c.ka with
  |nil=>grind
  |cons x r=>
   have:=xP (sep:=λ_=>[]) (a:=eJ x) (r:=r.map eJ) (by rw[mD];exact head_ne _ _)
   grind
 ·have:1<=(gg c.lg).length:=by
   unfold gg;have:=zNi ht;cases c.lg==[42]
   ·exact this
   ·grind
  omega
def zRZ{c:zm}(h:lR c):1<=(mj c).length:=by
 obtain⟨_,h2,_,_,b⟩:=PE h;rw[fE,Ea];cases hp:c.kc with
 |nil=>grind
 |cons p r=>
  have:=xP (sep:=λi=>eM (c.kj.getD (i - 1) 0)) (a:=hJ p) (r:=r.map hJ) (zRY (b p (by rw[hp];simp)))
  grind
def jZ{l:List zm}(h:l≠[])(hv: ∀c∈l,lR c):1<=(fg l).length:=by
 cases l with
 |nil=>grind
 |cons c r=>exact xP (sep:=io) (a:=mj c) (r:=r.map mj) (zRZ (hv c (by simp)))
def LF{l:List zm}(h:iv l=0)(ho:okPV (.sl (l.map zk))):l≠[]/\ ∀c∈l,lR c:=by
 unfold iv at h;cases a:l.isEmpty with
 |true=>grind
 |false=>
  cases ha:l.all λc=>Xg c 0 false false with
  |false=>grind
  |true=> rw[Ya]at ha;exact⟨λe=>(by grind),λc hc=>⟨⟨_,_,_,ha c hc⟩,Sy ho hc⟩⟩
def zt7{l:List zm}(a:zL zk l<=co)(ho:okPV (.sl (l.map zk))):
  Ou l=some (bif iv l != 0 then([],iv l)else bif decide (4000<(fg l).length)then([],28)else(fg l,0)):=by
 unfold Ou;rw[FX a];simp only[za,Aa];cases h:iv l != 0 with
 |true=>rfl
 |false=>
  have h0:iv l=0:=by simpa [bne] using h
  obtain⟨h1,h2⟩:=LF h0 ho;have hn:=jZ h1 h2;have hb:(fg l).length<=eI:=by have:=rD h2;have b:co=4194304:=rfl;have c:eI=1000000000:=rfl;omega
  rw[Ba,Ba,zK9 a h2 hb];unfold PP strV
  grind
def Mk(acc:aE)(d:Nat):aE:=bif d==0&&acc.isEmpty then acc else ie d::acc
def ly(r:Nat):aE:=Mk (Mk (Mk [] (r%10)) (r / 10%10)) (r / 10 / 10%10)
def j7(c:aE):aE:=bif c.isEmpty then c else 46::c
def bkOK(r:Nat):Bool:=j7 (ly r)==Kj r false&&decide ((ly r).length<=3)
def mY: ∀r,r<1000->bkOK r=true:=by decide+kernel
def zPq{r:Nat}(h:r<1000):j7 (ly r)=Kj r false:=by have:=mY r h;unfold bkOK at this;rw[Da]at this;exact eq_of_beq this.1
def YR{r:Nat}(h:r<1000):(ly r).length<=3:=by have:=mY r h;unfold bkOK at this;rw[Da]at this;exact jb this.2
def lP:Nat->Nat->aE->aE
 |0,_,acc=>acc
 |f+1,m,acc=>if m<10 then ie m::acc else lP f (m / 10) (ie (m%10)::acc)
def O3: ∀{f m:Nat} {acc:aE},m<10 ^ f->0<f->lP f m acc=Lib.decDigits m++acc
 |0,_,_,_,h=>absurd h (by omega)
 |f+1,m,acc,h,_=>by
  rw[lP,Lib.decDigits];by_cases hm:m<10
  ·rw[La hm,dif_pos hm];rfl
  ·rw[Ka hm,dif_neg hm];have h2:m / 10<10 ^ f:=by rw[Ng]at h;omega
   have hf:0<f:=by
    rcases De f with rfl|hf
    ·simp at h;omega
    ·exact hf
   rw[O3 h2 hf,Ja];rfl
def d9{n:Nat}(h:n<=1000000000000):lP 10 (n / 1000) (j7 (ly (n%1000)))=Vg n false:=by rw[O3 (by omega) (by omega),zPq (Vf _ (by omega))];rfl
def fr3:Nat->Nat->Nat->aE
 |0,_,_=>[]
 |f+1,by_,p=>if p>0 then Lib.decDigits (p / by_)++fr3 f (by_ / 10) (p%by_)else []
def zTr(r:Nat):Bool:=(bif r==0 then []else 46::fr3 4 100 r)==Kj r false
def zSf: ∀r,r<1000->zTr r=true:=by decide+kernel
def zP6{r:Nat}(h:r<1000):(bif r==0 then []else 46::fr3 4 100 r)=Kj r false:=eq_of_beq (zSf r h)
def ej(cap:Nat):Nat->aE->Nat
 |n,[]=>n
 |n,c::r=>ej cap (min cap (eS n c)) r
def BN(cap:Nat): ∀(l:aE) (n:Nat) (c:UInt8),ej cap n (l++[c])=min cap (eS (ej cap n l) c)
 |[],_,_=>rfl
 |d::l,n,c=>by show ej cap (min cap (eS n d)) (l++[c])=_;rw[BN cap l];rfl
def Vm(cap:Nat): ∀(l:aE) (n:Nat),n<=cap->ej cap n l<=cap
 |[],_,h=>h
 |c::l,n,_=>Vm cap l _ (Nat.min_le_left ..)
def zEW {R:Type}{step:Int×Int->Option (LO (Int×Int) Int R)}{l:aE}{cap:Nat}(b:l.all cm=true)(j:l.length<=100000)(f:cap<=1000000000000)
  (a: ∀(v:Int) (i:Nat) (hi:i<l.length),step (v,(i:Int))=some (.again (if(cap:Int)<cj (cj (10*v)+cj (cN ((l[i].toNat:Int) - 48)))then(cap:Int)else cj (cj (10*v)+cj (cN ((l[i].toNat:Int) - 48))),cj ((i:Int)+1))))
  (h2: ∀v:Int,step (v,(l.length:Int))=some (.out v)):Dg step (0,0)=some (.out ((ej cap 0 l:Nat):Int)):=by
 refine qh (λs=> ∃i:Nat,i<=l.length/\s=(((ej cap 0 (l.take i):Nat):Int),(i:Int))) (λs=>l.length - s.2.toNat) _ ?_ ⟨0,by omega,rfl⟩;rintro _ ⟨i,hi,rfl⟩;rcases Ec i l.length with h|h
 ·refine .inl ⟨_,a _ i h,⟨i+1,by omega,?_⟩,by simp only;rw[zY (by omega) (by omega)];omega⟩;have e:=Wt (Ya.1 b _ (Ia h));have d:ej cap 0 (l.take (i+1))=min cap (eS (ej cap 0 (l.take i)) l[i]):=by rw[Jb h,BN]
  have g:=Vm cap (l.take i) 0 (Yb _);have c:cN ((l[i].toNat:Int) - 48)=((l[i].toNat - 48:Nat):Int):=by show IntKind.u8.wrap _=_;rw[IntKind.wrap_u8];omega
  unfold eS at d;rw[c,zY (n:=10*_) (by omega) (by omega),zY (n:=((l[i].toNat - 48:Nat):Int)) (by omega) (by omega),zY (n:=(i:Int)+1) (by omega) (by omega),zY (by omega) (by omega)];refine Prod.ext ?_ ?_
  ·grind
  ·grind
 grind
def dM: ∀(k n:Nat),n<=Tg->Xh k n<=Tg
 |0,_,h=>h
 |k+1,n,h=>by
  unfold Xh;split
  ·exact h
  ·exact dM k _ (Nat.min_le_left ..)
def XU {R:Type}{step:Int×Int->Option (LO (Int×Int) Int R)}{v:Nat}{p:Int}(n:p<=4000000)(d: -4000000<=p)(i:v<=1000000000000)
  (h: ∀(a b:Int),step (a,b)=bif bif bif decide (a>0)then decide (b>0)else false then decide (b<1000000000000)else false then some (.again (cj (a - 1),if 1000000000000<cj (10*b)then 1000000000000 else cj (10*b)))else some (.out b)):
  Dg step (p,(v:Int))=some (.out ((Xh p.toNat v:Nat):Int)):=by
 have o:Tg=1000000000000:=rfl;refine qh (λs=> ∃(a:Int) (b:Nat),s=(a,(b:Int))/\a<=4000000/\ -4000000<=a/\b<=1000000000000/\Xh a.toNat b=Xh p.toNat v) (λs=>s.1.toNat) _ ?_ ⟨p,v,rfl,n,d,i,rfl⟩;rintro _ ⟨a,b,rfl,r,f,q,c⟩;rw[h];by_cases e:a>0
 ·obtain⟨k,l⟩: ∃k,a.toNat=k+1:=⟨a.toNat - 1,by omega⟩;rw[l,Xh]at c;rw[Ga e,Ca];by_cases g:b=0\/Tg<=b
  ·grind
  ·rw[Ka g]at c;have m:decide (((b:Nat):Int)>0)=true:=Ga (by omega);have j:decide (((b:Nat):Int)<1000000000000)=true:=Ga (by omega);rw[m,Ca,j,Ca];refine .inl ⟨_,rfl,⟨a - 1,min Tg (10*b),?_,by omega,by omega,by omega,?_⟩,by simp only;rw[zY (by omega) (by omega)];omega⟩
   ·rw[zY (by omega) (by omega),zY (by omega) (by omega)]
    grind
   grind
 ·rw[Ma e,Ba];refine .inr (.inl ⟨_,rfl,?_⟩);rw[<-c,show a.toNat=0 by omega];rfl
structure fb where
 sg:aE
 D:aE
 F:Option aE
 X:Option (UInt8×aE×aE)
def cH:Option aE->aE
 |none=>[]
 |some f=>46::f
def dp:Option (UInt8×aE×aE)->aE
 |none=>[]
 |some (e,s,x)=>e::(s++x)
def fb.txt(n:fb):aE:=n.sg++(n.D++(cH n.F++dp n.X))
def sgB(s:aE):Bool:=s==[]||s==[43]||s==[45]
def fb.ok(n:fb):Bool:=sgB n.sg&&n.D.all cm&&(match n.F with|none=> !n.D.isEmpty|some f=> !f.isEmpty&&f.all cm)&&
 (match n.X with|none=>true|some (e,s,x)=>(e==101||e==69)&&sgB s&& !x.isEmpty&&x.all cm)
def expV:Option (UInt8×aE×aE)->Int
 |none=>0
 |some (_,s,x)=>if s==[45]then -((ej 1048576 0 x:Nat):Int)else((ej 1048576 0 x:Nat):Int)
def g9(A:aE)(p:Int):Nat:=Xh p.toNat (ej Tg 0 (if p<0 then A.take ((A.length:Int)+p).toNat else A))
def fb.val(n:fb):Int:=
 let v:=g9 (n.D++n.F.getD []) (3+expV n.X - ((n.F.getD []).length:Int))
 if n.sg==[45]then -(v:Int)else(v:Int)
def Gw{s:aE}(h:sgB s=true):s=[]\/s=[43]\/s=[45]:=by
 unfold sgB at h
 grind
def yZ{s q:aE}(h:sgB s=true)(b: ∀c r,q=c::r->List.contains [43,45] c=false):Lib.trimLeftS (s++q) [43,45]=q:=by
 have a:Lib.trimLeftS q [43,45]=q:=by
  unfold Lib.trimLeftS;cases q with
  |nil=>rfl
  |cons c r=>simp_all
 rcases Gw h with rfl|rfl|rfl
 ·exact a
 ·show List.dropWhile _ (43::q)=_;rw[Ud];exact a
 ·show List.dropWhile _ (45::q)=_;rw[Ud];exact a
def H7{e:UInt8}(a:e=101\/e=69)(t:aE): ∀(l:aE),(l.all λb=>cm b||b==46)=true->Lib.indexAny (l++e::t) [101,69]=(l.length:Int)
 |[],_=>by
  rw[Lb,Lib.indexAny]
  grind
 |c::l,h=>by
  rw[Yc,Da]at h;have hc:List.contains [101,69] c=false:=by
   have: ∀n:Nat,n<256->(cm (UInt8.ofNat n)||UInt8.ofNat n==46)=true->List.contains [101,69] (UInt8.ofNat n)=false:=by decide+kernel
   have:=this c.toNat (Kb c);rw[Ae]at this;exact this h.1
  rw[Bb,Lib.indexAny,hc,H7 a t l h.2]
  grind
def eY{l:aE}(h:l.all cm=true):(l.all λb=>cm b||b==46)=true:=by
 grind
def uz{l:aE}(h: ∀b∈l,b.toNat<128):Bi l=true:=by
 unfold Bi
 grind
def zLU{l:aE}(h:Bi l=true): ∀b∈l,b.toNat<128:=by
 unfold Bi at h
 grind
def zPI{D:aE}(a:D.all cm=true)(F:Option aE): ∃f,Lib.cut (D++cH F) [46]=(D,F.getD [],f):=by
 unfold Lib.cut;rw[aG];cases F with
 |none=> rw[show cH none=[]from rfl,Ib,YS _ a,Ka (by decide)];simp_all
 |some g=> rw[show cH (some g)=46::g from rfl,aS _ _ a,La (by omega)];simp_all
def Y7 {D:aE}{F:Option aE}{E:Int}(w:D.all cm=true)(y:(F.getD []).all cm=true)(R:D.length+(F.getD []).length<=50000)(Q:E<=2000000)(C: -2000000<=E)(s:UInt8)(r:aE)
  (M:((s.toNat:Int)==45)=(r==[45])) (u:short (D++cH F)=true):
  (za (cutF (D++cH F,[46])) λc=>
 ck (zI c.1.length c.2.1.length)<|
 zK (X:=aE×Int) (
   bif decide (cj ((3+E) - (c.2.1.length:Int))<0)then
    ck (decide (0<=(if cj (((c.1++c.2.1).length:Int)+cj ((3+E) - (c.2.1.length:Int)))>0 then cj (((c.1++c.2.1).length:Int)+cj ((3+E) - (c.2.1.length:Int)))else 0))&&decide ((if cj (((c.1++c.2.1).length:Int)+cj ((3+E) - (c.2.1.length:Int)))>0 then cj (((c.1++c.2.1).length:Int)+cj ((3+E) - (c.2.1.length:Int)))else 0)<=((c.1++c.2.1).length:Int)))<|
    some (LX.out (List.take (if cj (((c.1++c.2.1).length:Int)+cj ((3+E) - (c.2.1.length:Int)))>0 then cj (((c.1++c.2.1).length:Int)+cj ((3+E) - (c.2.1.length:Int)))else 0).toNat (c.1++c.2.1),cj ((3+E) - (c.2.1.length:Int))))
   else
    some (LX.out (c.1++c.2.1,cj ((3+E) - (c.2.1.length:Int))))) λj=>
 ck (decide (j.1.length<=maxLen))<|
 zM (λ(d:Int×Int)=>
   bif decide (d.2<(j.1.length:Int))then
    ck (decide (0<=d.2)&&decide (d.2<(j.1.length:Int)))<|
    za j.1[d.2.toNat]? λg=>
    some (LO.again (if 1000000000000<cj (cj (10*d.1)+cj (cN ((g.toNat:Int) - 48)))then 1000000000000 else cj (cj (10*d.1)+cj (cN ((g.toNat:Int) - 48))),cj (d.2+1)))
   else
    some (LO.out d.1):Int×Int->Option (LO (Int×Int) (Int) _)) (0,0) λl=>
 zM (λ(e:Int×Int)=>
   bif bif bif decide (e.1>0)then decide (e.2>0)else false then decide (e.2<1000000000000)else false then
    some (LO.again (cj (e.1 - 1),if 1000000000000<cj (10*e.2)then 1000000000000 else cj (10*e.2)))
   else
    some (LO.out e.2):Int×Int->Option (LO (Int×Int) (Int) _)) (j.2,l) λh=>
 zK (X:=Int) (
   bif (s.toNat:Int)==45 then
    some (LX.out (cj (0 - h)))
   else
    some (LX.out h)) λk=>
 some k)=some (if r==[45]then -((g9 (D++F.getD []) (3+E - ((F.getD []).length:Int)):Nat):Int)else((g9 (D++F.getD []) (3+E - ((F.getD []).length:Int)):Nat):Int)):=by
 obtain⟨f,m⟩:=zPI w F;have O:cutF (D++cH F,[46])=some (D,F.getD [],f):=by unfold cutF;rw[zn (by exact u)];exact congrArg some m
 have x:maxLen=9223372036854775807:=rfl;have t:Tg=1000000000000:=rfl;simp only[za,O,Aa];generalize F.getD []=G at*;rw[zn (Zc.2 (by omega))];obtain⟨p,L⟩: ∃p:Int,p=3+E - (G.length:Int):=⟨_,rfl⟩;rw[<-L,zY (n:=p) (by omega) (by omega)];have S:(D++G).all cm=true:=by rw[List.all_append,w,y];rfl
 have K:(D++G).length<=50000:=by rw[Ea];omega
 generalize D++G=A at*;have H: ∀B:aE,B.all cm=true->B.length<=50000->(ck (decide (B.length<=maxLen))<|
 zM (λ(d:Int×Int)=>
   bif decide (d.2<(B.length:Int))then
    ck (decide (0<=d.2)&&decide (d.2<(B.length:Int)))<|
    (B[d.2.toNat]?).bind λg=>
    some (LO.again (if 1000000000000<cj (cj (10*d.1)+cj (cN ((g.toNat:Int) - 48)))then 1000000000000 else cj (cj (10*d.1)+cj (cN ((g.toNat:Int) - 48))),cj (d.2+1)))
   else
    some (LO.out d.1):Int×Int->Option (LO (Int×Int) (Int) _)) (0,0) λl=>
 zM (λ(e:Int×Int)=>
   bif bif bif decide (e.1>0)then decide (e.2>0)else false then decide (e.2<1000000000000)else false then
    some (LO.again (cj (e.1 - 1),if 1000000000000<cj (10*e.2)then 1000000000000 else cj (10*e.2)))
   else
    some (LO.out e.2):Int×Int->Option (LO (Int×Int) (Int) _)) (p,l) λh=>
 zK (X:=Int) (
   bif (s.toNat:Int)==45 then
    some (LX.out (cj (0 - h)))
   else
    some (LX.out h)) λk=>
 some k)=some (if r==[45]then -((Xh p.toNat (ej Tg 0 B):Nat):Int)else((Xh p.toNat (ej Tg 0 B):Nat):Int)):=by
  intro B J z;have o:=Vm Tg B 0 (Yb _);rw[zn (Ga (by omega))];rw[Zt (zEW (cap:=Tg) J (by omega) (by omega) (λv i U=> ?_) (λv=> ?_))]
  ·have N:=dM p.toNat _ o;rw[Zt (XU (by omega) (by omega) (by omega) (λa b=> ?_)),M]
   ·cases T:r==[45]with
    |true=> rw[Ca,zf,zY (by omega) (by omega),La rfl];congr 1;omega
    |false=>simp_all
   ·simp only
  ·simp_all
  ·grind
 unfold g9;by_cases q:p<0
 ·rw[Ga q,Ca,La q];have P:(if cj ((A.length:Int)+p)>0 then cj ((A.length:Int)+p)else 0)=((((A.length:Int)+p).toNat:Nat):Int):=by rw[zY (by omega) (by omega)];split<;>omega
  rw[P,zn (by grind),zf,Oa]
  grind
 ·rw[Ma q,Ba,Ka q,zf]
  grind
def EX{n:fb}(h:n.ok=true)(hl:n.txt.length<=40000):QZ n.txt=some n.val:=by
 obtain⟨sg,D,F,X⟩:=n;unfold fb.ok at h;simp only[Da]at h;obtain⟨⟨⟨u,hD⟩,ad⟩,hX⟩:=h;have Q:(F.getD []).all cm=true:=by
  cases F with
  |none=>rfl
  |some f=>grind
 have al:D++cH F≠[]:=by
  cases F with
  |none=>simp_all
  |some f=>simp[cH]
 have a:((D++cH F).all λb=>cm b||b==46)=true:=by
  rw[List.all_append,eY hD];cases F with
  |none=>rfl
  |some f=>rw[show cH (some f)=46::f from rfl,Yc,eY (show f.all cm=true from Q)];rfl
 have a6:sg.length+(D.length+((cH F).length+(dp X).length))<=40000:=by
  have:(fb.txt ⟨sg,D,F,X⟩).length=sg.length+(D.length+((cH F).length+(dp X).length)):=by unfold fb.txt;simp only[Ea]
  omega
 have am:(F.getD []).length<=(cH F).length:=by
  cases F with
  |none=>grind
  |some f=>show f.length<=(46::f).length;grind
 have j: ∀c r,D++(cH F++dp X)=c::r->List.contains [43,45] c=false:=by
  rw[<-Ja];intro c r e;cases M:D++cH F with
  |nil=>grind
  |cons d q=>
   rw[M,Bb]at e;injection e with e1 _;subst e1;rw[M,Yc,Da,Pb]at a;rcases a.1 with hd|hd
   ·exact(dh hd).2.2.2.2
   grind
 have U: ∃b,cl (fb.txt ⟨sg,D,F,X⟩) 0=some b/\(((b.toNat:Int)==45)=(sg==[45])):=by
  unfold fb.txt;show∃b,cl (sg++(D++(cH F++dp X))) 0=some b/\_;rcases Gw u with rfl|rfl|rfl
  ·cases M:D++(cH F++dp X)with
   |nil=>simp_all
   |cons c r=>
    refine⟨c,rfl,?_⟩;have:=j c r M;refine Fa.2 (λe=> ?_);have:c=45:=Cf.1 (by grind)
    grind
  ·exact⟨43,rfl,rfl⟩
  ·exact⟨45,rfl,rfl⟩
 obtain⟨y1,hg,y⟩:=U;have t1:Tm (fb.txt ⟨sg,D,F,X⟩,[43,45])=some (D++(cH F++dp X)):=by unfold Tm;rw[zn (show(short ([43,45]:aE)&&Bi [43,45])=true by decide)];exact congrArg some (yZ u j)
 unfold QZ;simp only[za,hg,t1,Aa];have p:short (D++cH F)=true:=Ga (by grind);have l:Bi (D++cH F)=true:=D7 a;cases X with
 |none=>
  have t2:lm (D++(cH F++dp none),[101,69])=some (-1):=by show lm (D++(cH F++[]),[101,69])=_;rw[Ib];unfold lm;rw[zn (by simp only[p,l,Nb,ja];decide)];exact congrArg some (aT _ a)
  simp only[t2,Aa,show decide ((-1:Int)>=0)=false from rfl,Ba,zf];rw[show D++(cH F++dp none)=D++cH F by show D++(cH F++[])=_;grind];have:=Y7 (E:=0) hD Q (by omega) (by omega) (by omega) y1 sg y p;exact this
 |some ex=>
  obtain⟨e,s,x⟩:=ex;simp only[Da]at hX;obtain⟨⟨⟨he,hs⟩,a7⟩,O⟩:=hX;have A:e=101\/e=69:=by rw[Pb,Fb,Fb]at he;exact he
  have a8:(dp (some (e,s,x))).length=1+(s.length+x.length):=by show(e::(s++x)).length=_;rw[Ha,Ea];omega
  have m:D++(cH F++dp (some (e,s,x)))=(D++cH F)++e::(s++x):=by rw[<-Ja];rfl
  have J:Bi ((D++cH F)++e::(s++x))=true:=by
   refine uz (λb hb=> ?_);rcases Vd.1 hb with hb|hb
   ·exact zLU l b hb
   ·rcases ib.1 hb with hb|hb
    ·subst hb;rcases A with rfl|rfl<;>decide
    ·rcases Vd.1 hb with hb|hb
     ·rcases Gw hs with rfl|rfl|rfl
      ·cases hb
      ·simp_all
      simp_all
     ·have:=Wt (Ya.1 O b hb);omega
  have an:((D++cH F)++e::(s++x)).length<=40000:=by rw[Ea,Ha,Ea,Ea];omega
  have t2:lm (D++(cH F++dp (some (e,s,x))),[101,69])=some ((D++cH F).length:Int):=by rw[m];unfold lm;show ck (short ((D++cH F)++e::(s++x))&&short [101,69]&&Bi ((D++cH F)++e::(s++x))&&Bi [101,69]) _=_;rw[show short ((D++cH F)++e::(s++x))=true from Ga (by omega),J];exact congrArg some (H7 A (s++x) _ a)
  have t:List.drop (D++cH F).length ((D++cH F)++e::(s++x))=e::(s++x):=List.drop_left;have k:List.drop ((D++cH F).length+1) ((D++cH F)++e::(s++x))=s++x:=by rw[<-ae,t];rfl
  have ao:(D++cH F).length<=40000:=by rw[Ea];omega
  have V:cj (((D++cH F).length:Int)+1)=(((D++cH F).length+1:Nat):Int):=by rw[zY (by omega) (by omega)];omega
  simp only[t2,Aa];rw[Ga (show(((D++cH F).length:Nat):Int)>=0 by omega),Ca,V,m];have a9:(D++cH F).length+1<=((D++cH F)++e::(s++x)).length:=by rw[Ea (bs:=e::(s++x)),Ha];omega
  rw[zn (by grind),Oa,k];have L: ∀c r,x=c::r->List.contains [43,45] c=false:=by intro c r e;subst e;rw[Yc,Da]at O;exact(dh O.1).2.2.2.2
  have t4:Tm (s++x,[43,45])=some x:=by unfold Tm;rw[zn (show(short ([43,45]:aE)&&Bi [43,45])=true by decide)];exact congrArg some (yZ hs L)
  have ap:x.length<=40000:=by omega
  have aq:maxLen=9223372036854775807:=rfl;simp only[t4,Aa];rw[zn (Ga (by omega))];have ab:=Vm 1048576 x 0 (Yb _);rw[Zt (zEW (cap:=1048576) O (by omega) (by omega) (λv i hi=> ?_) (λv=> ?_))]
  ·have W: ∃Y,cl ((D++cH F)++e::(s++x)) (((D++cH F).length+1:Nat):Int)=some Y/\(((Y.toNat:Int)==45)=(s==[45])):=by
    have ar: ∀(b:UInt8) (r:aE),s++x=b::r->cl ((D++cH F)++e::(s++x)) (((D++cH F).length+1:Nat):Int)=some b:=by
     intro b r e1;unfold cl;have:((D++cH F)++e::(s++x))[(D++cH F).length+1]? =some b:=by rw[Ei (by omega),show(D++cH F).length+1 - (D++cH F).length=1 by omega,Kg,e1];rfl
     rw[Oa,this,Ga (by omega)];rfl
    rcases Gw hs with rfl|rfl|rfl
    ·cases Z:x with
     |nil=>grind
     |cons c r=>
      refine⟨c,by grind,?_⟩;have:=L c r Z;refine Fa.2 (λe=> ?_);have aw:c=45:=Cf.1 (by grind)
      grind
    ·grind
    ·grind
   obtain⟨Y,h8,a3⟩:=W;simp only[h8,Aa];rw[a3];have hj:(bif s==[45]then(some (LX.out ((D++cH F)++e::(s++x),3,cj (0 - ((ej 1048576 0 x:Nat):Int)))):Option (LX (aE×Int×Int) (LX (aE×Int) Int)))else some (LX.out ((D++cH F)++e::(s++x),3,((ej 1048576 0 x:Nat):Int))))
     =some (LX.out ((D++cH F)++e::(s++x),3,expV (some (e,s,x)))):=by
    unfold expV;simp only;cases s==[45]with
    |true=>rw[Ca,La rfl,zY (by omega) (by omega)];simp
    |false=>grind
   have b3:expV (some (e,s,x))<=1048576/\ -1048576<=expV (some (e,s,x)):=by unfold expV;simp only;split<;>omega
   refine(congrArg (λo=>zK (zK o _) _) hj).trans ?_;simp only[zf];rw[show decide ((((D++cH F).length:Nat):Int)<=((((D++cH F)++e::(s++x)).length:Nat):Int))=true from Ga (by omega),zn (by rfl)];simp only[zf,Oa,List.take_left];rw[zY (by omega) (by omega)];exact Y7 (E:=expV (some (e,s,x))) hD Q (by omega) (by omega) (by omega) y1 sg y p
  ·simp_all
  ·grind
def Jz{n:Nat}(h:n<16):Q4 (fv n)=true/\i0 (fv n)=n/\(fv n==10)=false/\cM (fv n)=true:=by
 have: ∀n:Nat,n<16->Q4 (fv n)=true/\i0 (fv n)=n/\(fv n==10)=false/\cM (fv n)=true:=by decide+kernel
 exact this n h
def bG{k n:Nat}{c:UInt8}{r:aE}(h:Q4 c=true):hexes (k+1) n (c::r)=hexes k (16*n+i0 c) r:=by rw[hexes,La h]
def G5{n:Nat}(h:n<256)(R:aE):hexes 6 0 (j0 n++32::R)=(n,32::R):=by
 unfold j0;by_cases c:n<16
 ·obtain⟨a,b,_⟩:=Jz c;rw[La c,Jd,bG a,b,Hz _ _ (32::R) (show Q4 32=false by decide)];simp
 ·obtain⟨a,b,_⟩:=Jz (show n / 16<16 by omega);obtain⟨e,d,_⟩:=Jz (show n%16<16 by omega);rw[Ka c,Bb,Jd,bG a,bG e,b,d,Hz _ _ (32::R) (show Q4 32=false by decide)]
  grind
def EN{n:Nat}(h:n<256)(R:aE): ∃d t,j0 n++R=d::t/\Q4 d=true/\(d==10)=false:=by
 unfold j0;by_cases c:n<16
 ·obtain⟨a,_,b,_⟩:=Jz c;simp_all
 ·obtain⟨a,_,b,_⟩:=Jz (show n / 16<16 by omega);exact⟨_,_,by rw[Ka c];rfl,a,b⟩
def zCY{c:UInt8}(a:c≠0)(h:c.toNat<128):Dh c.toNat=[c]:=by
 have b:c.toNat≠0:=by intro e;exact a (Cf.1 e)
 unfold Dh;rw[Ka (by omega),La h,Ae]
def zBZ{r:aE}(h:cF (92::r)=true):zJ (92::r)=((zR r).1++(zJ (zR r).2).1,(zJ (zR r).2).2):=by rw[Zo,Ka (by decide),La h]
def zF3{c:UInt8}(h0:c≠0)(h:c.toNat<128)(R:aE):zJ (ew c++R)=(c::(zJ R).1,(zJ R).2):=by
 unfold ew;cases j:decide (32<c.toNat)&&decide (c.toNat<127)&& !cm c&& !alB c with
 |true=>
  rw[Ca];have f:Q4 c=false/\(c==10)=false:=by
   have: ∀n:Nat,n<256->(decide (32<(UInt8.ofNat n).toNat)&&decide ((UInt8.ofNat n).toNat<127)&& !cm (UInt8.ofNat n)&& !alB (UInt8.ofNat n))=true->Q4 (UInt8.ofNat n)=false/\(UInt8.ofNat n==10)=false:=by decide+kernel
   have:=this c.toNat (Kb c);rw[Ae]at this;exact this j
  have a:zR (c::R)=([c],R):=by show(if Q4 c then _ else _)=_;rw[Ka (by rw[f.1];decide)]
  rw[show [92,c]++R=92::c::R from rfl,zBZ (by unfold cF;rw[show cr (92::c::R) 0=92 from rfl,show cr (92::c::R) 1=c from rfl,f.2];rfl),a];rfl
 |false=>
  rw[Ba,Bb,Ja];obtain⟨d,t,e,k,b⟩:=EN (n:=c.toNat) (Kb c) ([32]++R);have a:zR (j0 c.toNat++([32]++R))=([c],R):=by have i:=G5 (n:=c.toNat) (Kb c) R;rw[show(32::R:aE)=[32]++R from rfl,e]at i;rw[e];show(if Q4 d then(Dh (hexes 6 0 (d::t)).1,js (hexes 6 0 (d::t)).2)else _)=_;rw[La k,i,zCY h0 h];rfl
  rw[zBZ (by rw[e];unfold cF;rw[show cr (92::d::t) 0=92 from rfl,show cr (92::d::t) 1=d from rfl,b];rfl),a];rfl
def UT{c:UInt8}(h: ¬c.toNat<128):cM c=true/\cm c=false:=by
 have: ∀n:Nat,n<256-> ¬(UInt8.ofNat n).toNat<128->cM (UInt8.ofNat n)=true/\cm (UInt8.ofNat n)=false:=by decide+kernel
 have:=this c.toNat (Kb c);simp_all
def M3{dash:Bool}{k:Nat}{c:UInt8}(e:c≠0)(f:dash=true->c.toNat<128)(R:aE):zJ (i9 dash k c++R)=(c::(zJ R).1,(zJ R).2):=by
 unfold i9;cases d:cM c&&(k==0|| !cm c)&& !dash with
 |true=> rw[Da,Da]at d;rw[Ca,Jd,Zo,La d.1.1]
 |false=>
  rw[Ba];refine zF3 e ?_ R;by_cases h:c.toNat<128
  ·exact h
  ·obtain⟨a,b⟩:=UT h
   grind
def zF2{dash:Bool}: ∀(k:Nat) (l:aE),ZL l=true->(dash=true-> ∀c∈l,c.toNat<128)->zJ (cJ dash k l)=(l,[])
 |_,[],_,_=>by rw[cJ,QW]
 |k,c::r,h,a=>by unfold ZL at h;rw[Yc,Da]at h;rw[cJ,M3 (by grind) (λe=>a e c (Ub ..)),zF2 (k - 1) r h.2 (λe x b=>a e x (Vb _ b))]
def zKM{l:aE}(h:ZL l=true):zJ (ZA l)=(l,[]):=by refine zF2 _ _ h (λe c a=> ?_);simp_all
def TF{dash:Bool}{k:Nat}(hk:0<k)(c:UInt8)(R:aE): ∃d t,i9 dash k c++R=d::t/\(d=92/\cF (d::t)=true\/(d=c/\dash=false/\cM d=true/\cm d=false/\t=R)):=by
 have b:(k==0)=false:=by rw[Fa];omega
 unfold i9;rw[b,Ac];cases a:cM c&& !cm c&& !dash with
 |true=> rw[Da,Da,je,je]at a;exact⟨c,R,rfl, .inr ⟨rfl,a.2,a.1.1,a.1.2,rfl⟩⟩
 |false=>
  rw[Ba];unfold ew;cases f:decide (32<c.toNat)&&decide (c.toNat<127)&& !cm c&& !alB c with
  |true=>
   refine⟨92,c::R,rfl, .inl ⟨rfl,?_⟩⟩;have:c≠10:=by rintro rfl;revert f;decide
   unfold cF;rw[show cr (92::c::R) 1=c from rfl,Fa.2 this];rfl
  |false=> obtain⟨d,t,e,j,i⟩:=EN (n:=c.toNat) (Kb c) ([32]++R);refine⟨92,_,by rw[Ba,Bb,Ja], .inl ⟨rfl,?_⟩⟩;rw[e];unfold cF;rw[show cr (92::d::t) 1=d from rfl,i];rfl
def zBR{d:UInt8}(h:cM d=true)(h2:cm d=false):fa d=true\/d=45:=by
 unfold cM at h
 grind
def HZ{d:UInt8}{t:aE}(a:d=92)(h:cF (d::t)=true):d6 (d::t)=true:=by subst a;unfold d6;rw[show cr (92::t) 0=92 from rfl,Ka (by decide),h,Be]
def Co{l:aE}(h:l≠[]):d6 (ZA l)=true:=by
 cases l with
 |nil=>grind
 |cons c r=>
  unfold ZA cJ;obtain⟨d,t,e,u⟩:=TF (dash:=(c::r:aE)==[45]) (k:=qC (c::r)) (by unfold qC;split<;>omega) c (cJ ((c::r:aE)==[45]) (qC (c::r) - 1) r);rw[e];rcases u with⟨q,j⟩|⟨rfl,j,x,v,o⟩
  ·exact HZ q j
  ·rcases zBR x v with p|rfl
   ·by_cases m:d=45
    ·subst m;exact absurd p (by decide)
    ·unfold d6;rw[show cr (d::t) 0=d from rfl,Ka (by grind),p,Uc]
   ·have C:r≠[]:=by rintro rfl;exact absurd j (by decide)
    cases r with
    |nil=>grind
    |cons f g=>
     have A:qC (45::f::g)=2:=rfl;rw[A]at o;obtain⟨a,b,y,n⟩:=TF (dash:=(45::f::g:aE)==[45]) (k:=2 - 1) (by omega) f (cJ ((45::f::g:aE)==[45]) (2 - 1 - 1) g);have z:t=a::b:=by rw[o,cJ,y]
     rw[z];unfold d6;rw[show cr (45::a::b) 0=45 from rfl,La (show((45:UInt8)==45)=true from rfl),show cr (45::a::b) 1=a from rfl,show(45::a::b:aE).drop 1=a::b from rfl];rcases n with⟨_,B⟩|⟨_,_,s,w,_⟩
     ·grind
     ·rcases zBR s w with i|rfl
      ·rw[i];rfl
      ·simp
def hdB(b:UInt8):Bool:=b==45||fa b||b==92
def Yy{q:aE}(h:d6 q=true):hdB (cr q 0)=true:=by
 unfold d6 at h;unfold hdB;cases a:cr q 0==45 with
 |true=>rfl
 |false=>
  rw[a,Ka (by decide),Pb]at h;rcases h with h|h
  ·rw[h];rfl
  ·unfold cF at h
   grind
def YD{b:UInt8}(h:hdB b=true):dj b=false/\(b==34)=false/\(b==39)=false/\(b==35)=false/\(b==64)=false/\(b==47)=false/\(b==60)=false/\(b==43)=false/\(b==46)=false/\cm b=false/\b≠0:=by
 have: ∀n:Nat,n<256->hdB (UInt8.ofNat n)=true->dj (UInt8.ofNat n)=false/\(UInt8.ofNat n==34)=false/\(UInt8.ofNat n==39)=false/\(UInt8.ofNat n==35)=false/\(UInt8.ofNat n==64)=false/\(UInt8.ofNat n==47)=false/\(UInt8.ofNat n==60)=false/\(UInt8.ofNat n==43)=false/\(UInt8.ofNat n==46)=false/\cm (UInt8.ofNat n)=false/\UInt8.ofNat n≠0:=by decide+kernel
 have:=this b.toNat (Kb b);simp_all
def FY{q:aE}(h:d6 q=true):iS q=false:=by
 obtain⟨_,_,_,_,_,_,_,a,j,f,_⟩:=YD (Yy h);unfold iS cq Hg;rw[a,Ac];cases b:cr q 0==45 with
 |false=>
  rw[Ka (by decide)];unfold fd
  grind
 |true=>
  rw[La rfl];unfold d6 at h;rw[b,La rfl]at h;have i:hdB (cr q 1)=true:=by
   unfold hdB;cases e:fa (cr q 1)with
   |true=>simp
   |false=>
    cases g:cr q 1==45 with
    |true=>rfl
    |false=> rw[e,g,Ac,Ac]at h;unfold cF at h;rw[Da,Fj]at h;rw[h.1];rfl
  obtain⟨_,_,_,_,_,_,_,_,d,c,_⟩:=YD i;unfold fd;rw[Fj,d,Ka (by decide),Fj,c]
def RY{s r:aE}:(decide ((0:Int)<=(cG s r:Int))&&decide ((cG s r:Int)<=(s.length:Int)))=true:=by
 have:=mi s r
 grind
def VR{s r:aE}(a:r<:+s):List.drop ((cG s r:Int)).toNat s=r:=by rw[Oa,Rt a]
def iQ{a b:UInt8}{m t:aE}(h:(b==a)=false):(a::m).isPrefixOf (b::t)=false:=by
 grind
def zQ2{a:UInt8}{m q:aE}(c:a≠0)(h:(cr q 0==a)=false):(a::m).isPrefixOf q=false:=by
 cases q with
 |nil=>rfl
 |cons b t=>exact iQ h
end Go.Lv.VT
