import Derived.Test.YtiidaccdmolmkaaGreatDoorXk
set_option linter.all false
namespace Go.Lv.VT
set_option maxRecDepth 100000
def Mt {R:Type}{step:aE×Int->Option (LO (aE×Int) aE R)}{k:aE->Option R}{sep:Nat->aE}{L:List aE}{acc:aE}(hn:L.length<=co)(hb:acc.length+(fL sep L).length<=eI)
  (h1: ∀(i:Nat) (a:aE) (hi:i<L.length),a.length+((bif i==0 then []else sep i)++L[i]).length<=eI->step (a,(i:Int))=some (.again (a++((bif i==0 then []else sep i)++L[i]),cj ((i:Int)+1))))
  (h2: ∀a,step (a,(L.length:Int))=some (.out a)):zM step (acc,0) k=k (acc++fL sep L):=by
 refine M8 L.length (λi=>(acc++eN sep L i,(i:Int))) _ (by show _=(acc++eN sep L 0,((0:Nat):Int));rw[eN,Ib];rfl) (λi hi=> ?_) (h2 _);have hm:=JL sep L (n:=L.length) (i:=i+1) (by omega);have e:eN sep L (i+1)=eN sep L i++((bif i==0 then []else sep i)++L[i]):=by rw[eN,Lc,Na hi];rfl
 unfold fL at hb;show step (acc++eN sep L i,(i:Int))=_;rw[h1 i _ hi (by grind),zD hi hn,e,Ja]
def ZQ{a b:Nat}(h:a+b<=eI):zI a b=true:=Zc.2 (by have:eI=1000000000:=rfl;omega)
def zSi(i:Nat):decide ((i:Int)>0)= !(i==0):=by
 grind
def oD{R:Type}{i:Nat}{s a:aE}(h:a.length+(bif i==0 then []else s:aE).length<=eI):
  (bif decide ((i:Int)>0)then ck (zI a.length s.length) (some (.out (a++s)))else some (.out a):Option (LX aE R))=some (.out (a++(bif i==0 then []else s))):=by
 rw[zSi];cases hi:i==0 with
 |true=>grind
 |false=> rw[hi,Ba]at h;simp only[Va,Ca,Ba,zn (ZQ h)]
def oM{n:Nat}(hn:n<=1000000000):qY (n:Int)=some (Lib.decDigits n):=by
 refine ZB (λx:Int=>x.toNat) (λx=>0<=x/\x<=1000000000) (λx=>Lib.decDigits x.toNat) (λS x a hS=> ?_) ⟨by omega,by omega⟩;obtain⟨m,rfl⟩: ∃m:Nat,x=(m:Int):=⟨x.toNat,by omega⟩;unfold pI;have hb:qj (cN (cj (48+Int.tmod (m:Int) 10)))=some (ie (m%10)):=by rw[show Int.tmod (m:Int) 10=((m%10:Nat):Int)from rfl,PQ _ (Vf _ (by omega)),Z5 (by omega)];rfl
 rw[Oa,Lib.decDigits,hb];simp only[za,Aa];by_cases h:m<10
 ·rw[Ga (by omega),Ca,dif_pos h,xe h];rfl
 ·have e1:cj (Int.tdiv (m:Int) 10)=((m / 10:Nat):Int):=by rw[show Int.tdiv (m:Int) 10=((m / 10:Nat):Int)from rfl,zY (by omega) (by omega)]
  rw[Ma (by omega),Ba,dif_neg h,e1,hS _ ⟨by omega,by omega⟩ (by omega),Oa];simp only[Aa];rw[zn (Zc.2 (by have:=Kk (u:=m / 10) (by omega);grind))];rfl
def zF1{n:Int}(h1: -1000000000<=n)(h2:n<=1000000000):Gy n=some (Lib.itoa n):=by
 unfold Gy Lib.itoa;by_cases h:n<0
 ·have e:cj (0 - n)=((n.natAbs:Nat):Int):=by rw[zY (by omega) (by omega)];omega
  have hl:=Kk (u:=n.natAbs) (by omega);rw[Ga h,Ca,La h,e,oM (by omega)];simp only[za,Aa];rw[zn (ZQ (by have:eI=1000000000:=rfl;grind))];rfl
 ·obtain⟨m,rfl⟩: ∃m:Nat,n=(m:Int):=⟨n.toNat,by omega⟩;rw[Ma h,Ba,Ka h,oM (by omega)];rfl
def zrk{a:fj}(h:gS a=true):bI a=some (anbW a):=by
 have c:eI=1000000000:=rfl;obtain⟨⟨a1,a2⟩,b1,b2⟩:=bT h;have i:=Xv a1 a2;have j:=Xv b1 b2;unfold bI anbW;rw[zF1 a1 a2,zF1 b1 b2];simp only[za,Aa];cases h0:a.a==0 with
 |true=>rfl
 |false=>
  simp only[Ba];have d: ∀(k:aE->Option aE),zK (X:=aE) (bif a.a==1 then some (.out [])else some (.out (Lib.itoa a.a)):Option (LX aE aE)) (λe=>zK (X:=aE) (bif a.a==(-1)then some (.out [45])else some (.out e)) k)=k (bif a.a==1 then []else bif a.a== -1 then [45]else Lib.itoa a.a):=by
   intro k;cases h1:a.a==1 with
   |true=> simp_all
   |false=>cases a.a== -1<;>rfl
  refine(d _).trans ?_;have hl:(bif a.a==1 then []else bif a.a== -1 then [45]else Lib.itoa a.a:aE).length<=21:=by cases a.a==1<;>cases a.a== -1<;>simp only[Ca,Ba,Cb,Ha]<;>omega
  generalize (bif a.a==1 then []else bif a.a== -1 then [45]else Lib.itoa a.a:aE)=w at hl;rw[zn (ZQ (by grind))];by_cases hp:a.b>0
  ·obtain⟨m,hm⟩: ∃m:Nat,a.b=(m:Int):=⟨a.b.toNat,by omega⟩;have f:qY a.b=some (Lib.itoa a.b):=by rw[hm,oM (by omega)];unfold Lib.itoa;rw[Ka (by omega)];rfl
   rw[Ga hp,Ca,Ca,f];simp only[Aa];rw[zn (ZQ (by grind)),zn (ZQ (by grind))];simp
  ·rw[Ma hp,Ba,Ba];cases decide (a.b<0)with
   |false=>simp
   |true=> simp only[Ca];rw[zn (ZQ (by grind))];simp
def mark_eq: ∀n:Nat,n<5->iw (n:Int)=some (Pn.getD n []):=by decide+kernel
def zKH{l:aE}(h:ZL l=true)(h1:l.length<=400):Ep ⟨5,l,0,[],false⟩=some (lO l):=
 Bz (by unfold Eg;rw[h];rfl) (show l.length<=5000 by omega) (by simp)
def LA{l:aE}(h:l.length<=64):ZV (l,false)=some (ZA l):=zFC h
def zQO: ∀n:Nat,n<7->cl ([[],[61],[126,61],[124,61],[94,61],[36,61],[42,61]]:List aE) (n:Int)=some (opsW.getD n []):=Y0
def X0: ∀n:Nat,n<7->(opsW.getD n []).length<=2:=by decide
def zLW{x:zH}(hf:di x=true)(k3:x.u=3)(h0:0<=x.op):nI x=some (attW x):=by
 have f:eI=1000000000:=rfl;unfold di at hf;rw[k3,show((3:Int)==1||(3:Int)==2)=false from rfl,Ba,show((3:Int)==3)=true from rfl,Ca]at hf;simp only[Da,Pb,aa]at hf;obtain⟨hs,ho,⟨a,b⟩,hp,_⟩:=hf;unfold aj at hs;rw[Da]at hs;obtain⟨i,_,_⟩:=ll hs.1;have j:=Wv x.q;have k:(lO x.i).length<=1602:=by have:=Am dl x.i;unfold lO;simp only[Ha,Ea,Cb];omega
 unfold nI attW;rw[LA i];simp only[za,Aa];rw[zn (ZQ (by grind))];have e1:(bif x.op != 0 then(cl ([[],[61],[126,61],[124,61],[94,61],[36,61],[42,61]]:List aE) x.op).bind λc=>(Ep (⟨5,x.i,0,[],false⟩:ze)).bind λd=>ck (zI c.length d.length)<|
    ck (zI (([91]:aE)++ZA x.q).length (c++d).length)<|some (.out (([91]:aE)++ZA x.q++(c++d)))else some (.out (([91]:aE)++ZA x.q)):Option (LX aE aE))=some (.out (([91]:aE)++ZA x.q++(bif x.op==0 then []else opsW.getD x.op.toNat []++lO x.i))):=by
  cases e:x.op==0 with
  |true=>
   grind
  |false=>
   have:(x.op != 0)=true:=by rw[bne,e];rfl
   obtain⟨n,hn⟩: ∃n:Nat,x.op=n:=⟨x.op.toNat,by omega⟩;have lo:=X0 n (by omega);rw[this,Ca,Ba,hn,zQO n (by omega),Aa,zKH a b,Aa,zn (ZQ (by omega)),zn (ZQ (by grind)),Oa]
 have l1:(bif x.op==0 then []else opsW.getD x.op.toNat []++lO x.i:aE).length<=1604:=by
  have lo:=X0 x.op.toNat (by omega);cases x.op==0
  ·grind
  ·grind
 have e2: ∀w:aE,w.length<=5000->(bif x.ld then ck (zI w.length ([32,105]:aE).length)<|some (.out (w++([32,105]:aE)))else some (.out w):Option (LX aE aE))=some (.out (w++(bif x.ld then [32,105]else []))):=by
  intro w l;cases x.ld with
  |true=>rw[Ca,zn (ZQ (by grind))];rfl
  |false=>grind
 have l2:(bif x.ld then [32,105]else []:aE).length<=2:=by cases x.ld<;>decide
 rw[e1,zf,e2 _ (by grind),zf,zn (ZQ (by grind))];simp only[Ja,Bb,Lb]
def zNB: ∀n:Nat,n<11->cl ([[58,108,105,110,107],[58,118,105,115,105,116,101,100],[58,97,110,121,45,108,105,110,107],[58,114,111,111,116],[58,101,109,112,116,121],[58,110,116,104,45,99,104,105,108,100,40],[58,110,116,104,45,108,97,115,116,45,99,104,105,108,100,40],[58,105,115,40],[58,119,104,101,114,101,40],[58,110,111,116,40],[58,104,97,115,40]]:List aE) (cN ((4+n:Int) - 4))=some (58::(pseW.getD n []++(bif decide ((4+n:Int)<=8)then []else [40]))):=by decide+kernel
def zQ4: ∀n:Nat,n<11->(pseW.getD n []).length<=20:=by decide
def zNV{S:List zm->Option aE}{x:zH}(hv:okX x)(hN:zx (zT x)<=co)(hS:S x.w=some (fg x.w)):BK S x=some (eJ x):=by
 have s:co=4194304:=rfl;have t:eI=1000000000:=rfl;obtain⟨hf,hc,hn,h0⟩:=ML hv;have L:=qW x;have v:=rD hc;have y:di x=true:=hf;have f:(⟨x.u,x.q,x.op,x.i,x.ld,x.lc,x.of_,x.w⟩:zH)=x:=mq x;rw[mD];unfold di at hf;unfold hdsW BK;rw[f];cases k1:x.u==1 with
 |true=> rw[k1,Uc,Ca,Da]at hf;have:=(ll hf.1).1;have:=Wv x.q;simp only[Ca,za];rw[LA (ll hf.1).1,Aa,zn (ZQ (by grind))];rfl
 |false=>
 cases k2:x.u==2 with
 |true=> rw[k1,k2,Be,Ca,Da]at hf;have:=(ll hf.1).1;have:=Wv x.q;simp only[Ca,Ba,za];rw[LA (ll hf.1).1,Aa,zn (ZQ (by grind))];rfl
 |false=>
 cases k3:x.u==3 with
 |true=> simp only[Ca,Ba,za];rw[zLW y (eq_of_beq k3) h0];rfl
 |false=>
  rw[k1,k2,k3,Dc,Ba,Ba]at hf;simp only[Ba,za];have hk:(4<=x.u/\x.u<=14)/\((x.u=9\/x.u=10)/\gS x.lc=true\/x.u≠9/\x.u≠10/\x.lc.b=0):=by
   by_cases A:x.u=9
   ·grind
   ·by_cases c:x.u=10
    ·grind
    ·rw[Fa.2 A,Fa.2 c,Dc,Ba]at hf;unfold Yr anb0 at hf
     grind
  obtain⟨⟨M,E⟩,hk⟩:=hk;have i:Cs x=Rm x:=by
   unfold Cs Rm;rcases hk with⟨e|e,_⟩|⟨e9,e10,e⟩
   ·grind
   ·grind
   ·grind
  rw[OW,Aa,i];cases j:Rm x with
  |true=>
   have F:x.lc.b=1:=by unfold Rm at j;cases d:x.of_<;>cases ha:x.lc.a==0<;>cases k:x.lc.b==1<;>rw[d,ha,k]at j<;>first|cases j|grind
   rw[Ca,Ca];rcases hk with⟨e|e,_⟩|⟨_,_,e⟩
   ·rw[e,IE.1];rfl
   ·rw[e,IE.2];rfl
   ·omega
  |false=>
   rw[Ba,Ba];obtain⟨n,l⟩: ∃n:Nat,x.u=4+n:=⟨(x.u - 4).toNat,by omega⟩;have g:=zNB n (by omega);rw[<-l]at g;rw[g,show(x.u - 4).toNat=n by omega,Aa];have hp:=zQ4 n (by omega);generalize pseW.getD n []=p at hp;by_cases J:x.u<=8
   ·grind
   ·simp only[Ma J,Ba];have m: ∀a:aE,a.length<=200->((S x.w).bind λo=>ck (zI a.length o.length)<|ck (zI (a++o).length ([41]:aE).length)<|some (a++o++([41]:aE)))=some (a++(fg x.w++[41])):=by intro a ha;rw[hS,Aa,zn (ZQ (by omega)),zn (ZQ (by grind)),Ja]
    by_cases c:x.u<=10
    ·have u:gS x.lc=true:=by
      rcases hk with⟨_,h⟩|⟨h1,h2,_⟩
      ·exact h
      ·omega
     have hl:=zEQ u;have r:(bif x.u==9 then true else x.u==10)=true:=by
      rcases hk with⟨e|e,_⟩|⟨h1,h2,_⟩
      ·rw[e];rfl
      ·rw[e];rfl
      ·omega
     simp only[r,Ga c,Ca];rw[zrk u,Aa,zn (ZQ (by grind))];cases d:x.of_ with
     |true=> rw[Ca,Ca,zn (ZQ (by grind)),zf,m _ (by grind)];simp only[ofW,Ja,Bb,Lb]
     |false=>
      rw[Ba,Ba,zf,m _ (by grind)]
      grind
    ·have r:(bif x.u==9 then true else x.u==10)=false:=by rw[Fa.2 (by omega),Fa.2 (by omega)];rfl
     simp only[r,Ma c,Ba];rw[zf,m _ (by grind)]
     grind
def zM2{R:Type}{n:Int}{a:aE}(h0:n<=4)(h:a.length+(Uh n).length<=eI):
  (bif decide (n>1)then(iw n).bind λb=>ck (decide (1<=(b.length:Int)))<|ck (zI a.length (List.drop 1 b).length)<|some (.out (a++List.drop 1 b))else some (.out a):Option (LX aE R))=some (.out (a++Uh n)):=by
 unfold Uh at h ⊢;by_cases h1:n>1
 ·obtain⟨m,rfl⟩: ∃m:Nat,n=m:=⟨n.toNat,by omega⟩;have hp: ∀n:Nat,n<5->n>1->decide (1<=((Pn.getD n []).length:Int))=true:=by decide
  rw[Ga h1,Ca,Oa]at h;rw[Ga h1,Ca,Ca,mark_eq m (by omega),Aa,zn (hp m (by omega) (by omega)),Oa,zn (ZQ h)]
 grind
def zRk{R:Type}{t a:aE}(ht:tagS t=true)(h:a.length+(gg t).length<=eI):
  (bif t==[42]then ck (zI a.length ([42]:aE).length)<|some (.out (a++([42]:aE)))else(ZV (t,false)).bind λb=>ck (zI a.length b.length)<|some (.out (a++b)):Option (LX aE R))=some (.out (a++gg t)):=by
 unfold gg at h ⊢;cases c:t==[42]with
 |true=>rw[c,Ca]at h;rw[Ca,Ca,zn (ZQ h)]
 |false=>
  rw[c,Ba]at h;have hl:t.length<=64:=by
   unfold tagS at ht;simp only[Pb]at ht;rcases ht with ht|ht|ht
   ·grind
   ·grind
   ·unfold aj at ht;rw[Da]at ht;exact(ll ht.1).1
  rw[Ba,Ba,LA hl,Aa,zn (ZQ h)]
def zMh{R:Type}{i:Nat}{combs:List UInt8}{a:aE}(hc: ∀b∈combs,b.toNat<=4)(hi:i<=combs.length)(k:combs.length<=co)(h:a.length+(bif i==0 then []else eM (combs.getD (i - 1) 0):aE).length<=eI):
  (bif decide ((i:Int)>0)then(cl combs (cj ((i:Int) - 1))).bind λd=>(iw (d.toNat:Int)).bind λc=>ck (zI a.length c.length)<|some (.out (a++c))else some (.out a):Option (LX aE R))=
   some (.out (a++bif i==0 then []else eM (combs.getD (i - 1) 0))):=by
 have f:co=4194304:=rfl;rcases De i with rfl|hp
 ·grind
 ·have e:(i==0)=false:=Fa.2 (by omega);have hl:i - 1<combs.length:=by omega
  have j:combs.getD (i - 1) 0=combs[i - 1]:=by rw[Lc,Na hl];rfl
  rw[e,Ba,j]at h ⊢;have hb:=hc _ (Ia hl);unfold eM at h ⊢;rw[Ga (show(i:Int)>0 by omega),Ca,zY (by omega) (by omega),show(i:Int) - 1=((i - 1:Nat):Int) by omega,zF hl,Aa,mark_eq _ (by omega),Aa,zn (ZQ h)]
def zRe{l:List zm}(h:zL zk l<=co)(hv: ∀c∈l,lR c):ZY l=some (fg l):=by
 refine ZB (λl=>zL zk l) (λl=>zL zk l<=co/\ ∀c∈l,lR c) fg (λS l hl hS=> ?_) ⟨h,hv⟩;clear h hv;have M:co=4194304:=rfl;have O:eI=1000000000:=rfl;obtain⟨hz,hv⟩:=hl;have Q:=Z4 qZ l;have V:=rD hv;unfold kJ;refine(Mt (sep:=io) (L:=l.map mj) (acc:=[]) (by grind) (by show 0+(fg l).length<=eI;omega) (λi a hi j=> ?_) (λa=> ?_)).trans rfl
 ·have k:i<l.length:=by rwa [Xa]at hi
  have hm:=Z7 (f:=zk) (Ia k);obtain⟨c1,c2,c3,c4,U⟩:=PE (hv _ (Ia k));have v:=Qe l[i];rw[Md]at j ⊢;rw[fE]at j ⊢;simp only[zN k,Ca,zF k,za,Aa];generalize l[i]=c at hm c1 c2 c3 c4 U v j;rw[Ea,Ea]at j;have b1:a.length+(bif i==0 then []else([44,32]:aE):aE).length<=eI:=by have:(bif i==0 then []else io i:aE).length=(bif i==0 then []else([44,32]:aE):aE).length:=rfl;omega
  rw[oD b1,zf];have x:(a++bif i==0 then []else([44,32]:aE)).length+((Uh c.lf).length+(fL (λi=>eM (c.kj.getD (i - 1) 0)) (c.kc.map hJ)).length)<=eI:=by rw[Ea];have:(bif i==0 then []else io i:aE).length=(bif i==0 then []else([44,32]:aE):aE).length:=rfl;omega
  rw[show(a++((bif i==0 then []else io i)++(Uh c.lf++fL (λi=>eM (c.kj.getD (i - 1) 0)) (c.kc.map hJ))))=(a++bif i==0 then []else([44,32]:aE))++Uh c.lf++fL (λi=>eM (c.kj.getD (i - 1) 0)) (c.kc.map hJ) by
   simp only[Ja];rfl]
  generalize (a++bif i==0 then []else([44,32]:aE))=a2 at x;rw[zM2 c1 (by omega),zf];have r:(a2++Uh c.lf).length+(fL (λi=>eM (c.kj.getD (i - 1) 0)) (c.kc.map hJ)).length<=eI:=by rw[Ea];omega
  generalize a2++Uh c.lf=a3 at r;have W:=Z4 QP c.kc;refine(Mt (sep:=λi=>eM (c.kj.getD (i - 1) 0)) (L:=c.kc.map hJ) (by grind) r (λe b y m=> ?_) (λb=> ?_))
  ·have n:e<c.kc.length:=by rwa [Xa]at y
   have A:=Z7 (f:=z8) (Ia n);obtain⟨p1,p2,Y,p4⟩:=NL (U _ (Ia n));have E:=qE c.kc[e];rw[Md]at m ⊢;rw[bE]at m ⊢;simp only[zN n,Ca,zF n,Aa];generalize c.kc[e]=q at A p1 p2 Y p4 E m;rw[Ea,Ea]at m;rw[zMh c4 (by omega) (by omega) (by omega),zf];rw[show(b++((bif e==0 then []else eM (c.kj.getD (e - 1) 0))++(gg q.lg++fL (λ_=>[]) (q.ka.map eJ))))=(b++bif e==0 then []else eM (c.kj.getD (e - 1) 0))++gg q.lg++fL (λ_=>[]) (q.ka.map eJ) by grind];have F:(b++bif e==0 then []else eM (c.kj.getD (e - 1) 0)).length+((gg q.lg).length+(fL (λ_=>[]) (q.ka.map eJ)).length)<=eI:=by rw[Ea];omega
   generalize (b++bif e==0 then []else eM (c.kj.getD (e - 1) 0))=b2 at F;rw[zRk p1 (by omega),zf];have s:(b2++gg q.lg).length+(fL (λ_=>[]) (q.ka.map eJ)).length<=eI:=by rw[Ea];omega
   generalize b2++gg q.lg=b3 at s;refine(Mt (sep:=λ_=>[]) (L:=q.ka.map eJ) (by grind) s (λt d J p=> ?_) (λd=> ?_))
   ·have o:t<q.ka.length:=by rwa [Xa]at J
    have Z:=Z7 (f:=zT) (Ia o);have a6:=qW q.ka[t];have u:=p4 _ (Ia o);rw[Md]at p ⊢;have e0:(bif t==0 then []else([]:aE))=[]:=by cases t==0<;>rfl
    simp only[e0,Lb]at p ⊢;simp only[zN o,Ca,zF o,Aa,mq,zNV u (by omega) (hS q.ka[t].w ⟨by omega,(ML u).2.1⟩ (by omega))];rw[zn (ZQ p)]
   ·grind
  grind
 grind
end Go.Lv.VT

namespace Go.Lv
def Has{α:Type}(x:Option α)(Q:α->Prop):Prop:= ∃y,x=some y/\Q y
def LXq{X R:Type}(P:X->Prop)(Q:R->Prop):LX X R->Prop
 | .out x=>P x
 | .ret r=>Q r
def LOq{S X R:Type}(I:S->Prop)(P:X->Prop)(Q:R->Prop):LO S X R->Prop
 | .again s=>I s
 | .out x=>P x
 | .ret r=>Q r
section
variable {α β S X R:Type}
def Has.some{y:α}{Q:α->Prop}(h:Q y):Has (Option.some y) Q:=⟨y,rfl,h⟩
def Has.of{x:Option α}{y:α}{Q:α->Prop}(e:x=Option.some y)(h:Q y):Has x Q:=⟨y,e,h⟩
def Has.wk{x:Option α}{Q a:α->Prop}(h:Has x Q)(g: ∀y,Q y->a y):Has x a:=let⟨y,e,q⟩:=h;⟨y,e,g y q⟩
def Has.bind{x:Option α}{P:α->Prop}{f:α->Option β}{Q:β->Prop}(h:Has x P)(g: ∀y,P y->Has (f y) Q):Has (za x f) Q:=by obtain⟨y,rfl,p⟩:=h;exact g y p
def Has.eqb{x:Option α}{y:α}{f:α->Option β}{Q:β->Prop}(e:x=Option.some y)(g:Has (f y) Q):Has (za x f) Q:=by rw[e];exact g
def Has.bif{c:Bool}{a b:Option α}{Q:α->Prop}(h:c=true->Has a Q)(g:c=false->Has b Q):Has (bif c then a else b) Q:=by
 cases c
 ·exact g rfl
 ·exact h rfl
def Has.need{c:Bool}{a:Option α}{Q:α->Prop}(h:c=true)(g:Has a Q):Has (Lv.ck c a) Q:=by rw[h];exact g
def Has.cond{c:Bool}{a:Option α}{d:α}{Q:α->Prop}(h:c=true->Has a Q)(g:c=false->Q d):Has (zA c a d) Q:=by
 cases c
 ·exact⟨d,rfl,g rfl⟩
 ·exact h rfl
def Has.join{m:Option (LX X R)}{k:X->Option R}{P:X->Prop}{Q:R->Prop}(h:Has m (LXq P Q))(g: ∀x,P x->Has (k x) Q):Has (zK m k) Q:=by
 obtain⟨y,rfl,p⟩:=h;cases y with
 |out x=>exact g x p
 |ret r=>exact⟨r,rfl,p⟩
def Has.loop {step:S->Option (LO S X R)}{s:S}{k:X->Option R}(I:S->Prop)(b:S->Nat){P:X->Prop}{Q:R->Prop}(h0:I s)
  (h: ∀s,I s->Has (step s) (LOq (λa=>I a/\b a<b s) P Q)) (g: ∀x,P x->Has (k x) Q):Has (zM step s k) Q:=by
 have c: ∀(m:Nat) (s:S),b s<m->I s-> ∃n r,ZP step n s=Option.some r/\LXq P Q r:=by
  intro m
  induction m with
  |zero=>intro s h;omega
  |succ m d=>
   intro s hm hs;obtain⟨y,e,q⟩:=h s hs;cases y with
   |again a=> obtain⟨n,r,f,i⟩:=d a (by have:=q.2;omega) q.1;exact⟨n+1,r,by simp only[ZP,e];exact f,i⟩
   |out x=>exact⟨1, .out x,by simp only[ZP,e],q⟩
   |ret r=>exact⟨1, .ret r,by simp only[ZP,e],q⟩
 obtain⟨n,r,e,q⟩:=c _ s (Nat.lt_succ_self _) h0;rw[Di (qM e)];cases r with
 |out x=>exact g x q
 |ret r=>exact⟨r,rfl,q⟩
end
end Go.Lv

namespace Go.Lv.VT
set_option maxRecDepth 100000
def Fits(t:aE)(z:Bool×aE):Prop:=((z.1=false/\z.2=t)\/(z.1=true/\4000<t.length))/\z.2.length<=500000
def dv(s:aE)(p:aE×Int):Prop:=(p.2=0/\p.1=s/\s.length<=50000)\/(p.2≠0/\4000<s.length)
def dv.ok{s:aE}(h:s.length<=50000):dv s (s,0):= .inl ⟨rfl,rfl,h⟩
def Aj{t s:aE}{p:aE×Int}{b:Bool}{u:aE}(d:Fits t (b,u))(hp:dv s p):Has (zG (p,b,u)) (Fits (t++s)):=by
 obtain⟨p,e⟩:=p;obtain⟨d,hu⟩:=d;have hu:u.length<=500000:=hu;unfold zG Qs;have a:4000<t.length->Fits (t++s) (true,u):=λh=>⟨.inr ⟨rfl,by rw[Ea];omega⟩,hu⟩;cases b with
 |true=>
  rcases d with⟨h,_⟩|⟨_,h⟩
  ·cases h
  ·exact⟨_,rfl,a h⟩
 |false=>
  rcases d with⟨_,h⟩|⟨h,_⟩
  ·have h:u=t:=h;subst h;by_cases f:e=0
   ·subst f;rcases hp with⟨_,c,hs⟩|⟨h,_⟩
    ·have c:p=s:=c;subst c;simp only[za,Ba,show((0:Int) != 0)=false from rfl,Va,zQ,Aa];by_cases h4:(u.length:Int)>400000
     ·rw[Ga h4];exact⟨_,rfl, .inr ⟨rfl,by rw[Ea];omega⟩,hu⟩
     ·rw[Ma h4];unfold QD oK;simp only[za,Aa,Va,Ca];rw[zn (Bh (by omega))];exact⟨_,rfl, .inl ⟨rfl,rfl⟩,by simp only[Ea];omega⟩
    ·exact(h rfl).elim
   ·rcases hp with⟨h,_⟩|⟨_,hs⟩
    ·exact(f h).elim
    ·have h1:(e != 0)=true:=by rw[og];exact f
     simp only[za,Ba,h1,Ab,ZF,Aa,Ca];exact⟨_,rfl, .inr ⟨rfl,by rw[Ea];omega⟩,hu⟩
  ·cases h
def zS4(x:zP)(b:Bool):rJ (x,b)=qa zS (x,b,[]):=rfl
def Vi(l:List aE):aE:=fL (λ_=>[46]) (l.map ZA)
def gR(L:List aE):aE:=bif L.isEmpty then [123,125]else [123,32]++(fL (λ_=>[]) (L.map λt=>t++[32])++[125])
def layW:aE:=[64,108,97,121,101,114,32]
def medW:aE:=[64,109,101,100,105,97,32]
def eu:aE:=[64,115,117,112,112,111,114,116,115,32]
mutual
/-- The text of a rule; wd, wc: the texts of declarations and conditions. -/
def fX(wd:List Zv->aE)(wc:zh->aE):zP->aE
 |⟨kind,selectors,decls,cond,names,rules⟩=>
  bif kind==1 then fg selectors++(bif decls.isEmpty then [32,123,125]else [32,123,32]++(wd decls++[32,125]))
  else bif kind==2||kind==3 then(bif kind==3 then eu else medW)++((bif (wc cond).isEmpty then []else wc cond++[32])++gR (Uy wd wc rules))
  else bif kind==4 then layW++(fL (λ_=>[]) (names.map λn=>Vi n++[32])++gR (Uy wd wc rules))
  else layW++(fL io (names.map Vi)++[59])
def Uy(wd:List Zv->aE)(wc:zh->aE):List zP->List aE
 |[]=>[]
 |r::l=>fX wd wc r::Uy wd wc l
end
def zCH(wd:List Zv->aE)(wc:zh->aE): ∀l:List zP,Uy wd wc l=l.map (fX wd wc)
 |[]=>by rw[Uy];rfl
 |r::l=>by rw[Uy,zCH wd wc l];rfl
def wD(wd:List Zv->aE)(wc:zh->aE)(r:zP):fX wd wc r=
  bif r.u==1 then fg r.ke++(bif r.kh.isEmpty then [32,123,125]else [32,123,32]++(wd r.kh++[32,125]))
  else bif r.u==2||r.u==3 then(bif r.u==3 then eu else medW)++((bif (wc r.cond).isEmpty then []else wc r.cond++[32])++gR (r.j.map (fX wd wc)))
  else bif r.u==4 then layW++(fL (λ_=>[]) (r.kf.map λn=>Vi n++[32])++gR (r.j.map (fX wd wc)))
  else layW++(fL io (r.kf.map Vi)++[59]):=by
 obtain⟨kind,selectors,decls,cond,names,rules⟩:=r;rw[fX,zCH]
def Fits.cast{t a:aE}{z:Bool×aE}(h:Fits t z)(e:t=a):Fits a z:=e▸h
def MG {R:Type}{step:Int×Bool×aE->Option (LO (Int×Bool×aE) (Bool×aE) R)}{k:Bool×aE->Option R}{sep:Nat->aE}{L:List aE}{t:aE}{b:Bool}{u:aE}{Q:R->Prop}(hn:L.length<=co)(f:Fits t (b,u))
  (h1: ∀(i:Nat) (z:Bool×aE) (t:aE) (hi:i<L.length),Fits t z->Has (step ((i:Int),z.1,z.2)) λy=> ∃c,y= .again (cj ((i:Int)+1),c.1,c.2)/\Fits (t++((bif i==0 then []else sep i)++L[i])) c)
  (h2: ∀z:Bool×aE,step ((L.length:Int),z.1,z.2)=some (.out z)) (hk: ∀z,Fits (t++fL sep L) z->Has (k z) Q):Has (zM step (0,b,u) k) Q:=by
 refine Has.loop (λs=> ∃(i:Nat) (z:Bool×aE),s=((i:Int),z.1,z.2)/\i<=L.length/\Fits (t++eN sep L i) z) (λs=>L.length - s.1.toNat) (P:=λz=>Fits (t++fL sep L) z) ⟨0,(b,u),rfl,Yb _,by rw[eN,Ib];exact f⟩ ?_ hk;rintro _ ⟨i,z,rfl,hi,hf⟩;rcases Ec i L.length with a|a
 ·obtain⟨y,e,c,rfl,d⟩:=h1 i z _ a hf;refine⟨_,e,⟨⟨i+1,c,by rw[zD a hn],a,d.cast ?_⟩,?_⟩⟩
  ·rw[eN,Lc,Na a,Ja];rfl
  ·show L.length - (cj ((i:Int)+1)).toNat<L.length - ((i:Int)).toNat;rw[zD a hn];omega
 ·obtain rfl:i=L.length:=by omega
  exact⟨_,h2 z,hf⟩
def sepP{i:Nat}{s t:aE}{z:Bool×aE}(hs:s.length<=50000)(a:Fits t z){R:Type}{Q:R->Prop}:Has (bif decide ((i:Int)>0)then za (zG ((s,0),z.1,z.2)) λb=>(some (.out (b.1,b.2)):Option (LX (Bool×List UInt8) R))else some (.out (z.1,z.2))) (LXq (Fits (t++bif i==0 then []else s)) Q):=by
 rcases De i with rfl|hp
 ·exact⟨_,rfl,a.cast (by simp)⟩
 ·rw[Ga (show(i:Int)>0 by omega),Ca,Fa.2 (show i≠0 by omega),Ba];exact Has.bind (Aj a (dv.ok hs)) λy c=> .some c
def zCt{n:List aE}{t:aE}{b:Bool}{u:aE}(hn:n.length<=co)(c:Fits t (b,u))(hp: ∀s∈n,Has (om s) (dv (ZA s))):Has (Qc (n,b,u)) (Fits (t++Vi n)):=by
 unfold Qc;refine MG (sep:=λ_=>[46]) (L:=n.map ZA) (by grind) c (λi z t hi c=> ?_) (λz=> ?_) (λz c=> .some c)
 ·have a:i<n.length:=by rwa [Xa]at hi
  simp only[zN a,Ca,zF a,za,Aa,Md];refine Has.join (sepP (s:=[46]) (by decide) c) λe h1=>Has.bind (hp _ (Ia a)) λp hp=>Has.bind (Aj h1 hp) λy d=> .some ⟨y,rfl,d.cast (by grind)⟩
 grind
def XR{a W t:aE}{b:Bool}{u:aE}(c:[64]++a++[32]++[]=W)(hl:a.length<=20)(d:Fits t (b,u)):Has (ZC ((a,[]),b,u)) (Fits (t++W)):=by subst c;unfold ZC;rw[zn (Rn (by grind)),zn (Rn (by grind)),zn (Rn (by grind))];exact Has.bind (Aj d (dv.ok (by grind))) λy e=> .some e
structure Pcs (wd:List Zv->aE) (wc:zh->aE) (r:zP):Prop where
 k:r.u=1\/r.u=2\/r.u=3\/r.u=4\/r.u=5
 sel:r.u=1->Has (Ou r.ke) (dv (fg r.ke))
 dec:r.u=1->r.kh≠[]->Has (Xt r.kh) (dv (wd r.kh))
 cnd:r.u=2\/r.u=3->Has (Yq r.cond) λp=>(p.2=0/\p.1=wc r.cond/\(wc r.cond).length<=4000)\/(p.2≠0/\p.1=[]/\4000<(wc r.cond).length)
 nam: ∀n∈r.kf,n.length<=co/\ ∀s∈n,Has (om s) (dv (ZA s))
 len:r.kf.length<=co
def uK{α:Type}(l:List α):((l.length:Int)==0)=l.isEmpty:=by
 cases l with
 |nil=>rfl
 |cons a l=>grind
section
variable {wd:List Zv->aE} {wc:zh->aE} {S:List zP×Bool×List UInt8->Option (Bool×List UInt8)}
def Y2{r:zP}(hp:Pcs wd wc r)(hg: ∀(t:aE) (z:Bool×aE),Fits t z->Has (S (r.j,z.1,z.2)) (Fits (t++gR (r.j.map (fX wd wc))))){t:aE}{b:Bool}{u:aE}(m:Fits t (b,u)):
  Has (qa S (r,b,u)) (Fits (t++fX wd wc r)):=by
 unfold qa;rw[wD];have d: ∀{O W:aE},(r.u=2\/r.u=3)->[64]++O++[32]++[]=W->O.length<=20->Has (za (Yq r.cond) λf=>
   zK (X:=aE×Bool×List UInt8) (
     bif !(f.1==[])then
      ck (zI f.1.length ([32]:aE).length)<|
      some (.out (f.1++([32]:aE),b,u))
     else
      some (.out (f.1,b,u))) λo=>
   za (ZC ((O,[]),o.2.1,o.2.2)) λv=>
   za (zG ((o.1,f.2),v.1,v.2)) λx=>
   za (S (r.j,x.1,x.2)) λA=>
   some (A.1,A.2)) (Fits (t++(W++((bif (wc r.cond).isEmpty then []else wc r.cond++[32])++gR (r.j.map (fX wd wc)))))):=by
  intro O W hk hW hl;refine Has.bind (hp.cnd hk) λp Q=>Has.join (P:=λj=>dv (bif (wc r.cond).isEmpty then []else wc r.cond++[32]) (j.1,p.2)/\j.2=(b,u)) ?_ λj U=> ?_
  ·rcases Q with⟨e0,e1,e2⟩|⟨e0,e1,e2⟩
   ·rw[e1,e0];cases hw:wc r.cond with
    |nil=>exact⟨_,rfl,dv.ok (by decide),rfl⟩
    |cons a l=> rw[hw]at e2;show Has (ck (zI (a::l).length ([32]:aE).length) _) _;exact Has.need (Rn (by grind)) (.some ⟨dv.ok (by grind),rfl⟩)
   ·rw[e1];refine⟨_,rfl, .inr ⟨e0,?_⟩,rfl⟩
    grind
  ·obtain⟨j1,j2⟩:=j;obtain⟨U,rfl⟩:=U;exact Has.bind (XR hW hl m) λv V=>Has.bind (Aj V U) λx Y=>Has.bind (hg _ _ Y) λA Z=> .some (Z.cast (by grind))
 rcases hp.k with hk|hk|hk|hk|hk
 ·simp only[hk,show((1:Int)==1)=true from rfl,Ca,uK];refine Has.bind (hp.sel hk) λp1 h1=>Has.bind (Aj m h1) λy2 h2=> ?_;cases he:r.kh.isEmpty with
  |true=>exact Has.bind (Aj h2 (dv.ok (s:=[32,123,125]) (by decide))) λy h=> .some (h.cast (by grind))
  |false=>
   have a3:r.kh≠[]:=λe=>by grind
   exact Has.bind (Aj h2 (dv.ok (s:=[32,123,32]) (by decide))) λy h=>Has.bind (hp.dec hk a3) λp5 h5=>Has.bind (Aj h h5) λy6 h6=>
    Has.bind (Aj h6 (dv.ok (s:=[32,125]) (by decide))) λy7 h7=> .some (h7.cast (by grind))
 ·simp only[hk,show((2:Int)==1)=false from rfl,show((2:Int)==2)=true from rfl,show((2:Int)==3)=false from rfl,Ca,Ba,zf,Uc];exact d (.inl hk) rfl (by decide)
 ·simp only[hk,show((3:Int)==1)=false from rfl,show((3:Int)==2)=false from rfl,show((3:Int)==3)=true from rfl,Ca,Ba,zf,Be];exact d (.inr hk) rfl (by decide)
 ·simp only[hk,show((4:Int)==1)=false from rfl,show((4:Int)==2)=false from rfl,show((4:Int)==3)=false from rfl,show((4:Int)==4)=true from rfl,Ca,Ba,zf,Dc];refine Has.bind (XR (W:=layW) rfl (by decide) m) λa6 E=>MG (sep:=λ_=>[]) (L:=r.kf.map λn=>Vi n++[32]) (by rw[Xa];exact hp.len) E (λi z t hi m=> ?_) (λz=> ?_) λz h=>Has.bind (hg _ _ h) λa7 F=> .some (F.cast (by grind))
  ·have c:i<r.kf.length:=by rwa [Xa]at hi
   simp only[zN c,Ca,zF c,za,Aa,Md];obtain⟨n1,n2⟩:=hp.nam _ (Ia c);exact Has.bind (zCt n1 m n2) λM J=>Has.bind (Aj J (dv.ok (s:=[32]) (by decide))) λa8 a9=> .some ⟨a8,rfl,a9.cast (by grind)⟩
  grind
 ·simp only[hk,show((5:Int)==1)=false from rfl,show((5:Int)==2)=false from rfl,show((5:Int)==3)=false from rfl,show((5:Int)==4)=false from rfl,show((5:Int)==5)=true from rfl,Ca,Ba,zf,Dc];refine Has.bind (XR (W:=layW) rfl (by decide) m) λa6 E=>MG (sep:=io) (L:=r.kf.map Vi) (by rw[Xa];exact hp.len) E (λi z t hi m=> ?_) (λz=> ?_) λz h=>Has.bind (Aj h (dv.ok (s:=[59]) (by decide))) λa7 F=> .some (F.cast (by grind))
  ·have c:i<r.kf.length:=by rwa [Xa]at hi
   simp only[zN c,Ca,zF c,za,Aa,Md];obtain⟨n1,n2⟩:=hp.nam _ (Ia c);exact Has.join (sepP (s:=[44,32]) (by decide) m) λz1 h1=>Has.bind (zCt n1 h1 n2) λM J=> .some ⟨M,rfl,J.cast (by rw[Ja];rfl)⟩
  grind
def zML {N:Nat}(hN:N<=co){G:zP->Prop}(e: ∀r,G r->Pcs wd wc r/\ ∀q∈r.j,G q)
  (hS: ∀(l:List zP) (z:Bool×aE) (t:aE),zL zu l<N->(∀r∈l,G r)->Fits t z->Has (S (l,z.1,z.2)) (Fits (t++gR (l.map (fX wd wc))))) {l:List zP} (hl:zL zu l<=N) (hv: ∀r∈l,G r) {t:aE} {b:Bool} {u:aE} (c:Fits t (b,u)):
  Has (ZK S (l,b,u)) (Fits (t++gR (l.map (fX wd wc)))):=by
 have j:=Z4 Bj l;unfold ZK gR;simp only[uK];cases d:l.isEmpty with
 |true=>
  have:(l.map (fX wd wc)).isEmpty=true:=by rw[jd]at d ⊢;rw[d];rfl
  rw[this];exact Has.bind (Aj c (dv.ok (s:=[123,125]) (by decide))) λy h=> .some h
 |false=>
  have:(l.map (fX wd wc)).isEmpty=false:=by cases l with|nil=>cases d|cons=>rfl
  rw[this,Ba,Ba];refine Has.bind (Aj c (dv.ok (s:=[123,32]) (by decide))) λA h2=>MG (sep:=λ_=>[]) (L:=(l.map (fX wd wc)).map λt=>t++[32]) (by grind) h2 (λi z t hi c=> ?_) (λz=> ?_) λz h=>Has.bind (Aj h (dv.ok (s:=[125]) (by decide))) λy h=> .some (h.cast (by grind))
  ·have a:i<l.length:=by rwa [Xa,Xa]at hi
   have hm:=Ia a;have k:=Z7 (f:=zu) hm;have m:=Si l[i];obtain⟨n,o⟩:=e _ (hv _ hm);simp only[zN a,Ca,zF a,za,Aa,Md];exact Has.bind (Y2 n (λt z h=>hS _ z t (by omega) o h) c) λE p=>Has.bind (Aj p (dv.ok (s:=[32]) (by decide))) λv x=> .some ⟨v,rfl,x.cast (by grind)⟩
  grind
end
section
variable {wd:List Zv->aE} {wc:zh->aE}
def zQc(d:Tk ZK){G:zP->Prop}(f: ∀r,G r->Pcs wd wc r/\ ∀q∈r.j,G q){l:List zP}(hl:zL zu l<=co)(hv: ∀r∈l,G r){t:aE}{z:Bool×aE}(a:Fits t z):
  Has (zS (l,z.1,z.2)) (Fits (t++gR (l.map (fX wd wc)))):=by
 have h:=Ko d (λx:List zP×Bool×List UInt8=>zL zu x.1) (λx=>zL zu x.1<=co/\(∀r∈x.1,G r)/\ ∃t,Fits t x.2) (λx y=> ∀t,Fits t x.2->Fits (t++gR (x.1.map (fX wd wc))) y) (λS x i hS=>by
  obtain⟨l,b,u⟩:=x;obtain⟨h1,h2,t0,h0⟩:=i;have body: ∀t,Fits t (b,u)->Has (ZK S (l,b,u)) (Fits (t++gR (l.map (fX wd wc)))):=λt ht=>zML h1 f (λj z c k1 k2 k3=>by
   obtain⟨y,e,q⟩:=hS (j,z) ⟨Jc (Nat.le_of_lt k1) h1,k2,c,k3⟩ k1;exact⟨y,e,q c k3⟩) (Db _) h2 ht
  obtain⟨y,e,_⟩:=body t0 h0;refine⟨y,e,λt ht=> ?_⟩;obtain⟨k,m,q⟩:=body t ht
  grind) (x:=(l,z)) ⟨hl,hv,t,a⟩
 obtain⟨y,e,q⟩:=h;exact⟨y,e,q t a⟩
def lA(s:aE):aE×Int:=bif decide (4000<s.length)then([],28)else(s,0)
def zS3{r:zP}(hs:r.u=1->1<=(fg r.ke).length):1<=(fX wd wc r).length:=by
 have h1:1<=layW.length/\1<=eu.length/\1<=medW.length:=by decide
 rw[wD]
 grind
def zzK(f:Tk ZK){G:zP->Prop}(d: ∀r,G r->Pcs wd wc r/\ ∀q∈r.j,G q){r:zP}(hr:zx (zu r)<=co)(hv:G r)(hs:r.u=1->1<=(fg r.ke).length):
  Bu r=some (lA (fX wd wc r)):=by
 have i:=Si r;obtain⟨j,k⟩:=d _ hv;have l:Fits [] (false,([]:aE)):=⟨.inl ⟨rfl,rfl⟩,Yb _⟩;obtain⟨y,e,c⟩:=Y2 j (λt z h=>zQc f d (show zL zu r.j<=co by omega) k h) l;rw[Lb]at c;have m:=zS3 (wd:=wd) (wc:=wc) hs;unfold Bu;have n:rJ ((⟨r.u,r.ke,r.kh,(⟨r.cond.u,r.cond.q,r.cond.kg,r.cond.decl,r.cond.w⟩:zh),r.kf,r.j⟩:zP),false)=some y:=(zS4 r false).trans e;rw[n];obtain⟨b,u⟩:=y;obtain⟨c,hu⟩:=c;unfold Qs strW lA;simp only[za,Aa];rcases c with⟨hb,a⟩|⟨hb,hl⟩
 ·have hb:b=false:=hb;have a:u=fX wd wc r:=a;subst hb a;simp only[Va,zQ,Aa,Ba]
  grind
 simp_all
end
def Pk(s:aE):Bool:=decide (4000<s.length)
def txsW(L:List aE):List aE×Int:=bif L.any Pk then([],28)else(L,0)
def zv8{f:zP->aE}{x:lj}(hl:x.j.length<=co)(hc:IB x=some 0)(h: ∀r∈x.j,Bu r=some (lA (f r))):rq x=some (txsW (x.j.map f)):=by
 have d:co=4194304:=rfl
 suffices Has (rq x) (λy=>y=txsW (x.j.map f)) by obtain⟨y,e,rfl⟩:=this;exact e
 unfold rq;refine Has.eqb hc ?_;rw[show((0:Int) != 0)=false from rfl,Ba];refine Has.loop (λs=> ∃i:Nat,s=((i:Int),(x.j.take i).map f)/\i<=x.j.length/\((x.j.take i).map f).any Pk=false) (λs=>x.j.length - s.1.toNat) (P:=λL=>L=x.j.map f/\(x.j.map f).any Pk=false) ⟨0,rfl,Yb _,rfl⟩ ?_ (λL j=> ?_)
 ·rintro _ ⟨i,rfl,hi,ha⟩;rcases Ec i x.j.length with b|b
  ·have hm:=Ia b;simp only[zN b,Ca,zF b,za,Aa];have hr:=h _ hm;refine Has.eqb hr ?_;unfold lA;cases a:decide (4000<(f x.j[i]).length)with
   |true=> refine⟨_,rfl,?_⟩;show(([]:List aE),(28:Int))=_;unfold txsW;rw[Bg.2 ⟨f x.j[i],List.mem_map_of_mem hm,a⟩,Ca]
   |false=>
    rw[Ba];have c:((x.j.take i).map f).length=i:=by rw[Xa,Oc];omega
    refine Has.need (by rw[c];unfold Zm;exact Ga (by omega)) (.some ⟨⟨i+1,?_,b,?_⟩,?_⟩)
    ·rw[zD b hl,Jb b,Tc];rfl
    ·rw[Jb b,Tc,List.any_append,ha];show(false||(Pk _||false))=false;unfold Pk;rw[a];rfl
    ·show x.j.length - (cj ((i:Int)+1)).toNat<x.j.length - ((i:Int)).toNat;rw[zD b hl];omega
  ·obtain rfl:i=x.j.length:=by omega
   simp only[Nh,Ba];rw[Xc]at ha;exact .some ⟨by rw[Xc],ha⟩
 ·obtain⟨rfl,ha⟩:=j;refine .some ?_;unfold txsW;rw[ha];rfl
def zQy{s:aE}(h:Gh s=true):Has (om s) (dv (ZA s)):=by
 obtain⟨h1,h2,h3⟩:=ll h;have hl:=Ej (s==[45]) (qC s) s;have hl:(ZA s).length<=4*s.length:=hl;refine Has.of (y:=(ZA s,0)) ?_ (dv.ok (by omega));unfold om;have h0:(s==[])=false:=by simpa using h2
 simp only[za,QQ,h0,Va,zQ,Aa,Ba,Ms,h3,Ab,Tq];rw[w23W (by omega),xu (by omega) (by simp),Lb,Aa,Ma (by omega),Ma (by omega)];rfl
def zLC(s:aE):dv s (bif decide (4000<s.length)then([],28)else(s,0)):=by
 by_cases h:4000<s.length
 ·rw[Ga h];exact .inr ⟨by show(28:Int)≠0;decide,h⟩
 ·rw[Ma h];exact dv.ok (by omega)
def zCK{l:List zm}(a:zL zk l<=co)(ho:okPV (.sl (l.map zk)))(h:iv l=0):Has (Ou l) (dv (fg l))/\1<=(fg l).length:=by obtain⟨h1,h2⟩:=LF h ho;refine⟨Has.of (zt7 a ho) ?_,jZ h1 h2⟩;rw[h];exact zLC _
inductive SmR:zP->Prop
 |mk {r:zP}:r.kh.length<=40->(∀d∈r.kh,SmD d)->SmC r.cond->(∀q∈r.j,SmR q)->SmR r
def SmR.inv{r:zP}(h:SmR r):r.kh.length<=40/\(∀d∈r.kh,SmD d)/\SmC r.cond/\ ∀q∈r.j,SmR q:=by
 cases h with
 |mk h1 h2 h3 h4=>exact⟨h1,h2,h3,h4⟩
def zHC{l:List zP}{m:Int}(h:zL zu l<=co):Has (Qj (l,m)) λg=>g=false-> ∀r∈l,SmR r:=by
 refine Ko zon (λx=>zL zu x.1) (λx=>zL zu x.1<=co) (λx g=>g=false-> ∀r∈x.1,SmR r) (λS x n hS=> ?_) (x:=(l,m)) h;obtain⟨l,m⟩:=x;have n:zL zu l<=co:=n;have o:=Z4 Bj l;unfold Ky;refine Has.bif (λ_=> .some λe=>by cases e) λ_=> ?_;refine Has.loop (λs=> ∃i:Nat,s=(i:Int)/\i<=l.length/\ ∀r∈l.take i,SmR r) (λs=>l.length - s.toNat) (P:=λ_=> ∀r∈l,SmR r) ⟨0,rfl,Yb _,λr hr=>by cases hr⟩ ?_ (λ_ v=> .some λ_=>v);rintro _ ⟨i,rfl,hi,hI⟩;rcases Ec i l.length with b|b
 ·have hm:=Z7 (f:=zu) (Ia b);have O:=Si l[i];have y:=Pw l[i].cond;have A:=Z4 Au l[i].kh;obtain⟨E,F⟩:=FD l[i].kf;obtain⟨J,h1⟩:=zv2 (l:=l[i].ke) (by omega);obtain⟨p,h2,p2⟩:=UZ (l:=l[i].kh) (λd k=>by
   have:=Z7 (f:=Z0) k;have hs:=Rv (d:=d) (by omega);exact⟨hs.1,hs.2⟩) (by omega)
  obtain⟨t,h3,L⟩:=ztY (c:=l[i].cond) (by omega);obtain⟨u,h4,p4⟩:=hS (l[i].j,cj (m - 1)) (by show zL zu l[i].j<=co;omega) (by show zL zu l[i].j<zL zu l;omega);simp only[zN b,Ca,zF b,za,Aa,Zh,h1,h2,h3,h4,zO,zD b (show l.length<=co by omega)];refine Has.bif (λ_=> .some λe=>by cases e) λhb=> ?_;have M:p=false/\t=false/\u=false:=by
   cases J with
   |true=>cases hb
   |false=>
    cases p with
    |true=>cases hb
    |false=>
     cases t with
     |true=>cases hb
     |false=>
      cases u with
      |false=>exact⟨rfl,rfl,rfl⟩
      |true=> exfalso;revert hb;cases decide ((l[i].kf.length:Int)>70)<;>intro hb<;>cases hb
  obtain⟨rfl,rfl,rfl⟩:=M;have hr:SmR l[i]:= .mk (p2 rfl).1 (λd k=>⟨(p2 rfl).2 d k⟩) (L rfl) (p4 rfl);refine Has.loop (λs=> ∃j:Nat,s=(j:Int)/\j<=l[i].kf.length) (λs=>l[i].kf.length - s.toNat) (P:=λ_=>True) ⟨0,rfl,Yb _⟩ ?_ (λ_ _=> .some ⟨⟨i+1,rfl,b,λr a=> ?_⟩,?_⟩)
  ·rintro _ ⟨j,rfl,Q⟩;rcases Ec j l[i].kf.length with hk|hk
   ·simp only[zN hk,Ca,zF hk,Aa,zD hk (show l[i].kf.length<=co by omega)];refine Has.bif (λ_=> .some λe=>by cases e) λ_=> .some ⟨⟨j+1,rfl,hk⟩,?_⟩;show l[i].kf.length - (((j+1:Nat):Int)).toNat<l[i].kf.length - ((j:Int)).toNat;omega
   ·obtain rfl:j=l[i].kf.length:=by omega
    simp only[Nh,Ba];exact .some trivial
  ·rw[Jb b]at a;rcases Vd.1 a with a|a
   ·exact hI r a
   ·rw[jc.1 a];exact hr
  ·show l.length - (((i+1:Nat):Int)).toNat<l.length - ((i:Int)).toNat;omega
 ·obtain rfl:i=l.length:=by omega
  simp only[Nh,Ba];rw[Xc]at hI;exact .some hI
def F9{l:List zP}(h:zL zu l<=co):Has (rA l) λg=>g=false-> ∀r∈l,SmR r:=by
 unfold rA;refine Has.bind (zHC h) λy a=> ?_;rw[oW h];simp only[zO,za,Aa];refine .some λe=>a ?_;cases y with
 |false=>rfl
 |true=>cases e
structure GR (r:zP):Prop where
 z:zx (zu r)<=co
 o:qH (zu r)
 s:Qh r=true
 m:SmR r
def GR.sel{r:zP}(h:GR r):okPV (.sl (r.ke.map zk))/\ ∀q∈r.j,qH (zu q):=by have ho:=h.o;rw[TB]at ho;simp only[qH]at ho;exact⟨ho.2.1,λq a=>Sy ho.2.2.2.2.2.2.2.2.2.2.2.1 a⟩
def GR.sub{r q:zP}(h:GR r)(a:q∈r.j):GR q:=by have hs:=h.s;rw[RA,Da,Da]at hs;have b:=h.z;have:=wz a;exact⟨by omega,h.sel.2 q a,Ya.1 hs.2.2 q a,h.m.inv.2.2.2 q a⟩
def GR.head{r:zP}(h:GR r):Sn r=true/\ ∀n∈r.kf,Vh n=true:=by have hs:=h.s;rw[RA,Da,Da]at hs;exact⟨hs.1,Ya.1 hs.2.1⟩
def lQ{n:List aE}(h:Vh n=true):n≠[]/\n.length<=16/\ ∀s∈n,Gh s=true:=by unfold Vh at h;simp only[Da,je,aa,Ya]at h;exact⟨λe=>(by rw[e]at h;exact absurd h.1 (by decide)),h.2.1,h.2.2⟩
def BL{r:zP}(h:Sn r=true):(r.u=1/\iv r.ke=0/\r.kh.length<=32/\(∀d∈r.kh,Qm d=true)/\r.kf=[])\/(r.u=2/\ah r.cond=true/\r.kf=[])\/(r.u=3/\Ri r.cond=true/\r.kf=[])\/
  (r.u=4/\r.kf.length<=1)\/(r.u=5/\r.kf.length<=64):=by
 unfold Sn at h;by_cases k1:r.u=1
 ·rw[k1]at h;simp only[Int.reduceBEq,Ca,Da,aa,Ya,Fb,jd]at h;exact .inl ⟨k1,h.1,h.2.1,h.2.2.2.2.2,h.2.2.2.1⟩
 rw[Fa.2 k1,Ba]at h;by_cases k2:r.u=2
 ·rw[k2]at h;simp only[Int.reduceBEq,Ca,Da,jd]at h;exact .inr (.inl ⟨k2,h.2.2,h.2.1⟩)
 rw[Fa.2 k2,Ba]at h;by_cases k3:r.u=3
 ·rw[k3]at h;simp only[Int.reduceBEq,Ca,Da,jd]at h;exact .inr (.inr (.inl ⟨k3,h.2.2,h.2.1⟩))
 rw[Fa.2 k3,Ba]at h;by_cases k4:r.u=4
 ·rw[k4]at h;simp only[Int.reduceBEq,Ca,Da,aa]at h;exact .inr (.inr (.inr (.inl ⟨k4,h.2.1⟩)))
 rw[Fa.2 k4,Ba]at h;by_cases a:r.u=5
 ·rw[a]at h;simp only[Int.reduceBEq,Ca,Da,aa]at h;exact .inr (.inr (.inr (.inr ⟨a,h.2.2.1⟩)))
 rw[Fa.2 a,Ba]at h;cases h
def O4{l:List Zv}(h: ∀d∈l,SmD d/\Qm d=true):(Pg l).length<=9302*l.length:=by
 rw[<-wQ];have:=XT (l.map ez) (M:=9300) λx b=>by obtain⟨d,a,rfl⟩:=Rb.1 b;exact KD (h d a).1 (h d a).2
 rwa [Xa]at this
def zKf{c:zh}(h:SmC c)(hv:(ah c||Ri c)=true): ∃a,lx a c=true:=by
 rw[Pb]at hv;rcases hv with hv|hv
 ·exact⟨true,YM hv⟩
 ·exact⟨false,nQ (XQ hv) h.d⟩
def jE{c:zh}(h:SmC c)(hv:(ah c||Ri c)=true):(eV ez c).length<=940000:=by obtain⟨a,ho⟩:=zKf h hv;have:(eV ez c).length+10<=9400*cC c:=gQ (wd:=ez) (λd h1 h2=>KD ⟨h2⟩ h1) ho;have:=h.n;omega
def zIy{l:List Zv}(h: ∀d∈l,SmD d/\Qm d=true)(hl:l.length<=32):Has (Xt l) (dv (Pg l)):=by
 refine Has.of (zPh λd a=>(h d a).1.ok) ?_;have b:=O4 h;unfold iC;rw[Ka (by omega),Ya.2 λd a=>(h d a).2,La rfl];by_cases q:4000<(Pg l).length
 ·rw[La q];exact .inr ⟨by show(28:Int)≠0;decide,q⟩
 ·rw[Ka q];exact dv.ok (by omega)
def zGP{c:zh}(a:zx (zC c)<=co)(h:SmC c)(hv:(ah c||Ri c)=true):
  Has (Yq c) λp=>(p.2=0/\p.1=eV ez c/\(eV ez c).length<=4000)\/(p.2≠0/\p.1=[]/\4000<(eV ez c).length):=by
 refine Has.of (zBm a h) ?_;unfold oP;rw[hv];by_cases q:4000<(eV ez c).length
 ·rw[Ga q];exact .inr ⟨by show(28:Int)≠0;decide,rfl,q⟩
 ·rw[Ma q];exact .inl ⟨rfl,rfl,Nat.le_of_not_lt q⟩
def GR.pcs{r:zP}(h:GR r):Pcs Pg (eV ez) r:=by
 have a:co=4194304:=rfl;have l:=Si r;have hr:=h.z;have c:=Pw r.cond;obtain⟨e,hn⟩:=h.head;obtain⟨f,i⟩:=FD r.kf;have hp:=BL e;refine⟨?_,λk=> ?_,λk _=> ?_,λk=> ?_,λn hm=> ?_,by omega⟩
 ·rcases hp with hp|hp|hp|hp|hp
  ·exact .inl hp.1
  ·exact .inr (.inl hp.1)
  ·exact .inr (.inr (.inl hp.1))
  ·exact .inr (.inr (.inr (.inl hp.1)))
  ·exact .inr (.inr (.inr (.inr hp.1)))
 ·have:iv r.ke=0:=by
   rcases hp with hp|hp|hp|hp|hp
   ·exact hp.2.1
   all_goals (have:=hp.1;omega)
  exact(zCK (by omega) h.sel.1 this).1
 ·rcases hp with hp|hp|hp|hp|hp
  ·exact zIy (λd b=>⟨h.m.inv.2.1 d b,hp.2.2.2.1 d b⟩) hp.2.2.1
  all_goals (have:=hp.1;omega)
 ·refine zGP (by omega) h.m.inv.2.2.1 ?_;rcases hp with hp|hp|hp|hp|hp
  ·have:=hp.1;omega
  ·rw[hp.2.1];rfl
  ·rw[hp.2.1,Be]
  all_goals (have:=hp.1;omega)
 ·obtain⟨_,o,j⟩:=lQ (hn n hm);exact⟨by omega,λs hs=>zQy (j s hs)⟩
def GR.ne{r:zP}(h:GR r)(k:r.u=1):1<=(fg r.ke).length:=by
 have a:=Si r;have hr:=h.z;have:iv r.ke=0:=by
  rcases BL h.head.1 with hp|hp|hp|hp|hp
  ·exact hp.2.1
  all_goals (have:=hp.1;omega)
 exact(zCK (by omega) h.sel.1 this).2
abbrev rW:zP->aE:=fX Pg (eV ez)
def kZ{r:zP}(h:GR r):Bu r=some (lA (rW r)):=
 zzK zje (G:=GR) (λ_ g=>⟨g.pcs,λ_ a=>g.sub a⟩) h.z h h.ne
def xQ{sep:Nat->aE}(hs: ∀i,(sep i).length<=3)(L:List aE):(fL sep L).length<=(L.map λt=>t.length+3).sum:=by
 have a: ∀i,i<=L.length->(eN sep L i).length<=((L.take i).map λt=>t.length+3).sum:=by
  intro i
  induction i with
  |zero=>intro _;exact Yb _
  |succ i b=>
   intro hi;have h1:=b (by omega);have h2:=hs i;rw[eN,Lc,Na hi,Option.getD_some,Jb hi,Tc,List.sum_append,Ea,Ea,Xb,Ye,xc,List.sum_nil];have h3:(bif i==0 then([]:aE)else sep i).length<=3:=by cases i==0<;>simp only[Ca,Ba,Cb]<;>omega
   omega
 have:=a L.length (Db _)
 rwa [Xc]at this
def YQ{α:Type}{f:α->Nat}{N:Nat}: ∀{l:List α},(∀x∈l,f x<=N)->(l.map f).sum<=N*l.length
 |[],_=>Yb _
 |x::l,h=>by have h1:=h x (Ub ..);have h2:=YQ (f:=f) (N:=N) (l:=l) λy a=>h y (Vb _ a);rw[Xb,xc,Ha,Nat.mul_succ];omega
def NG{n:List aE}(h:Vh n=true):(Vi n).length<=4144:=by
 obtain⟨_,h2,h3⟩:=lQ h;have h4:=xQ (sep:=λ_=>[46]) (λ_=>by show 1<=3;omega) (n.map ZA);rw[Ag]at h4;have a:=YQ (f:=(λt:aE=>t.length+3)∘ZA) (N:=259) (l:=n) λs hs=>by have:=Wv s;have:=(ll (h3 s hs)).1;show(ZA s).length+3<=259;omega
 have b:(Vi n).length<=_:=h4;have:259*n.length<=259*16:=Cg _ h2;omega
def zB0{l:List (List aE)}{f:List aE->aE}{sep:Nat->aE}(hs: ∀i,(sep i).length<=3)(h: ∀n∈l,(f n).length<=4145)(hl:l.length<=64):(fL sep (l.map f)).length<=265472:=by
 have h4:=xQ hs (l.map f);rw[Ag]at h4;have a:=YQ (f:=(λt:aE=>t.length+3)∘f) (N:=4148) (l:=l) λn hn=>by have:=h n hn;show(f n).length+3<=4148;omega
 have:4148*l.length<=4148*64:=Cg _ hl;omega
def bdR(r:zP):Nat:=1700000*iz r+20*zx (zu r)
def nY: ∀l:List zP,(l.map bdR).sum=1700000*Qv l+20*zL zu l
 |[]=>by rw[Qv,GD];rfl
 |r::l=>by rw[Xb,xc,nY l,Qv,wh,bdR];omega
def D8{α:Type}{f g:α->Nat}: ∀{l:List α},(∀x∈l,f x<=g x)->(l.map f).sum<=(l.map g).sum
 |[],_=>Db _
 |x::l,h=>by have h1:=h x (Ub ..);have h2:=D8 (f:=f) (g:=g) (l:=l) λy a=>h y (Vb _ a);rw[Xb,xc,Xb,xc];omega
def R4{sep:Nat->aE}(hs: ∀i,(sep i).length<=3){l:List zP}{f:zP->aE}(h: ∀r∈l,(f r).length+3<=bdR r):(fL sep (l.map f)).length<=1700000*Qv l+20*zL zu l:=by have h4:=xQ hs (l.map f);rw[Ag]at h4;have a:=D8 (f:=(λt:aE=>t.length+3)∘f) (g:=bdR) (l:=l) λr hr=>h r hr;rw[nY]at a;omega
def zMK{l:List zP}{f:zP->aE}(h: ∀r∈l,(f r).length+10<=bdR r):(gR (l.map f)).length<=10+(1700000*Qv l+20*zL zu l):=by
 have h1:=R4 (sep:=λ_=>[]) (f:=λr=>f r++[32]) (λ_=>Yb _) (l:=l) λr hr=>by have:=h r hr;rw[Ea];simp only[Ha,Cb];omega
 have e:(l.map f).map (λt=>t++[32])=l.map λr=>f r++[32]:=by rw[Ag];rfl
 unfold gR;rw[e];cases (l.map f).isEmpty
 ·simp only[Ba,Ea,Ha,Cb];omega
 ·simp only[Ca,Ha,Cb];omega
def zF9{r:zP}(h:GR r):(rW r).length+10<=bdR r:=by
 have b: ∀(n:Nat) (r:zP),zx (zu r)<n->GR r->(rW r).length+10<=bdR r:=by
  intro n
  induction n with
  |zero=>intro r hr;omega
  |succ n i=>
   intro r hr h;have k:=Si r;have o:(gR (r.j.map (fX Pg (eV ez)))).length<=10+(1700000*Qv r.j+20*zL zu r.j):=zMK (l:=r.j) (f:=rW) λq e=>i q (by have:=wz e;omega) (h.sub e);have c:bdR r=1700000*(1+Qv r.j)+20*zx (zu r):=by rw[bdR,xy]
   have hm:=h.m.inv;have a:=h.head.2;have j:rW r=_:=wD Pg (eV ez) r;have p:layW.length=7/\medW.length=7/\eu.length=10:=by decide
   rw[j];rcases BL h.head.1 with hp|hp|hp|hp|hp
   ·have h1:=rD (LF hp.2.1 h.sel.1).2;have h2:=O4 (l:=r.kh) λd c=>⟨hm.2.1 d c,hp.2.2.2.1 d c⟩;have:9302*r.kh.length<=9302*32:=Cg _ hp.2.2.1;rw[hp.1,show((1:Int)==1)=true from rfl,Ca];cases r.kh.isEmpty<;>simp only[Ca,Ba,Ea,Ha,Cb]<;>omega
   ·have h1:=jE hm.2.2.1 (by rw[hp.2.1];rfl);rw[hp.1,show((2:Int)==1)=false from rfl,Ba,show((2:Int)==2||(2:Int)==3)=true from rfl,Ca,show((2:Int)==3)=false from rfl,Ba];cases (eV ez r.cond).isEmpty<;>simp only[Ca,Ba,Ea,Ha,Cb]<;>omega
   ·have h1:=jE hm.2.2.1 (by rw[hp.2.1,Be]);rw[hp.1,show((3:Int)==1)=false from rfl,Ba,show((3:Int)==2||(3:Int)==3)=true from rfl,Ca,show((3:Int)==3)=true from rfl,Ca];cases (eV ez r.cond).isEmpty<;>simp only[Ca,Ba,Ea,Ha,Cb]<;>omega
   ·have h1:=zB0 (l:=r.kf) (f:=λn=>Vi n++[32]) (sep:=λ_=>[]) (λ_=>Yb _) (λn hn=>by
     have:=NG (a n hn);rw[Ea];simp only[Ha,Cb];omega) (by omega)
    rw[hp.1,show((4:Int)==1)=false from rfl,Ba,show((4:Int)==2||(4:Int)==3)=false from rfl,Ba,show((4:Int)==4)=true from rfl,Ca];simp only[Ea];omega
   ·have h1:=zB0 (l:=r.kf) (f:=Vi) (sep:=io) (λ_=>by show 2<=3;omega) (λn hn=>by
     have:=NG (a n hn);omega) hp.2
    rw[hp.1,show((5:Int)==1)=false from rfl,Ba,show((5:Int)==2||(5:Int)==3)=false from rfl,Ba,show((5:Int)==4)=false from rfl,Ba];simp only[Ea,Ha,Cb];omega
 exact b _ r (Nat.lt_succ_self _) h
def GM(c a:aE)(r:List aE):fL (λ_=>c) (a::r)=a++(r.map λt=>c++t).flatten:=by
 have b: ∀i,i<=r.length->eN (λ_=>c) (a::r) (i+1)=a++((r.take i).map λt=>c++t).flatten:=by
  intro i
  induction i with
  |zero=>intro _;show([]:aE)++([]++a)=_;simp
  |succ i d=> intro hi;rw[eN,d (by omega),Jb hi,Tc,List.flatten_append,Lc,Kg,Na hi,Option.getD_some];show _++(c++r[i])=_;simp
 have:=b r.length (Db _)
 rwa [Xc]at this
def U4(c:aE)(L:List aE):Lib.join L c=fL (λ_=>c) L:=by
 cases L with
 |nil=>rfl
 |cons a r=>rw[Lib.join_cons,GM];rfl
def zJr{c t:aE}{L:List aE}(h:t∈L):t.length<=(fL (λ_=>c) L).length:=by
 cases L with
 |nil=>cases h
 |cons a r=>
  rw[GM,Ea];rcases ib.1 h with rfl|h
  ·omega
  ·obtain⟨s,u,rfl⟩:=List.append_of_mem h;rw[Tc,List.flatten_append,Ea,Xb,Og,Ea,Ea];omega
def YC {α R:Type}{step:Int->Option (LO Int Unit R)}{k:Unit->Option R}(l:List α)(p:α->Bool)(r:R)
  (a: ∀(i:Nat) (h:i<l.length),step (i:Int)=some (bif p l[i]then .again ((i+1:Nat):Int)else .ret r))
  (hf:step (l.length:Int)=some (.out ())):zM step 0 k=bif l.all p then k ()else some r:=by
 refine(qd l (λv=>bif p v then none else some r) () (λi hi=> ?_) hf).trans ?_
 ·grind
 ·rw[Dj]
  grind
def R6{α:Type}(l:List α):decide ((l.length:Int)>0)= !l.isEmpty:=Nq l
def TZ{α:Type}(l:List α):decide ((l.length:Int)>1)= !decide (l.length<=1):=kg _ 1
def zt2{r:zP}(h:zx (zu r)<=co):Gp r=some (Qh r):=by
 refine ZB (λr=>zx (zu r)) (λr=>zx (zu r)<=co) (λr=>Qh r) (λS r hr hS=> ?_) h;have U:=Si r;have A:=Pw r.cond;have E:=Z4 Bj r.j;have F:=Z4 Au r.kh;obtain⟨J,m⟩:=FD r.kf;have n:decide ((r.kh.length:Int)>32)= !decide (r.kh.length<=32):=kg _ 32;have o:decide ((r.kf.length:Int)>64)= !decide (r.kf.length<=64):=kg _ 64;unfold lI;have c: ∀R:Type,∀f:R,zM (λ(e:Int)=>
   bif decide (e<(r.j.length:Int))then
    (cl r.j e).bind λp=>
    (S p).bind λs=>
    bif !s then
     some (LO.ret false)
    else
     some (LO.again (cj (e+1)))
   else
    some (LO.out ()):Int->Option (LO (Int) (Unit) _)) 0 (λ_=>some true)=some (r.j.all Qh):=by
  intro R f;refine(YC r.j Qh false (λi hi=> ?_) ?_).trans ?_
  ·have hm:=wz (Ia hi);simp only[zN hi,Ca,zF hi,Aa,hS r.j[i] (show zx (zu r.j[i])<=co by omega) hm,zD hi (show r.j.length<=co by omega)]
   grind
  ·grind
  ·grind
 have d: ∀b:Bool,zM (λ(j:Int)=>
   bif decide (j<(r.kf.length:Int))then
    (cl r.kf j).bind λt=>
    (Xx t).bind λu=>
    bif !u then
     some (LO.ret false)
    else
     some (LO.again (cj (j+1)))
   else
    some (LO.out ()):Int->Option (LO (Int) (Unit) _)) 0 (λ_=>some b)=some (r.kf.all Vh&&b):=by
  intro b;refine(YC r.kf Vh false (λi hi=> ?_) ?_).trans ?_
  ·obtain⟨V,W⟩:=m _ (Ia hi);have hp:Xx r.kf[i]=some (Vh r.kf[i]):=eU (by omega) (λv hv=>by grind);simp only[zN hi,Ca,zF hi,Aa,hp,zD hi (show r.kf.length<=co by omega)]
   grind
  ·grind
  ·grind
 simp only[za,yl,Zh,c Unit (),d,zv1 (show zL zk r.ke<=co by omega),lT,ztZ (show zx (zC r.cond)<=co by omega),zny (show zx (zC r.cond)<=co by omega),
  zO,Aa,ZU,R6,TZ,AB,n,o,bne]
 rw[RA];unfold Sn jy;by_cases k1:r.u=1
 ·simp only[k1,Int.reduceBEq,Ca];have k:zM (λ(x:Int)=>
       bif decide (x<(r.kh.length:Int))then
        (cl r.kh x).bind λL=>
        (Iu L).bind λM=>
        bif !(M==0)then
         some (LO.ret (LX.ret false))
        else
         some (LO.again (cj (x+1)))
       else
        some (LO.out ()):Int->Option (LO (Int) (Unit) (LX Unit Bool))) 0 (λ_=>some (LX.ret true))=some (LX.ret (r.kh.all Qm)):=by
   refine(YC r.kh Qm (LX.ret false) (λi hi=> ?_) ?_).trans ?_
   ·have hm:=Z7 (f:=Z0) (Ia hi);simp only[zN hi,Ca,zF hi,Aa,sW (show zx (Z0 r.kh[i])<=co by omega),zD hi (show r.kh.length<=co by omega)]
    grind
   ·grind
   ·grind
  rw[k];cases iv r.ke==0 with
  |false=>rfl
  |true=>
   cases decide (r.kh.length<=32)with
   |false=>rfl
   |true=>
    cases Ji r.cond with
    |false=>rfl
    |true=>
     cases hn:r.kf with
     |cons a l=>rfl
     |nil=>
      cases hl:r.j with
      |cons a l=>rfl
      |nil=> simp_all
 have b1:=Fa.2 k1;simp only[b1,Ba];clear c d;by_cases k2:r.u=2
 ·simp only[k2,Int.reduceBEq,Ca];cases r.ke.isEmpty<;>cases r.kh.isEmpty<;>cases r.kf.isEmpty<;>cases ah r.cond<;>rfl
 have b2:=Fa.2 k2;simp only[b2,Ba];by_cases k3:r.u=3
 ·simp only[k3,Int.reduceBEq,Ca];cases r.ke.isEmpty<;>cases r.kh.isEmpty<;>cases r.kf.isEmpty<;>cases Ri r.cond<;>rfl
 have O:=Fa.2 k3;simp only[O,Ba];by_cases k4:r.u=4
 ·simp only[k4,Int.reduceBEq,Ca];cases r.ke.isEmpty<;>cases r.kh.isEmpty<;>cases decide (r.kf.length<=1)<;>cases Ji r.cond<;>rfl
 have b4:=Fa.2 k4;simp only[b4,Ba];by_cases y:r.u=5
 ·simp only[y,Int.reduceBEq,Ca];cases r.ke.isEmpty<;>cases r.kh.isEmpty<;>cases r.kf.isEmpty<;>cases decide (r.kf.length<=64)<;>cases r.j.isEmpty<;>cases Ji r.cond<;>rfl
 have Q:=Fa.2 y;simp only[Q,Ba];rfl
def zB6{c:zh}(h:Ji c=true):c.w=[]:=by
 unfold Ji at h
 grind
def zvi{r:zP}(h:zx (zu r)<=co)(hs:Sn r=true)(b:(r.u==5)=false):sJ r=some (gu r:Int):=by
 have d:=Si r;have hb:zx (zC r.cond)<=co:=by omega
 have a:=QA r.cond;unfold sJ gu;cases h3:r.u==3 with
 |true=>simp only[Ca,Zh,XV hb,za,Aa]
 |false=>
  have:=zKP (l:=r.cond.w) (by omega) (λy c=>by have:=qU c;omega);simp only[Ba,za,Zh];refine Eq.trans this ?_;have hr:(r.cond.w.any λy=>(unw y).w.any λz=>z.u != 4)=(bif r.u==2 then hV r.cond else false):=by
   unfold Sn at hs;rw[h3,b]at hs;by_cases k1:r.u=1
   ·rw[k1]at hs ⊢;simp only[Int.reduceBEq,Ca,Da]at hs;rw[zB6 hs.2.2.1];rfl
   have b1:=Fa.2 k1;rw[b1]at hs;cases h2:r.u==2 with
   |true=> rw[h2]at hs;simp only[Ca,Ba,Da]at hs;rw[Ca,zHd hs.2.2];rfl
   |false=>
    rw[h2]at hs;cases h4:r.u==4 with
    |true=> rw[h4]at hs;simp only[Ca,Ba,Da]at hs;rw[zB6 hs.2.2];rfl
    |false=>
     grind
  rw[hr];cases r.u==2 with
  |true=>cases hV r.cond<;>rfl
  |false=>rfl
def zzG{l:List zP}(h:zL zu l<=co)(hs:l.all Qh=true):ko l=some (mx Lg l:Int):=by
 refine ZB (λl=>zL zu l) (λl=>zL zu l<=co/\l.all Qh=true) (λl=>(mx Lg l:Int)) (λS l hl hS=> ?_) ⟨h,hs⟩;obtain⟨hl,hs⟩:=hl;have r:=Z4 Bj l;unfold KI;refine(Oo l Lg (λa i=>((a:Int),(i:Int))) (λa=>(a:Int)) (a0:=0) rfl (λi a hi=> ?_) (λa=> ?_)).trans (by rw[Nat.zero_max])
 ·have hm:=Z7 (f:=zu) (Ia hi);have F:=Si l[i];have t:=Z4 Au l[i].kh;have c:=Ya.1 hs _ (Ia hi);have n:=aM l[i];rw[RA,Da,Da]at c;simp only[zN hi,Ca,zF hi,za,Aa];cases p:l[i].u==5 with
  |true=> rw[p,Ca]at n;simp only[Ca,zf,zD hi (show l.length<=co by omega),n,Nat.max_zero]
  |false=>
   rw[p,Ba]at n;have u:=LU l[i].j;have v:=gN l[i].kh;rw[hS l[i].j ⟨show zL zu l[i].j<=co by omega,c.2.2⟩ (show zL zu l[i].j<zL zu l by omega)];simp only[Ba,Aa];have e: ∀(R:Type) (k:Int->Option R),zM (λ(m:Int×Int)=>
         bif decide (m.2<(l[i].kh.length:Int))then
          (cl l[i].kh m.2).bind λx=>
          (QX x.i).bind λs=>
          some (LO.again (if s>m.1 then s else m.1,cj (m.2+1)))
         else
          some (LO.out m.1):Int×Int->Option (LO (Int×Int) (Int) _)) ((mx Lg l[i].j:Int),0) k=k ((max (mx Lg l[i].j) (mx (λd=>QI d.i) l[i].kh):Nat):Int):=by
    intro R k;refine Oo l[i].kh (λd=>QI d.i) (λa i=>((a:Int),(i:Int))) (λa=>(a:Int)) (a0:=mx Lg l[i].j) rfl (λj b o=> ?_) (λb=> ?_)
    ·have y:=Z7 (f:=Z0) (Ia o);have A:=Im l[i].kh[j];have hv:=Fq l[i].kh[j].i;simp only[zN o,Ca,zF o,Aa,MF (show cT l[i].kh[j].i<=co by omega),zD o (show l[i].kh.length<=co by omega),Yk]
    ·grind
   rw[e];have E:cj (1+((max (mx Lg l[i].j) (mx (λd=>QI d.i) l[i].kh):Nat):Int))=((1+max (mx Lg l[i].j) (mx (λd=>QI d.i) l[i].kh):Nat):Int):=by rw[eT (by omega),Lf]
   simp only[Zh,yl,zpX (show zL zk l[i].ke<=co by omega),zvi (show zx (zu l[i])<=co by omega) c.1 p,Aa,zf,E,Yk,zD hi (show l.length<=co by omega)];rw[n]
   grind
 grind
def Lh(l:List zP):Bool:=decide (Qv l<=64)&&(l.all Qh&&decide (mx Lg l<=16))
def zv4{l:List zP}(h:zL zu l<=co):TH l=some (Lh l):=by
 have c:=Z4 Bj l;have a:decide ((Qv l:Int)>64)= !decide (Qv l<=64):=kg _ 64;unfold TH Lh;simp only[oW h,za,Aa,a];cases decide (Qv l<=64)with
 |false=>rfl
 |true=>
  simp only[Ab,Ba,ja];refine(YC l Qh false (λi hi=> ?_) ?_).trans ?_
  ·have hm:=Z7 (f:=zu) (Ia hi);simp only[zN hi,Ca,zF hi,Aa,Zh,yl,zt2 (show zx (zu l[i])<=co by omega),zD hi (show l.length<=co by omega)]
   grind
  ·grind
  ·cases hs:l.all Qh with
   |false=>rfl
   |true=> have b:decide ((mx Lg l:Int)<=16)=decide (mx Lg l<=16):=ku _ 16;simp only[Ca,zzG h hs,Aa,b,ja]
def yO{s:lj}(h:zL zu s.j<=co):Fx s=some (bif Lh s.j then 0 else 8):=by
 unfold Fx;simp only[zv4 h,za,Aa]
 grind
def zNb {A S X R:Type}{step:S->Option (LO S X R)}(n:Nat)(st:Nat->A->S)(Inv:Nat->A->Prop)(Q:X->Prop){s0:S}{a0:A}(h0:s0=st 0 a0)(hI:Inv 0 a0)
  (d: ∀(i:Nat) (a:A),i<n->Inv i a-> ∃b,step (st i a)=some (.again (st (i+1) b))/\Inv (i+1) b)
  (hf: ∀a,Inv n a-> ∃x,step (st n a)=some (.out x)/\Q x): ∃x,Dg step s0=some (.out x)/\Q x:=by
 have c: ∀(m i:Nat) (a:A),i+m=n->Inv i a-> ∃j x,ZP step j (st i a)=some (.out x)/\Q x:=by
  intro m
  induction m with
  |zero=>
   intro i a hi ha;obtain rfl:i=n:=by omega
   obtain⟨x,h1,h2⟩:=hf a ha;exact⟨1,x,by simp only[ZP,h1],h2⟩
  |succ m e=> intro i a hi ha;obtain⟨b,h1,h2⟩:=d i a (by omega) ha;obtain⟨j,x,f,k⟩:=e (i+1) b (by omega) h2;exact⟨j+1,x,by simp only[ZP,h1];exact f,k⟩
 obtain⟨j,x,h1,h2⟩:=c n 0 a0 (by omega) hI;exact⟨x,by rw[h0];exact qM h1,h2⟩
def zGS{R:Type}{l:List Zv}(h:zL Z0 l<=co)(b0:Bool)(f0:zy):
  ∃x:Bool×zy,Dg (λ(b:(Bool×Int)×zy)=>
         bif decide (b.1.2<(l.length:Int))then
          (cl l b.1.2).bind λm=>
          (gq m.i).bind λe=>
          (zA (!(bif b.1.1 then true else !(e.2==0))) (wo m) (default:Int)).bind λk=>
          some (LO.again ((bif bif b.1.1 then true else !(e.2==0)then true else !(k==0),cj (b.1.2+1)),(⟨b.2.j,if e.1>b.2.depth then e.1 else b.2.depth,b.2.bad⟩:zy)))
         else
          some (LO.out (b.1.1,b.2)):(Bool×Int)×zy->Option (LO ((Bool×Int)×zy) (Bool×zy) R)) ((b0,0),f0)=some (.out x)/\
   x.1=(b0|| !l.all Qm)/\x.2.j=f0.j/\ ∀n:Nat,f0.depth=(n:Int)->l.all Qm=true->x.2.depth=((max n (mx (λd=>QI d.i) l):Nat):Int):=by
 have o:=Z4 Au l;refine zNb (A:=Bool×zy) l.length (λi a=>((a.1,(i:Int)),a.2)) (λi a=>a.1=(b0|| !(l.take i).all Qm)/\a.2.j=f0.j/\ ∀n:Nat,f0.depth=(n:Int)->(l.take i).all Qm=true->a.2.depth=((max n (mx (λd=>QI d.i) (l.take i)):Nat):Int)) _ (a0:=(b0,f0)) rfl
  ⟨by simp,rfl,λn hn _=>by simp[mx,hn]⟩ (λi a hi hI=> ?_) (λa hI=> ?_)
 ·obtain⟨p,r,s⟩:=hI;have hm:=Z7 (f:=Z0) (Ia hi);have v:=Im l[i];have hv:=Fq l[i].i;have j:Qm l[i]=(Qm l[i]&&(fx l[i].i==0)):=by unfold Qm;cases ai l[i].q<;>cases fx l[i].i==0<;>simp
  simp only[zN hi,Ca,zF hi,Aa,vN (show cT l[i].i<=co by omega),DW (show zx (Z0 l[i])<=co by omega),zO,zD hi (show l.length<=co by omega)];refine⟨(_,_),rfl,?_,r,λn hn c=> ?_⟩
  ·rw[Bw Qm hi,p]
   grind
  ·rw[Bw Qm hi,Da]at c;have t:=s n hn c.1;rw[c.2,ja]at j;have u:fx l[i].i=0:=by rw[<-Fb,<-j]
   rw[Az _ hi];simp only[La u,t,Yk]
   grind
 grind
def zMq {R:Type}{l:List Zv}(h:zL Z0 l<=co){b0:Bool}{f0:zy}{k:Bool×zy->Option R}(G:Option R->Prop)
  (hk: ∀x:Bool×zy,x.1=(b0|| !l.all Qm)->x.2.j=f0.j->(∀n:Nat,f0.depth=(n:Int)->l.all Qm=true->x.2.depth=((max n (mx (λd=>QI d.i) l):Nat):Int))->G (k x)):
  G (zM (λ(a:(Bool×Int)×zy)=>
         bif decide (a.1.2<(l.length:Int))then
          (cl l a.1.2).bind λe=>
          (gq e.i).bind λb=>
          (zA (!(bif a.1.1 then true else !(b.2==0))) (wo e) (default:Int)).bind λc=>
          some (LO.again ((bif bif a.1.1 then true else !(b.2==0)then true else !(c==0),cj (a.1.2+1)),(⟨a.2.j,if b.1>a.2.depth then b.1 else a.2.depth,a.2.bad⟩:zy)))
         else
          some (LO.out (a.1.1,a.2)):(Bool×Int)×zy->Option (LO ((Bool×Int)×zy) (Bool×zy) R)) ((b0,0),f0) k):=by
 obtain⟨x,f,h1,h2,h3⟩:=zGS (R:=R) h b0 f0;rw[Zt f]
 grind
def zMW{X R:Type}{m:Option (LX X R)}{k:X->Option R}(G:Option R->Prop)(P:X->Prop)(h: ∃o,m=some (.out o)/\P o)(hk: ∀o,P o->G (k o)):G (zK m k):=by obtain⟨o,rfl,ho⟩:=h;exact hk o ho
def zN1(a b:Nat)(h:a+b<=co):decide (cj ((a:Int)+(b:Int))>0)= !(decide (a=0)&&decide (b=0)):=by
 rw[Bv h];cases a with
 |zero=>grind
 |succ a=>
  grind
def zCU{α β:Type}(l:List α)(m:List β)(h:l.length+m.length<=co):decide (cj ((l.length:Int)+(m.length:Int))>0)= !(l.isEmpty&&m.isEmpty):=by
 rw[zN1 _ _ h]
 grind
def zHe{l:List (List aE)}(hl:l.length<=co)(h: ∀n∈l,n.length<=co):Qa l=some (!l.all Vh):=by
 unfold Qa TP;refine Uo (Po l (λc=> !Vh c) hl (λi hi=> ?_) ?_) ((Ym _ _).trans (Jv _ _))
 ·have:JI l[i]=some (!Vh l[i]):=by unfold JI;simp only[GU (h _ (Ia hi)),za,Aa]
  simp only[zN hi,Ca,zF hi,za,Aa,this]
 grind
def uY(l:List zP)(y:zy):Prop:=y.j=(Qv l:Int)/\y.bad= !(l.all Qh)/\(l.all Qh=true->y.depth=(mx Lg l:Int))
def zHg{l:List zP}{i:Nat}(hi:i<l.length):Qv (l.take (i+1))=Qv (l.take i)+iz l[i]:=by rw[tF,tF,Vq iz hi]
def zyR(l:List zP)(i:Nat):Qv (l.take i)<=Qv l:=by rw[tF,tF];exact xw iz l i
def zwb{l:List zP}(h:zL zu l<=co): ∃y,ym l=some y/\uY l y:=by
 refine Ko ztd (λl=>zL zu l) (λl=>zL zu l<=co) uY (λS l hl hS=> ?_) h;have ab:=Z4 Bj l;have ad:=l9 l;unfold Vx;refine Jt (A:=zy) l.length (λi a=>((i:Int),a)) (λi a=>a.j=(Qv (l.take i):Int)/\a.bad= !((l.take i).all Qh)/\((l.take i).all Qh=true->a.depth=(mx Lg (l.take i):Int))) _ (a0:=⟨0,0,false⟩) rfl
  ⟨by simp[Qv],by simp,λ_=>by simp[mx]⟩ (λi a hi hI=> .inl ?_) (λa hI=> .inl ?_)
 ·obtain⟨i1,i2,i3⟩:=hI;have hm:=Z7 (f:=zu) (Ia hi);have ht:=zHg hi;have al:=zyR l (i+1);have O:=xy l[i];have hz:=Si l[i];have am:=Pw l[i].cond;have an:=Z4 qZ l[i].ke;have ao:=Z4 Au l[i].kh;have ap:=Z4 Bj l[i].j;have aq:=LU l[i].j;obtain⟨Q,ar⟩:=FD l[i].kf;obtain⟨f,U,V,W,F⟩:=hS l[i].j (by omega) (by omega);have s:=zHe (l:=l[i].kf) (by omega) (λn hn=>by grind);obtain⟨told,t,u⟩:=FU (c:=l[i].cond) (by omega);have Y:decide ((l[i].kh.length:Int)>32)= !decide (l[i].kh.length<=32):=kg _ 32;have Z:decide ((l[i].kf.length:Int)>64)= !decide (l[i].kf.length<=64):=kg _ 64;have b:=RA l[i];have j:=aM l[i];have a3:cj (f.j+1)=((iz l[i]:Nat):Int):=by rw[V,O,Ho (by omega),Lf]
  have a6:cj (a.j+((iz l[i]:Nat):Int))=((Qv (l.take (i+1)):Nat):Int):=by rw[i1,Bv (by omega),ht]
  -- what is to be shown of a round
  have a7: ∀(o:(Int×Bool)×zy×zy),o.2.1=⟨((Qv (l.take (i+1)):Nat):Int),a.depth,a.bad⟩->o.1.2= !(Qh l[i])->(Qh l[i]=true-> ∃e n:Nat,o.1.1=(e:Int)/\cj (o.2.2.depth+1)=(n:Int)/\max n e=Lg l[i])->
    ∃v:zy,(some (LO.again (cj ((i:Int)+1),(⟨o.2.1.j,if o.1.1>(if cj (o.2.2.depth+1)>o.2.1.depth then cj (o.2.2.depth+1)else o.2.1.depth)then o.1.1 else if cj (o.2.2.depth+1)>o.2.1.depth then cj (o.2.2.depth+1)else o.2.1.depth,bif o.2.1.bad then true else o.1.2⟩:zy))):Option (LO (Int×zy) zy zy))=some (.again (((i+1:Nat):Int),v))/\
     (v.j=(Qv (l.take (i+1)):Int)/\v.bad= !((l.take (i+1)).all Qh)/\((l.take (i+1)).all Qh=true->v.depth=(mx Lg (l.take (i+1)):Int))):=by
   intro o E a8 a9;rw[zD hi (show l.length<=co by omega)];refine⟨_,rfl,?_,?_,λr=> ?_⟩
   ·simp only[E]
   ·simp only[E];rw[Bw Qh hi,i2,a8]
    grind
   ·rw[Bw Qh hi,Da]at r;obtain⟨e,n,h1,h2,h3⟩:=a9 r.2;have hd:=i3 r.1;simp only[E];rw[Az _ hi,h1,h2,hd,Yk,Yk,<-h3,Nat.max_assoc]
  simp only[zN hi,Ca,zF hi,za,Aa,U,s];refine zMW (λ(q:Option (LO (Int×zy) zy zy))=> ∃v:zy,q=some (LO.again (((i+1:Nat):Int),v))/\(v.j=(Qv (l.take (i+1)):Int)/\v.bad= !((l.take (i+1)).all Qh)/\((l.take (i+1)).all Qh=true->v.depth=(mx Lg (l.take (i+1)):Int))))
   (λo=>o.2.1=⟨((Qv (l.take (i+1)):Nat):Int),a.depth,a.bad⟩/\o.1.2= !(Qh l[i])/\(Qh l[i]=true-> ∃e n:Nat,o.1.1=(e:Int)/\cj (o.2.2.depth+1)=(n:Int)/\max n e=Lg l[i])) ?_ (λo ho=>a7 o ho.1 ho.2.1 ho.2.2)
  simp only[Zh,IU,zp2 (show zL zk l[i].ke<=co by omega),FX (show zL zk l[i].ke<=co by omega),Aa,
   zv9 (show zx (zC l[i].cond)<=co by omega),NP (show zx (zC l[i].cond)<=co by omega),XX (show zx (zC l[i].cond)<=co by omega),t,zO,Y,Z,a3,a6,W,
   zCU l[i].ke l[i].kh (by omega),zCU l[i].kf l[i].j (by omega),R6,TZ,AB,bne]
  unfold Sn jy at b;unfold gu at j
  -- the depth of the rules in it
  have m:l[i].j.all Qh=true->cj (f.depth+1)=((mx Lg l[i].j+1:Nat):Int):=λha=>by rw[F ha,Ho (by omega)]
  have p:l[i].ke.isEmpty=true->l[i].kh.isEmpty=true->gh l[i].ke=0/\mx (λd=>QI d.i) l[i].kh=0:=λh1 h2=>by rw[jd.1 h1,jd.1 h2];exact⟨by rw[gh],rfl⟩
  by_cases k1:l[i].u=1
  ·simp only[k1,Int.reduceBEq,Ca,Ba]at b j ⊢;refine zMq (l:=l[i].kh) (by omega) (λ(q:Option (LX ((Int×Bool)×zy×zy) (LO (Int×zy) zy zy)))=> ∃o,q=some (LX.out o)/\(o.2.1=⟨((Qv (l.take (i+1)):Nat):Int),a.depth,a.bad⟩/\o.1.2= !(Qh l[i])/\(Qh l[i]=true-> ∃e n:Nat,o.1.1=(e:Int)/\cj (o.2.2.depth+1)=(n:Int)/\max n e=Lg l[i]))) (λx h1 h2 h3=>⟨_,rfl,rfl,?_,λk=> ?_⟩)
   ·grind
   ·rw[k]at b;have b:=b.symm;simp only[Da]at b;have aw:=gN l[i].kh;refine⟨gh l[i].ke,max (mx Lg l[i].j) (mx (λd=>QI d.i) l[i].kh)+1,rfl,?_,by rw[j];omega⟩;simp only[h3 _ (F b.2.2) b.1.2.2.2.2.2];rw[Ho (by omega)]
  have b1:=Fa.2 k1;rw[b1]at b ⊢;simp only[Ba]at b ⊢;by_cases k2:l[i].u=2
  ·simp only[k2,Int.reduceBEq,Ca,Ba]at b j ⊢;refine⟨_,rfl,rfl,?_,λk=> ?_⟩
   ·grind
   ·rw[k]at b;have b:=b.symm;simp only[Da]at b;obtain⟨L,M⟩:=p b.1.1.1 b.1.1.2;refine⟨bif hV l[i].cond then 1 else 0,_,?_,m b.2.2,by grind⟩;cases hV l[i].cond<;>rfl
  have b2:=Fa.2 k2;rw[b2]at b j ⊢;simp only[Ba]at b j ⊢;by_cases k3:l[i].u=3
  ·simp only[k3,Int.reduceBEq,Ca,Ba]at b j ⊢;refine⟨_,rfl,rfl,?_,λk=> ?_⟩
   ·simp only[b];cases l[i].j.all Qh<;>cases l[i].kf.all Vh<;>cases l[i].ke.isEmpty<;>cases l[i].kh.isEmpty<;>cases l[i].kf.isEmpty<;>cases Ri l[i].cond<;>rfl
   ·rw[k]at b;have b:=b.symm;simp only[Da]at b;obtain⟨L,M⟩:=p b.1.1.1 b.1.1.2;have J:d8 l[i].cond=true:=by have:=b.1.2.2;unfold Ri at this;rw[Da]at this;exact this.1
    refine⟨Ig l[i].cond,_,u J,m b.2.2,by rw[j,L,M];omega⟩
  have b3:=Fa.2 k3;rw[b3]at b j ⊢;simp only[Ba]at b j ⊢;by_cases k4:l[i].u=4
  ·simp only[k4,Int.reduceBEq,Ca,Ba]at b j ⊢;refine⟨_,rfl,rfl,?_,λk=> ?_⟩
   ·simp only[b];cases l[i].j.all Qh<;>cases l[i].kf.all Vh<;>cases l[i].ke.isEmpty<;>cases l[i].kh.isEmpty<;>cases decide (l[i].kf.length<=1)<;>cases Ji l[i].cond<;>rfl
   ·rw[k]at b;have b:=b.symm;simp only[Da]at b;obtain⟨L,M⟩:=p b.1.1.1 b.1.1.2;exact⟨0,_,rfl,m b.2.2,by rw[j,L,M];omega⟩
  have b4:=Fa.2 k4;rw[b4]at b ⊢;simp only[Ba]at b ⊢;by_cases k5:l[i].u=5
  ·simp only[k5,Int.reduceBEq,Ca,Ba]at b j ⊢;refine⟨_,rfl,rfl,?_,λk=> ?_⟩
   ·simp only[b];have Q:decide ((l[i].kf.length:Int)<1)=l[i].kf.isEmpty:=AB _;cases l[i].j.all Qh<;>cases l[i].kf.all Vh<;>cases l[i].ke.isEmpty<;>cases l[i].kh.isEmpty<;>cases l[i].kf.isEmpty<;>cases decide (l[i].kf.length<=64)<;>cases l[i].j.isEmpty<;>cases Ji l[i].cond<;>rfl
   ·exact⟨0,0,rfl,rfl,by rw[j];rfl⟩
  have b5:=Fa.2 k5;rw[b5]at b ⊢;simp only[Ba]at b ⊢;refine⟨_,rfl,rfl,by simp only[b];rfl,λk=> ?_⟩;rw[k]at b;cases b
 ·rw[Xc]at hI;exact⟨a,by simp only[Nh,Ba],a,rfl,hI⟩
def IW{l:List zP}(h:zL zu l<=co):FB l=some (bif Lh l then 0 else 8):=by
 obtain⟨y,h1,h2,h3,h4⟩:=zwb h;have a:decide ((Qv l:Int)>64)= !decide (Qv l<=64):=kg _ 64;have b:decide ((mx Lg l:Int)>16)= !decide (mx Lg l<=16):=kg _ 16;unfold FB Lh;simp only[h1,za,Aa,h2,h3,a];cases hs:l.all Qh with
 |false=>cases decide (Qv l<=64)<;>rfl
 |true=> rw[h4 hs,b];cases decide (Qv l<=64)<;>cases decide (mx Lg l<=16)<;>rfl
end Go.Lv.VT
