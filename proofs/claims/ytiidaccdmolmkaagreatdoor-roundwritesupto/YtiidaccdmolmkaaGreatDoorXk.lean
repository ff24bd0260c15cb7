import Derived.Test.YtiidaccdmolmkaaGreatDoorXj
set_option linter.all false
namespace Go.Lv.VT
def len0{α:Type}(l:List α):((l.length:Int)==0)=l.isEmpty:=by
 cases l with
 |nil=>rfl
 |cons a r=>exact Fa.2 (by simp only[Ha];omega)
set_option maxRecDepth 100000
def zFC{n:aE}(h:n.length<=64):ZV (n,false)=some (ZA n):=bz false (by omega)
def IX{U:Bool}{c:zh}(A:zx (zC c)<=co)(t:lx U c=true)(hn:cC c<=100):zV c=some (eV ez c):=by
 refine ZB cC (λc=>zx (zC c)<=co/\lx U c=true/\cC c<=100) (eV ez) (λS c hc hS=> ?_) ⟨A,t,hn⟩;clear A t hn;obtain⟨A,hs,hn⟩:=hc;have E:=ui c;have a3:=pW A;have j: ∀y∈c.w,zx (zC y)<=co:=λy n=>by have:=qU n;omega
 rw[Xn]at hs;obtain⟨k,u,m,d,l⟩:=c;unfold jJ;rw[eV,Uz,DF];simp only at hs E j ⊢;cases h4:k==4 with
 |true=> rw[h4,Ca]at hs;simp only[Da,aa]at hs;simp only[Ca,zFC hs.2.2.2,za,Aa]
 |false=>
 have o:(k==5||k==6)=true-> ∃q:Nat,m=(q:Int)/\q<=1000000000000/\(cE m false).length<=20:=λe=>by rw[h4,e,Ba,Ca]at hs;simp only[Da,aa]at hs;exact⟨m.toNat,by omega,by omega,Wz hs.2.1 hs.2.2⟩
 cases F:k==5 with
 |true=> obtain⟨q,rfl,v,hl⟩:=o (by rw[F];rfl);have c1:zI Vk.length (cE (q:Int) false).length=true:=Eh (by simp only[Vk,Ha,Cb];omega);have c2:zI (Vk++cE (q:Int) false).length pxW.length=true:=Eh (by simp only[Ea,Vk,pxW,Ha,Cb];omega);simp only[Ba,Ca,YV v,za,Aa];exact(zn c1 _).trans (zn c2 _)
 |false=>
 cases V:k==6 with
 |true=> obtain⟨q,rfl,v,hl⟩:=o (by grind);have c3:zI Nk.length (cE (q:Int) false).length=true:=Eh (by simp only[Nk,Ha,Cb];omega);have c4:zI (Nk++cE (q:Int) false).length pxW.length=true:=Eh (by simp only[Ea,Nk,pxW,Ha,Cb];omega);simp only[Ba,Ca,YV v,za,Aa];exact(zn c3 _).trans (zn c4 _)
 |false=>
 cases W:k==7 with
 |true=> rw[h4,F,V,W,Ba,Ke,Ba,Ca]at hs;simp only[Da,aa]at hs;have hl:=YZ d hs.2.1 hs.2.2;have c1:zI ([40]:aE).length (ez d).length=true:=Eh (by grind);have c2:zI (([40]:aE)++ez d).length ([41]:aE).length=true:=Eh (by grind);simp only[Ba,Ca,JO ⟨hs.2.2⟩ hs.2.1,za,Aa];exact(zn c1 _).trans (zn c2 _)
 |false=>
 cases h8:k==8 with
 |true=>rfl
 |false=>
  rw[h4,F,V,W,h8,Ba,Ke,Ba,Ba,Ba]at hs;simp only[Da]at hs;obtain⟨hk,p⟩:=hs;have i: ∀y∈l,S y=some (eV ez y):=λy n=>hS y ⟨j y n,Ya.1 p y n,by have:=Yh n;omega⟩ (by have:=Yh n;omega);have x: ∀y∈l,(eV ez y).length+10<=KW*cC y:=λy n=>gQ YZ (Ya.1 p y n);cases h3:k==3 with
  |true=>
   rw[h3,Ca]at hk;obtain⟨y,rfl⟩: ∃y,l=[y]:=Ef.1 (eq_of_beq hk);have hm:=Ve y;have J:cl [y] 0=some y:=rfl;have L:(eV ez y).length<=940000:=by have h1:=x y hm;have h2:=Yh hm;unfold KW at h1;omega
   have hw:=zC0 (i y hm) L;have hi:(bif bf y then eV ez y else fN (eV ez y)).length<=940002:=by cases bf y<;>simp only[Ca,Ba,dz]<;>omega
   have c1:zI ([110,111,116,32]:aE).length (eV ez y).length=true:=Eh (by grind);have c2:zI ([110,111,116,32]:aE).length (bif bf y then eV ez y else fN (eV ez y)).length=true:=Eh (by grind);have v:oC [y]=(y.u==1&&Mg y):=rfl;simp only[Ba,Ca,J,za,Aa,Zh,i y hm,hw,c1,c2,Zd,v,Xb,Ye,Fg];cases y.u==1 with
   |false=>rfl
   |true=> simp only[zQ,Aa,Zh,pW (j y hm),Ca,ja];cases Mg y<;>rfl
  |false=>
   have Y:=EG (sep:=cma2) (terms:=false) i (by decide) x (by omega);have Z:=EG (sep:=or4) (terms:=true) i (by decide) x (by omega);have j3:=EG (sep:=j9) (terms:=true) i (by decide) x (by omega);have j4:=EG (sep:=j9) (terms:=false) i (by decide) x (by omega);simp only[Ca,Ba]at Y Z j3 j4;have M:((l.length:Int)==0)=l.isEmpty:=len0 l;simp only[Ba,M];have hA: ∀(y:zh) (r:List zh),l=y::r->oo y=some (Wh y):=λy r e=>LW (j y (by rw[e];simp));have O:zA (!l.isEmpty) (Yx ⟨k,u,m,d,l⟩) (default:Bool)=some (!l.isEmpty&&Mg ⟨k,u,m,d,l⟩):=by
    cases l.isEmpty with
    |true=>rfl
    |false=>simp_all
   simp only[O,za,Aa];have hE:(bif l.isEmpty then true else(!l.isEmpty&&Mg ⟨k,u,m,d,l⟩))=(l.isEmpty||Mg ⟨k,u,m,d,l⟩):=by cases l.isEmpty<;>rfl
   simp only[hE,<-Bool.or_assoc];generalize hQ:(l.isEmpty||Mg ⟨k,u,m,d,l⟩)=Q;have hf:((zA (k==2&& !Q) (cl l 0) (default:zh)).bind λf=>(zA (k==2&& !Q) (oo (⟨f.u,f.q,f.kg,f.decl,f.w⟩:zh)) (default:Bool)))=some ((k==2&& !Q)&&me l):=by
    cases hb:(k==2&& !Q)with
    |false=>rfl
    |true=>
     cases l with
     |nil=>
      grind
     |cons y r=> have J:cl (y::r) 0=some y:=rfl;simp only[zQ,J,Aa,Zh,hA y r rfl,ja];rfl
   have s: ∀{α β:Type} (a:Option zh) (b:zh->Option Bool) (K:Bool->Option aE),(a.bind λf=>(b f).bind K)=(a.bind b).bind K:=λa b K=>by cases a<;>rfl
   rw[s (α:=Unit) (β:=Unit) _ (λf=>zA (k==2&& !Q) (oo (⟨f.u,f.q,f.kg,f.decl,f.w⟩:zh)) (default:Bool)),hf,Aa];have hT:(bif Q then true else bif k==2 then((k==2&& !Q)&&me l)else false)=(Q||(k==2&&me l)):=by cases Q<;>cases k==2<;>rfl
   simp only[hT];simp only[show([44,32]:aE)=cma2 from rfl,show([32,111,114,32]:aE)=or4 from rfl,show([32,97,110,100,32]:aE)=j9 from rfl];cases hM:(Q||(k==2&&me l))<;>cases h2:k==2<;>simp only[Ca,Ba,Ab,Va,Y,Z,j3,j4,Aa]
def oP(c:zh):aE×Int:=bif !(ah c||Ri c)then([],8)else bif decide (4000<(eV ez c).length)then([],28)else(eV ez c,0)
def zLs{wd a:Zv->aE}: ∀{c:zh},(∀d∈Yg c,wd d=a d)->dy wd c=dy a c:=by
 have b: ∀(n:Nat) (c:zh),cC c<=n->(∀d∈Yg c,wd d=a d)->dy wd c=dy a c:=by
  intro n
  induction n with
  |zero=>intro c hc;have:=Gm c;omega
  |succ n i=>
   intro c hc h;have e:=ui c;rw[jv]at h;obtain⟨k,p,m,d,l⟩:=c;rw[dy,dy,Yv,Yv];simp only at h e;cases j:k==7 with
   |true=>grind
   |false=>
    rw[j,Ba]at h;have hm:l.map (λc=>bif bf c then dy wd c else fN (dy wd c))=l.map (λc=>bif bf c then dy a c else fN (dy a c)):=
     Me λy f=>by rw[i y (by have:=Yh f;omega) λd o=>h d (We.2 ⟨y,f,o⟩)]
    rw[hm];rfl
 intro c h;exact b _ c (Db _) h
def RZ{sep x:aE}: ∀{l:List aE},x∈l->x.length<=(jn sep l).length
 |[],h=>by cases h
 |y::r,h=>by
  rw[V4,Ea];rcases ib.1 h with rfl|h
  ·omega
  ·have: ∀r:List aE,x∈r->x.length<=(Lib.joinTail sep r).length:=by
    intro r
    induction r with
    |nil=>intro h;cases h
    |cons z t a=>
     intro h;have e:Lib.joinTail sep (z::t)=(sep++z)++Lib.joinTail sep t:=rfl
     grind
   grind
def zR2{wd:Zv->aE}: ∀{c:zh},lfC c=true-> ∀d∈Yg c,(wd d).length<=(dy wd c).length:=by
 have f: ∀(n:Nat) (c:zh),cC c<=n->lfC c=true-> ∀d∈Yg c,(wd d).length<=(dy wd c).length:=by
  intro n
  induction n with
  |zero=>intro c hc;have:=Gm c;omega
  |succ n r=>
   intro c hc hl d a;have i:=ui c;rw[jv]at a;rw[NZ]at hl;obtain⟨k,s,m,d0,l⟩:=c;rw[dy,Yv];simp only at a i hl;cases p:k==7 with
   |true=>rw[p,Ca]at a;rw[jc.1 a];simp only[Ca,dz];omega
   |false=>
    rw[p,Ba]at a;obtain⟨y,j,a⟩:=We.1 a;have o:(k==4||(k==5||(k==6||(k==7||k==8))))=false:=by
     cases e:(k==4||(k==5||(k==6||(k==7||k==8))))with
     |false=>rfl
     |true=>grind
    rw[o,Ba,Da]at hl;have t:(k==8)=false:=by
     cases e:k==8 with
     |false=>rfl
     |true=>grind
    have h1:=r y (by have:=Yh j;omega) (Ya.1 hl.2 y j) d a;have h2:(dy wd y).length<=(bif bf y then dy wd y else fN (dy wd y)).length:=by cases bf y<;>simp only[Ca,Ba,dz]<;>omega
    have b:(bif bf y then dy wd y else fN (dy wd y))∈l.map (λc=>bif bf c then dy wd c else fN (dy wd c)):=Rb.2 ⟨y,j,rfl⟩;have u:=RZ (sep:=or4) b;have v:=RZ (sep:=j9) b;cases h3:k==3 with
    |true=>
     rw[h3,Ca]at hl;obtain⟨z,rfl⟩: ∃z,l=[z]:=Ef.1 (eq_of_beq hl.1)
     grind
    |false=>grind
 intro c hl;exact f _ c (Db _) hl
def dS(n:Nat):decide ((n:Int)>4000)=decide (4000<n):=by grind
def zQq(n:Nat):decide ((n:Int)<=4000)= !decide (4000<n):=by
 grind
def zBm{c:zh}(j:zx (zC c)<=co)(h:SmC c):Yq c=some (oP c):=by
 unfold Yq oP;simp only[Zh,zxY j,NP j,za,Aa];cases hm:ah c with
 |true=>
  have k:fp c=eV ez c:=(zOj hm).symm;simp only[Uc,Ca,Hf,Ba,Ff,zx0 (YM hm) h.n,Aa,zf,Ab,dS,k]
  grind
 |false=>
  cases hs:Ri c with
  |false=>rfl
  |true=>
   have a:=XQ hs;have l:SupP c:=⟨a,h.n,h.d⟩;simp only[Ac,Ca,Hf,Ba,show((8:Int)==0)=false from rfl,zqS l,Aa,zf,Ab,dS];have f: ∀d∈Yg c,Qm d=true:=zMr a;cases hl:(Yg c).any lgD with
   |true=>
    obtain⟨d,b,i⟩:=Bg.1 hl;have k:4000<(ez d).length:=by
     by_cases q:4000<(ez d).length
     ·exact q
     ·unfold lgD Kh at i
      grind
    have:=zR2 (wd:=ez) (zSp a) d b;rw[<-fQ a]at this
    grind
   |false=>
    have e:dy wdP c=eV ez c:=by
     rw[fQ a];refine zLs λd b=> ?_;have:=List.any_eq_false.1 hl d b;unfold lgD Kh at this;unfold wdP Kh;rw[La (f d b)]at this ⊢;by_cases q:4000<(ez d).length
     ·grind
     ·rw[Ka q]
    grind
def zzF{l:List zm}{m:Int}(h:zL zk l<=co): ∃r,Km (l,m)=some r:=by
 have: ∃r,Km (l,m)=some r/\True:=by
  refine Ko zta (λx=>zL zk x.1) (λx=>zL zk x.1<=co) (λ_ _=>True) (λS x o hS=> ?_) (x:=(l,m)) h;obtain⟨l,m⟩:=x;have o:zL zk l<=co:=o;have p:=Z4 qZ l;unfold Ey;refine OT (A:=Int) l.length (λi a=>(a,(i:Int))) _ (a0:=0) rfl (λi a hi=> ?_) (λa=> ?_)
  ·have hm:=Z7 (f:=zk) (Ia hi);have y:=Qe l[i];have e:=Z4 QP l[i].kc;cases ha:decide (a<=m)with
   |false=>simp only[zN hi,Ca,Ba,ha];exact⟨_,rfl,_,rfl,trivial⟩
   |true=>
    simp only[zN hi,Ca,ha,zF hi,za,Aa,zD hi (show l.length<=co by omega)];refine OT (A:=Int) l[i].kc.length (λi a=>(a,(i:Int))) _ rfl (λj b d=> ?_) (λb=> ?_)
    ·have s:=Z7 (f:=z8) (Ia d);have t:=qE l[i].kc[j];have k:=Z4 yo l[i].kc[j].ka;cases hb:decide (b<=m)with
     |false=>simp only[zN d,Ca,Ba,hb];exact⟨_,rfl,_,rfl,_,rfl⟩
     |true=>
      simp only[zN d,Ca,hb,zF d,Aa,zD d (show l[i].kc.length<=co by omega)];refine OT (A:=Int) l[i].kc[j].ka.length (λi a=>(a,(i:Int))) _ rfl (λn c hn=> ?_) (λc=> ?_)
      ·have u:=Z7 (f:=zT) (Ia hn);have v:=qW l[i].kc[j].ka[n];cases hc:decide (c<=m)with
       |false=>simp only[zN hn,Ca,Ba,hc];exact⟨_,rfl,_,rfl,_,rfl⟩
       |true=> obtain⟨r,hr,_⟩:=hS (l[i].kc[j].ka[n].w,cj (m - c)) (by show zL zk l[i].kc[j].ka[n].w<=co;omega) (by show zL zk l[i].kc[j].ka[n].w<zL zk l;omega);simp only[zN hn,Ca,hc,zF hn,Aa,hr,zD hn (show l[i].kc[j].ka.length<=co by omega)];exact⟨_,rfl,_,rfl⟩
      ·simp only[Nh,Ba];exact⟨_,rfl,_,rfl,_,rfl⟩
    ·simp only[Nh,Ba];exact⟨_,rfl,_,rfl,_,rfl⟩
  ·simp only[Nh,Ba];exact⟨_,rfl,_,rfl,trivial⟩
 obtain⟨r,hr,_⟩:=this;exact⟨r,hr⟩
def zv2{l:List zm}(h:zL zk l<=co): ∃r,WH l=some r:=by obtain⟨r,hr⟩:=zzF (m:=600) h;unfold WH;rw[hr];exact⟨_,rfl⟩
def FD(l:List (List aE)):l.length<=zL (λl:List aE=>[.sl (l.map λy=>[.str y])]) l/\ ∀n∈l,n.length<=zL (λl:List aE=>[.sl (l.map λy=>[.str y])]) l/\ ∀s∈n,s.length<=zL (λl:List aE=>[.sl (l.map λy=>[.str y])]) l:=by
 have h1: ∀n:List aE,n.length<=zL (λy:aE=>[.str y]) n:=Z4 (λy=>by simp[zx,bPV]);have h2: ∀n:List aE,zx [.sl (n.map λy=>[.str y])]=1+zL (λy:aE=>[.str y]) n:=vY;refine⟨Z4 (λv=>by rw[h2];omega) l,λn hn=> ?_⟩;have hm:=Z7 (f:=λl:List aE=>[.sl (l.map λy=>[.str y])]) hn;have h3:=h2 n;have h4:=h1 n;refine⟨by omega,λs hs=> ?_⟩;have a:=Z7 (f:=λy:aE=>[.str y]) hs;have b:zx [PV.str s]=1+s.length\/zx [PV.str s]=s.length:=by simp only[zx,bPV];omega
 omega
mutual
def iz:zP->Nat
 |⟨_,_,_,_,_,l⟩=>1+Qv l
def Qv:List zP->Nat
 |[]=>0
 |r::l=>iz r+Qv l
end
def xy(r:zP):iz r=1+Qv r.j:=by obtain⟨⟩:=r;rw[iz]
def tF(l:List zP):Qv l=(l.map iz).sum:=by
 induction l with
 |nil=>rw[Qv];rfl
 |cons c l a=>rw[Qv,a];rfl
def l9: ∀l:List zP,Qv l<=zL zu l:=by
 have a: ∀(n:Nat) (l:List zP),zL zu l<n->Qv l<=zL zu l:=by
  intro n
  induction n with
  |zero=>intro l h;omega
  |succ n c=>
   intro l
   induction l with
   |nil=>intro _;rw[Qv];exact Yb _
   |cons v l b=> intro h;rw[wh]at h ⊢;rw[Qv,xy];have d:=Si v;have h1:=c v.j (by omega);have h2:=b (by omega);omega
 exact λl=>a _ l (Nat.lt_succ_self _)
def zB8(l:List zP):Qv l=l.length+(l.map λr=>Qv r.j).sum:=by
 induction l with
 |nil=>rw[Qv];rfl
 |cons r l a=>rw[Qv,a,xy,Xb,xc,Ha];omega
def oW{l:List zP}(h:zL zu l<=co):QV l=some (Qv l:Int):=by
 refine ZB (λl=>zL zu l) (λl=>zL zu l<=co) (λl=>(Qv l:Int)) (λS l hl hS=> ?_) h;unfold mI;have hn:=l9 l;have b:=Z4 Bj l;rw[zB8]at hn ⊢;refine(Ht l (λr=>Qv r.j) l.length co (by omega) (λi a hi ha=> ?_) (λa=> ?_)).trans rfl
 ·have hm:=Z7 (f:=zu) (Ia hi);have c:=Si l[i];simp only[zN hi,Ca,zF hi,za,Aa,zD hi (show l.length<=co by omega),hS l[i].j (show zL zu l[i].j<=co by omega) (show zL zu l[i].j<zL zu l by omega),Bv ha]
 ·simp only[Nh,Ba]
def kF{α:Type}(p:α->Bool): ∀(l:List α) (b:Bool),l.foldl (λb v=>b||p v) b=(b||l.any p)
 |[],b=>by simp
 |v::l,b=>by rw[Xf,kF p l,ug,Bool.or_assoc]
def Cs(x:zH):Bool:=(x.u==9||x.u==10)&&(!x.of_&&(x.lc.a==0&&x.lc.b==1))
def innS(x:zH):Bool:=x.u==3||(decide (9<=x.u)&& !Cs x)
mutual
def gh:List zm->Nat
 |[]=>0
 |⟨_,parts,_⟩::r=>max (lB parts) (gh r)
def lB:List zU->Nat
 |[]=>0
 |⟨_,simples⟩::r=>max (lE simples) (lB r)
def lE:List zH->Nat
 |[]=>0
 |⟨k,n,o,v,f,a,w,list⟩::r=>max (bif innS ⟨k,n,o,v,f,a,w,list⟩then 1+gh list else 0) (lE r)
end
def oneI(x:zH):Nat:=bif innS x then 1+gh x.w else 0
def I4(l:List zH):lE l=mx oneI l:=by
 induction l with
 |nil=>rw[lE];rfl
 |cons x l a=>obtain⟨⟩:=x;rw[lE,a];rfl
def V3(l:List zU):lB l=mx (λx=>lE x.ka) l:=by
 induction l with
 |nil=>rw[lB];rfl
 |cons x l a=>obtain⟨⟩:=x;rw[lB,a];rfl
def X3(l:List zm):gh l=mx (λx=>lB x.kc) l:=by
 induction l with
 |nil=>rw[gh];rfl
 |cons x l a=>obtain⟨⟩:=x;rw[gh,a];rfl
mutual
def Dz: ∀l:List zm,gh l<=zL zk l
 |[]=>by rw[gh];grind
 |⟨a,parts,b⟩::r=>by
  rw[gh,wh,Qe];have:=U3 parts;have:=Dz r
  grind
def U3: ∀l:List zU,lB l<=zL z8 l
 |[]=>by rw[lB];grind
 |⟨a,simples⟩::r=>by
  rw[lB,wh,qE];have:=Y3 simples;have:=U3 r
  grind
def Y3: ∀l:List zH,lE l<=zL zT l
 |[]=>by rw[lE];grind
 |⟨a,b,c,d,e,f,g,list⟩::r=>by
  rw[lE,wh,qW];have:=Dz list;have:=Y3 r
  grind
end
def AU(x:zH):(bif bif bif x.u==9 then true else x.u==10 then !x.of_ else false then x.lc.a==0&&(x.lc.b==1&&true)else false)=Cs x:=by
 unfold Cs
 grind
def OW(x:zH):EH x=some (Cs x):=congrArg some (AU x)
def zMT(x:zH):(bif x.u==3 then true else bif decide (x.u>=9)then !(bif bif bif x.u==9 then true else x.u==10 then !x.of_ else false then x.lc.a==0&&(x.lc.b==1&&true)else false)else false)=innS x:=by
 rw[AU];unfold innS
 grind
def zp2{l:List zm}(h:zL zk l<=co):Qk l=some (gh l:Int):=by
 refine ZB (λl=>zL zk l) (λl=>zL zk l<=co) (λl=>(gh l:Int)) (λS l hl hS=> ?_) h;have o:=Z4 qZ l;unfold uJ;refine(Oo l (λx=>lB x.kc) (λa i=>((a:Int),(i:Int))) (λa=>(a:Int)) (a0:=0) rfl (λi a hi=> ?_) (λa=> ?_)).trans (by rw[X3,Nat.zero_max])
 ·have hm:=Z7 (f:=zk) (Ia hi);have y:=Qe l[i];have k:=Z4 QP l[i].kc;simp only[zN hi,Ca,zF hi,za,Aa,zD hi (show l.length<=co by omega)];refine(Oo l[i].kc (λx=>lE x.ka) (λa i=>((a:Int),(i:Int))) (λa=>(a:Int)) (a0:=a) rfl (λj b e=> ?_) (λa=> ?_)).trans (by rw[V3])
  ·have p:=Z7 (f:=z8) (Ia e);have r:=qE l[i].kc[j];have m:=Z4 yo l[i].kc[j].ka;simp only[zN e,Ca,zF e,Aa,zD e (show l[i].kc.length<=co by omega)];refine(Oo l[i].kc[j].ka oneI (λa i=>((a:Int),(i:Int))) (λa=>(a:Int)) (a0:=b) rfl (λn c hn=> ?_) (λa=> ?_)).trans (by rw[I4])
   ·have s:=Z7 (f:=zT) (Ia hn);have t:=qW l[i].kc[j].ka[n];have u:=Dz l[i].kc[j].ka[n].w;simp only[zN hn,Ca,zF hn,Aa,zD hn (show l[i].kc[j].ka.length<=co by omega)];have hs:=hS l[i].kc[j].ka[n].w (by grind) (by grind);have v:=Ho (n:=gh l[i].kc[j].ka[n].w) (by omega);simp only[zMT,hs,Aa,v];have d:oneI l[i].kc[j].ka[n]=bif innS l[i].kc[j].ka[n]then 1+gh l[i].kc[j].ka[n].w else 0:=rfl;rw[d];cases innS l[i].kc[j].ka[n]with
    |true=>simp only[Ca,zf,Yk,zD hn (show l[i].kc[j].ka.length<=co by omega)];grind
    |false=>simp only[Ba,zf,Nat.max_zero,zD hn (show l[i].kc[j].ka.length<=co by omega)]
   grind
  grind
 grind
def zpX{l:List zm}(h:zL zk l<=co):Qi l=some (gh l:Int):=by
 refine ZB (λl=>zL zk l) (λl=>zL zk l<=co) (λl=>(gh l:Int)) (λS l hl hS=> ?_) h;have p:=Z4 qZ l;unfold xJ;refine(Oo l (λx=>lB x.kc) (λa i=>((a:Int),(i:Int))) (λa=>(a:Int)) (a0:=0) rfl (λi a hi=> ?_) (λa=> ?_)).trans (by rw[X3,Nat.zero_max])
 ·have hm:=Z7 (f:=zk) (Ia hi);have A:=Qe l[i];have m:=Z4 QP l[i].kc;simp only[zN hi,Ca,zF hi,za,Aa,zD hi (show l.length<=co by omega)];refine(Oo l[i].kc (λx=>lE x.ka) (λa i=>((a:Int),(i:Int))) (λa=>(a:Int)) (a0:=a) rfl (λj b k=> ?_) (λa=> ?_)).trans (by rw[V3])
  ·have r:=Z7 (f:=z8) (Ia k);have s:=qE l[i].kc[j];have o:=Z4 yo l[i].kc[j].ka;simp only[zN k,Ca,zF k,Aa,zD k (show l[i].kc.length<=co by omega)];refine(Oo l[i].kc[j].ka oneI (λa i=>((a:Int),(i:Int))) (λa=>(a:Int)) (a0:=b) rfl (λn c hn=> ?_) (λa=> ?_)).trans (by rw[I4])
   ·have t:=Z7 (f:=zT) (Ia hn);have u:=qW l[i].kc[j].ka[n];have v:=Dz l[i].kc[j].ka[n].w;simp only[zN hn,Ca,zF hn,Aa,zD hn (show l[i].kc[j].ka.length<=co by omega)];have hs:=hS l[i].kc[j].ka[n].w (by grind) (by grind);have y:=eT (n:=gh l[i].kc[j].ka[n].w) (by omega);have d:(bif l[i].kc[j].ka[n].u==3 then true else bif decide ((bif !(l[i].kc[j].ka[n].u==3)then l[i].kc[j].ka[n]else(default:zH)).u>=9)then !(bif decide ((bif !(l[i].kc[j].ka[n].u==3)then l[i].kc[j].ka[n]else(default:zH)).u>=9)&& !(l[i].kc[j].ka[n].u==3)then Cs (bif decide ((bif !(l[i].kc[j].ka[n].u==3)then l[i].kc[j].ka[n]else(default:zH)).u>=9)&& !(l[i].kc[j].ka[n].u==3)then l[i].kc[j].ka[n]else(default:zH))else default)else false)=innS l[i].kc[j].ka[n]:=by
     unfold innS;cases hk:l[i].kc[j].ka[n].u==3 with
     |true=>rfl
     |false=>
      grind
    simp only[zO,Aa,mq,OW,d,hs,y];have e:oneI l[i].kc[j].ka[n]=bif innS l[i].kc[j].ka[n]then 1+gh l[i].kc[j].ka[n].w else 0:=rfl;rw[e];cases innS l[i].kc[j].ka[n]with
    |true=>simp only[Ca,zf,Yk,zD hn (show l[i].kc[j].ka.length<=co by omega)];grind
    |false=>simp only[Ba,zf,Nat.max_zero,zD hn (show l[i].kc[j].ka.length<=co by omega)]
   grind
  grind
 grind
mutual
def hV:zh->Bool
 |⟨k,_,_,_,l⟩=>(k==5||k==6)||uC l
def uC:List zh->Bool
 |[]=>false
 |c::r=>hV c||uC r
end
def Sz(c:zh):hV c=((c.u==5||c.u==6)||c.w.any hV):=by
 have: ∀l:List zh,uC l=l.any hV:=by
  intro l
  induction l with
  |nil=>rw[uC];rfl
  |cons c l a=>rw[uC,a];rfl
 obtain⟨k,n,m,d,l⟩:=c;rw[hV,this]
def bN(b:Bool):Int:=bif b then 1 else 0
def zv9{c:zh}(h:zx (zC c)<=co):mo c=some (bN (hV c)):=by
 refine ZB (λc=>zx (zC c)) (λc=>zx (zC c)<=co) (λc=>bN (hV c)) (λS c hc hS=> ?_) h;have a:=QA c;have d: ∀{R:Type} (k:Int->Option R),zK (X:=Int) (bif bif c.u==5 then true else c.u==6 then some (LX.out 1)else some (LX.out 0)) k=k (bN (c.u==5||c.u==6)):=by intro R k;cases c.u==5<;>cases c.u==6<;>rfl
 unfold VI;rw[d];refine(wE c.w (λb y=>b||hV y) (λb i=>(bN b,(i:Int))) bN (a0:=(c.u==5||c.u==6)) rfl (λi b hi=> ?_) (λb=> ?_)).trans (by rw[kF,<-Sz])
 ·have hm:=qU (Ia hi);simp only[zN hi,Ca,zF hi,za,Aa,Zh,hS c.w[i] (show zx (zC c.w[i])<=co by omega) hm,zD hi (show c.w.length<=co by omega)];cases b<;>cases hV c.w[i]<;>rfl
 ·grind
def unw(c:zh):zh:=match c.w with
 |[y]=>bif c.u==3 then y else c
 |_=>c
def askR(c:zh):Bool:=c.w.any λy=>(unw y).w.any λz=>z.u != 4
def zTm(c:zh)(R:Type)(a:Int)(k:Int×zh->Option R):zK (X:=Int×zh) (
       bif bif c.u==3 then(c.w.length:Int)==1 else false then
        (cl c.w 0).bind λb=>
        some (LX.out (a,b))
       else
        some (LX.out (a,c))) k=k (a,unw c):=by
 unfold unw;cases hl:c.w with
 |nil=>simp_all
 |cons y r=>
  cases r with
  |nil=>cases c.u==3<;>rfl
  |cons z r=>rw[X5];simp_all
def zRo{c:zh}(h:zx (zC c)<=co):(unw c).w.length<=co:=by
 have:=QA c;unfold unw;split
 ·rename_i y hl;have:=qU (c:=c) (y:=y) (by grind);have:=QA y
  grind
 ·omega
def zKP{l:List zh}(hl:l.length<=co)(h: ∀c∈l,zx (zC c)<=co):zM (λ(a:Int×Int)=>
    bif decide (a.2<(l.length:Int))then
     (cl l a.2).bind λk=>
     zK (X:=Int×zh) (
       bif bif k.u==3 then(k.w.length:Int)==1 else false then
        (cl k.w 0).bind λr=>
        some (LX.out (a.1,r))
       else
        some (LX.out (a.1,k))) λn=>
     zM (λ(e:Int×Int)=>
       bif decide (e.2<(n.2.w.length:Int))then
        zK (X:=Int×Int) (
          (cl n.2.w e.2).bind λs=>
          bif s.u != 4 then
           some (LX.out (1,e.2))
          else
           some (LX.out (e.1,e.2))) λp=>
        some (LO.again (p.1,cj (p.2+1)))
       else
        some (LO.out e.1):Int×Int->Option (LO (Int×Int) (Int) _)) (n.1,0) λt=>
     some (LO.again (t,cj (a.2+1)))
    else
     some (LO.out a.1):Int×Int->Option (LO (Int×Int) (Int) _)) (0,0) (λo=>some o)=some (bN (l.any λy=>(unw y).w.any λz=>z.u != 4)):=by
 refine(wE l (λb y=>b||(unw y).w.any λz=>z.u != 4) (λb i=>(bN b,(i:Int))) bN (a0:=false) rfl (λi b hi=> ?_) (λb=> ?_)).trans (by rw[kF,Ac])
 ·have hb:=h _ (Ia hi);have f:=zRo hb;simp only[zN hi,Ca,zF hi,Aa,zD hi hl];rw[zTm];refine(wE (unw l[i]).w (λb (z:zh)=>b||z.u != 4) (λb i=>(bN b,(i:Int))) bN (a0:=b) rfl (λj d m=> ?_) (λb=> ?_)).trans (by rw[kF])
  ·simp only[zN m,Ca,zF m,Aa];cases (unw l[i]).w[j].u != 4 with
   |true=>simp only[Ca,zf,zD m f,Be];rfl
   |false=>simp only[Ba,zf,zD m f,Dc]
  grind
 grind
def zAz{α:Type}{p q:α->Bool}: ∀{l:List α},(∀v∈l,p v=q v)->l.any p=l.any q
 |[],_=>rfl
 |x::l,h=>by grind
def zM3{b:Bool}{y:zh}(h:Ki b y=true):hV y=(y.u != 4):=by
 unfold Ki at h;rw[Da]at h;have hl:y.w=[]:=jd.1 h.1;rw[Sz,hl,List.any_nil,Dc,bne]
 grind
def zG7{l:List zh}(h:Pv l=true): ∀y∈l,hV y=(y.u != 4):=by intro y a;obtain⟨i,hi,rfl⟩:=List.mem_iff_getElem.1 a;unfold Pv at h;have:=Ya.1 h i (by simpa using hi);simp only[Lc,Na hi,Option.getD_some]at this;exact zM3 this
def zCw{c:zh}(h:Mg c=true):hV c=c.w.any λz=>z.u != 4:=by unfold Mg at h;simp only[Da,Fb]at h;rw[Sz,h.1];show((false||false)||_)=_;rw[Ke,Ac];exact zAz (zG7 h.2.2.2)
def zLV{c:zh}(h:Wh c=true):hV c=(unw c).w.any λz=>z.u != 4:=by
 unfold Wh at h;unfold unw;cases h3:c.u==3 with
 |false=>
  rw[h3,Ba]at h;have:=zCw h
  grind
 |true=>
  rw[h3,Ca,Da]at h;have h2:=h.2;split at h2
  ·rename_i y hl;simp only[hl,Ca];rw[Da]at h2;rw[Sz,Fb.1 h3,hl,ug,List.any_nil,Dc,zCw h2.1];rfl
  ·cases h2
def zHd{c:zh}(h:ah c=true):hV c=askR c:=by
 unfold ah at h;rw[Da,Pb,Da,Da,Da,Da,Fb,Fb]at h;unfold askR;rw[Sz];rcases h.2 with⟨h1,h2⟩|⟨h1,h2⟩
 ·grind
 ·rw[h1];show((false||false)||_)=_;rw[Ke,Ac];exact zAz λy a=>zLV (Ya.1 h2.2.2 y a)
def jy(r:zP):Bool:=r.ke.isEmpty&&r.kh.isEmpty
def Sn(r:zP):Bool:=
 bif r.u==1 then(iv r.ke==0)&&(decide (r.kh.length<=32)&&(Ji r.cond&&(r.kf.isEmpty&&(r.j.isEmpty&&r.kh.all Qm))))
 else bif r.u==2 then jy r&&(r.kf.isEmpty&&ah r.cond)
 else bif r.u==3 then jy r&&(r.kf.isEmpty&&Ri r.cond)
 else bif r.u==4 then jy r&&(decide (r.kf.length<=1)&&Ji r.cond)
 else bif r.u==5 then jy r&&(!r.kf.isEmpty&&(decide (r.kf.length<=64)&&(r.j.isEmpty&&Ji r.cond)))
 else false
mutual
def Qh:zP->Bool
 |⟨k,s,d,c,n,l⟩=>Sn ⟨k,s,d,c,n,l⟩&&(n.all Vh&&Cz l)
def Cz:List zP->Bool
 |[]=>true
 |r::l=>Qh r&&Cz l
end
def zEA(l:List zP):Cz l=l.all Qh:=by
 induction l with
 |nil=>rw[Cz];rfl
 |cons c l a=>rw[Cz,a];rfl
def RA(r:zP):Qh r=(Sn r&&(r.kf.all Vh&&r.j.all Qh)):=by obtain⟨k,s,d,c,n,l⟩:=r;rw[Qh,zEA]
def gu(r:zP):Nat:=bif r.u==3 then Ig r.cond else bif r.u==2 then(bif hV r.cond then 1 else 0)else 0
mutual
def Lg:zP->Nat
 |⟨k,s,d,c,n,l⟩=>bif k==5 then 0 else max (1+max (ND l) (mx (λd=>QI d.i) d)) (max (gh s) (gu ⟨k,s,d,c,n,l⟩))
def ND:List zP->Nat
 |[]=>0
 |r::l=>max (Lg r) (ND l)
end
def zIB(l:List zP):ND l=mx Lg l:=by
 induction l with
 |nil=>rw[ND];rfl
 |cons c l a=>rw[ND,a];rfl
def aM(r:zP):Lg r=bif r.u==5 then 0 else max (1+max (mx Lg r.j) (mx (λd=>QI d.i) r.kh)) (max (gh r.ke) (gu r)):=by obtain⟨k,s,d,c,n,l⟩:=r;rw[Lg,zIB]
def mx_z{α:Type}{f:α->Nat}{g:α->List PV}: ∀{l:List α},(∀v∈l,f v<=zx (g v))->mx f l<=zL g l
 |[],_=>Yb _
 |v::l,h=>by rw[mx,wh];have:=h v Ub;have:=mx_z (l:=l) (f:=f) (g:=g) λw a=>h w (Vb _ a);omega
def gN(l:List Zv):mx (λd=>QI d.i) l<=zL Z0 l:=
 mx_z λd _=>by have:=Vo d.i;have:=Fq d.i;have:=Im d;omega
def zMi(r:zP):gu r<=1+zx (zC r.cond):=by
 have:=oF r.cond;unfold gu
 grind
def wz{r y:zP}(h:y∈r.j):zx (zu y)<zx (zu r):=by have a:=Si r;have:=Z7 (f:=zu) h;omega
def zMs: ∀r:zP,Lg r<=zx (zu r):=by
 have a: ∀(n:Nat) (r:zP),zx (zu r)<n->Lg r<=zx (zu r):=by
  intro n
  induction n with
  |zero=>intro c h;omega
  |succ n b=> intro r h;have e:=Si r;have h1:mx Lg r.j<=zL zu r.j:=mx_z λy d=>b y (by have:=wz d;omega);have h2:=gN r.kh;have h3:=Dz r.ke;have h4:=zMi r;rw[aM];cases r.u==5<;>simp only[Ca,Ba]<;>omega
 grind
def LU(l:List zP):mx Lg l<=zL zu l:=mx_z λy _=>zMs y
def yl(r:zP):(⟨r.u,r.ke,r.kh,r.cond,r.kf,r.j⟩:zP)=r:=by cases r;rfl
end Go.Lv.VT
