import Derived.Test.YtiidaccdmolmkaaGreatDoorXb
set_option linter.all false
namespace Go.Lv.VT
set_option maxRecDepth 100000
def eg(n:Nat)(l:aE):Nat:=l.foldl eS n
def JF(n:Nat)(a b:aE):eg n (a++b)=eg (eg n a) b:=List.foldl_append
def zE9{k:Nat}(h:k<10):cm (UInt8.ofNat (48+k))=true/\(UInt8.ofNat (48+k)).toNat=48+k:=by
 have:(UInt8.ofNat (48+k)).toNat=48+k:=by rw[UInt8.toNat_ofNat'];omega
 refine⟨?_,this⟩;unfold cm
 grind
def Dv: ∀(u:Nat),(Lib.decDigits u).all cm=true/\eg 0 (Lib.decDigits u)=u/\Lib.decDigits u≠[]:=by
 intro u
 induction u using Nat.strongRecOn with
 |_ u e=>
  rw[Lib.decDigits];by_cases h:u<10
  ·rw[dif_pos h];obtain⟨f,d⟩:=zE9 h;refine⟨by grind,?_,by simp⟩;show eS 0 _=u;unfold eS;rw[d];omega
  ·rw[dif_neg h];obtain⟨a,b,c⟩:=e (u / 10) (by omega);obtain⟨f,d⟩:=zE9 (k:=u%10) (by omega);refine⟨by grind,?_,by simp⟩;rw[JF,b];show eS _ _=u;unfold eS;rw[d];omega
def cz: ∀(q t:aE),q.all cm=true->cv cm (q++t)=cv cm t
 |[],t,_=>rfl
 |c::q,t,h=>by rw[Yc,Da]at h;rw[Bb,cv,La h.1,cz q t h.2]
def ie(k:Nat):UInt8:=UInt8.ofNat (48+k)
def bi(r:Nat):aE:=Lib.trimRightB [ie (r / 100),ie (r / 10%10),ie (r%10)] 48
def zE5{r:Nat}(h:r<1000):Lib.decDigits (1000+r)=49::[ie (r / 100),ie (r / 10%10),ie (r%10)]:=by rw[Lib.decDigits,dif_neg (by omega),Lib.decDigits,dif_neg (by omega),Lib.decDigits,dif_neg (by omega),Lib.decDigits,dif_pos (by omega)];rw[show(1000+r) / 10 / 10 / 10=1 by omega,show(1000+r) / 10 / 10%10=r / 100 by omega,show(1000+r) / 10%10=r / 10%10 by omega,show(1000+r)%10=r%10 by omega];rfl
def LD(r:Nat):Bool:=(bi r).all cm&&decide ((bi r).length<=3)&&decide (eg 0 (bi r)*10 ^ (3 - (bi r).length)=r)&&((bi r).isEmpty==(r==0))&& !((bi r).getLast? ==some 48)
def jF: ∀r,r<1000->LD r=true:=by decide+kernel
def Kj(r:Nat)(p:Bool):aE:=bif (bi r).isEmpty then(bif p then [46,48]else [])else 46::bi r
def Vg(m:Nat)(p:Bool):aE:=Lib.decDigits (m / 1000)++Kj (m%1000) p
def cE(n:Int)(p:Bool):aE:=(if n<0 then [45]else [])++Vg n.natAbs p
def Kk{u:Nat}(h:u<18446744073709551616):(Lib.decDigits u).length<=20:=by
 rw[Lib.decDigits_length];by_cases h1:u=0
 ·subst h1;rw[Lib.nDigits_small (by omega)];omega
 ·have:=Lib.numDigits_eq u (by omega) h;split at this<;>omega
def zN5{r:Nat}(h:r<1000)(p:Bool):(Kj r p).length<=4:=by
 have:=jF r h;simp only[LD,Da,aa]at this;unfold Kj
 grind
def pz{m:Nat}(h:m<=1000000000000)(p:Bool):(Vg m p).length<=24:=by unfold Vg;rw[Ea];have:=Kk (u:=m / 1000) (by omega);have:=zN5 (r:=m%1000) (by omega) p;omega
def Wn{n m b:Nat}(h:n+m<=100000)(a:b<=100):Zm n m b=true:=by unfold Zm;refine Ga ?_;have:=Nat.mul_le_mul h a;omega
def zHX(l:aE):(l==[])=l.isEmpty:=by cases l<;>rfl
def anbW(a:fj):aE:=
 bif a.a==0 then Lib.itoa a.b
 else(bif a.a==1 then []else bif a.a== -1 then [45]else Lib.itoa a.a)++110::(bif decide (0<a.b)then 43::Lib.itoa a.b else bif decide (a.b<0)then Lib.itoa a.b else [])
def rX{n:Int}(h1: -1000000000<=n)(h2:n<=1000000000):Yl (n,10)=some (Lib.itoa n):=by unfold Yl i64B;simp only[decide_true,ja];rw[Ga (by omega),Ga (by omega)];rfl
def Xv{n:Int}(h1: -1000000000<=n)(h2:n<=1000000000):(Lib.itoa n).length<=21:=by
 unfold Lib.itoa;split
 ·have:=Kk (u:=n.natAbs) (by omega);simp only[Ha]
  grind
 ·have:=Kk (u:=n.toNat) (by omega);omega
def Rn{a b:Nat}(h:a+b<=10000000):zI a b=true:=Zc.2 (by omega)
def bT{a:fj}(h:gS a=true):(-1000000000<=a.a/\a.a<=1000000000)/\(-1000000000<=a.b/\a.b<=1000000000):=by unfold gS Rs at h;simpa only[Da,aa] using h
def zEQ{a:fj}(h:gS a=true):(anbW a).length<=50:=by
 obtain⟨⟨h1,h2⟩,h3,h4⟩:=bT h;have l1:=Xv h1 h2;have l2:=Xv h3 h4;unfold anbW;cases a.a==0<;>cases a.a==1<;>cases a.a== -1<;>cases decide (0<a.b)<;>cases decide (a.b<0)<;>
  simp only[Ca,Ba,Ea,Ha,Cb]<;>omega
def U7:ec ([49],[49])=some []/\ec ([45,49],[49])=some [45]:=⟨rfl,rfl⟩
def zC7(a:fj):CF a=some (bif gS a then(anbW a,0)else([],8)):=by
 unfold CF;rw[IV];cases h:gS a with
 |false=>rfl
 |true=>
  obtain⟨⟨h1,h2⟩,h3,h4⟩:=bT h;have l1:=Xv h1 h2;have l2:=Xv h3 h4;simp only[za,Aa,Ca,rX h1 h2,rX h3 h4,show((0:Int) != 0)=false from rfl,Ba];unfold anbW;cases h0:a.a==0 with
  |true=>rfl
  |false=>
   simp only[Ba];have c: ∀s:aE,s.length<=21->(ck (zI s.length ([110]:aE).length)<|zK (X:=aE) (R:=aE×Int) (
     bif decide (a.b>0)then
      ck (zI ([43]:aE).length (Lib.itoa a.b).length)<|
      ck (zI (s++([110]:aE)).length (([43]:aE)++Lib.itoa a.b).length)<|
      some (.out (s++([110]:aE)++(([43]:aE)++Lib.itoa a.b)))
     else
      bif decide (a.b<0)then
       ck (zI (s++([110]:aE)).length (Lib.itoa a.b).length)<|
       some (.out (s++([110]:aE)++Lib.itoa a.b))
      else
       some (.out (s++([110]:aE)))) λd=>some (d,0))=some (s++110::(bif decide (0<a.b)then 43::Lib.itoa a.b else bif decide (a.b<0)then Lib.itoa a.b else []),0):=by
    intro s hs;rw[zn (Rn (by simp;omega)),show decide (a.b>0)=decide (0<a.b)from rfl];cases decide (0<a.b)with
    |true=> simp only[Ca];rw[zn (Rn (by simp;omega)),zn (Rn (by simp;omega)),zf,Ja];rfl
    |false=>
     simp only[Ba];cases decide (a.b<0)with
     |true=> simp only[Ca];rw[zn (Rn (by simp;omega)),zf,Ja];rfl
     |false=>rfl
   by_cases e1:a.a=1
   ·rw[e1];simp only[show((1:Int)==1)=true from rfl,Ca,show Lib.itoa 1=([49]:aE) by decide+kernel,U7.1,Aa,zf];exact c [] (by simp)
   ·by_cases e2:a.a= -1
    ·rw[e2];simp only[show((-1:Int)==1)=false by decide,show((-1:Int)== -1)=true by decide,Ca,Ba,show Lib.itoa (-1)=([45,49]:aE) by decide+kernel,U7.2,Aa,zf];exact c [45] (by simp)
    ·rw[Fa.2 e1,Fa.2 e2];simp only[Ba,zf];exact c _ l1
def ry: ∀(l:aE) (n:Nat),eg n l=n*10 ^ l.length+eg 0 l
 |[],n=>by simp[eg]
 |c::l,n=>by
  show eg (eS n c) l=n*10 ^ (l.length+1)+eg (eS 0 c) l;rw[ry l (eS n c),ry l (eS 0 c),Ng];unfold eS
  grind
def zLG(l:aE)(i:Nat):eg 0 (l.take i)<=eg 0 l:=by
 have h:eg 0 l=eg (eg 0 (l.take i)) (l.drop i):=by rw[<-JF,List.take_append_drop]
 rw[h,ry (l.drop i)];have:=Ue (eg 0 (l.take i)) (Jg (n:=(l.drop i).length) (show 0<10 by omega));omega
def Wt{b:UInt8}(h:cm b=true):48<=b.toNat/\b.toNat<=57:=by unfold cm at h;simpa using h
def zN0 {R:Type}{step:Int×Int->Option (LO (Int×Int) Int R)}{l:aE}(b:l.all cm=true)(g:l.length<=100000)(j:eg 0 l<=1000000000000)
  (a: ∀(v:Int) (i:Nat) (hi:i<l.length),step (v,(i:Int))=some (.again (if 1000000000000<cj (cj (10*v)+cj (cN ((l[i].toNat:Int) - 48)))then 1000000000000 else cj (cj (10*v)+cj (cN ((l[i].toNat:Int) - 48))),cj ((i:Int)+1))))
  (h2: ∀v:Int,step (v,(l.length:Int))=some (.out v)):Dg step (0,0)=some (.out ((eg 0 l:Nat):Int)):=by
 refine qh (λs=> ∃i:Nat,i<=l.length/\s=(((eg 0 (l.take i):Nat):Int),(i:Int))) (λs=>l.length - s.2.toNat) _ ?_ ⟨0,by omega,rfl⟩;rintro _ ⟨i,hi,rfl⟩;rcases Ec i l.length with h|h
 ·refine .inl ⟨_,a _ i h,⟨i+1,by omega,?_⟩,by simp only;rw[zY (by omega) (by omega)];omega⟩;have e:=Wt (Ya.1 b _ (Ia h));have d:eg 0 (l.take (i+1))=eS (eg 0 (l.take i)) l[i]:=by rw[Jb h,JF];rfl
  have f:=zLG l (i+1);have c:cN ((l[i].toNat:Int) - 48)=((l[i].toNat - 48:Nat):Int):=by show IntKind.u8.wrap _=_;rw[IntKind.wrap_u8];omega
  unfold eS at d;rw[c,zY (n:=10*_) (by omega) (by omega),zY (n:=((l[i].toNat - 48:Nat):Int)) (by omega) (by omega),zY (n:=(i:Int)+1) (by omega) (by omega),zY (by omega) (by omega),Ka (by omega)];refine Prod.ext ?_ ?_
  ·grind
  ·grind
 grind
def zHA {R:Type}{step:Int×Int->Option (LO (Int×Int) Int R)}{v p:Nat}(g:p<=100)(i:v*10 ^ p<=1000000000000)
  (h: ∀(a b:Int),step (a,b)=bif bif bif decide (a>0)then decide (b>0)else false then decide (b<1000000000000)else false then some (.again (cj (a - 1),if 1000000000000<cj (10*b)then 1000000000000 else cj (10*b)))else some (.out b)):
  Dg step ((p:Int),(v:Int))=some (.out ((v*10 ^ p:Nat):Int)):=by
 refine qh (λs=> ∃a b:Nat,s=((a:Int),(b:Int))/\a<=100/\b*10 ^ a=v*10 ^ p) (λs=>s.1.toNat) _ ?_ ⟨p,v,rfl,g,rfl⟩;rintro _ ⟨a,b,rfl,j,d⟩;rw[h];cases a with
 |zero=>
  grind
 |succ a=>
  rw[Ga (show((a+1:Nat):Int)>0 by omega),Ca];rw[Ng,<-pg]at d;have c:0<10 ^ a:=Jg (by omega);cases De b with
  |inl e=> subst e;refine .inr (.inl ⟨0,rfl,?_⟩);rw[<-d];simp
  |inr e=>
   rw[Ga (show((b:Nat):Int)>0 by omega),Ca];have f:b<=b*10 ^ a:=Ue b c;rw[Ga (show((b:Nat):Int)<1000000000000 by omega),Ca];refine .inl ⟨_,rfl,⟨a,10*b,?_,by omega,?_⟩,by simp only;rw[zY (by omega) (by omega)];omega⟩
   ·rw[zY (by omega) (by omega),zY (by omega) (by omega),Ka (by omega)];refine Prod.ext ?_ ?_
    ·show((a+1:Nat):Int) - 1=(a:Int);omega
    ·show 10*(b:Int)=((10*b:Nat):Int);omega
   ·rw[<-d,lh 10 b,pg,pg,lh 10 (10 ^ a)]
def YS: ∀(q:aE),q.all cm=true->Lib.indexByte q 46= -1
 |[],_=>rfl
 |c::q,h=>by
  rw[Yc,Da]at h;have a:=Wt h.1;have b:(c==46)=false:=by refine Fa.2 (λe=> ?_);subst e;revert a;decide
  rw[Lib.indexByte,b,YS q h.2];rfl
def aS: ∀(q g:aE),q.all cm=true->Lib.indexByte (q++46::g) 46=(q.length:Int)
 |[],g,_=>by rw[Lb,Lib.indexByte];rfl
 |c::q,g,h=>by
  rw[Yc,Da]at h;have a:=Wt h.1;have hc:(c==46)=false:=by refine Fa.2 (λe=> ?_);subst e;revert a;decide
  rw[Bb,Lib.indexByte,hc,aS q g h.2];have:((q.length:Int)== -1)=false:=Fa.2 (by omega);rw[this,Ha];simp
def aT: ∀(l:aE),(l.all λb=>cm b||b==46)=true->Lib.indexAny l [101,69]= -1
 |[],_=>rfl
 |c::l,h=>by
  rw[Yc,Da]at h;have hc:List.contains [101,69] c=false:=by
   have: ∀n:Nat,n<256->(cm (UInt8.ofNat n)||UInt8.ofNat n==46)=true->List.contains [101,69] (UInt8.ofNat n)=false:=by decide+kernel
   have:=this c.toNat (Kb c);rw[Ae]at this;exact this h.1
  rw[Lib.indexAny,hc,aT l h.2];rfl
def cA(r:Nat)(p:Bool):aE:=bif (bi r).isEmpty then(bif p then [48]else [])else bi r
def Bo{r:Nat}(h:r<1000)(p:Bool):(cA r p).all cm=true/\(cA r p).length<=3/\eg 0 (cA r p)*10 ^ (3 - (cA r p).length)=r/\Kj r p=(bif (cA r p).isEmpty then []else 46::cA r p)/\((cA r p).isEmpty=((r==0)&& !p)):=by
 have f:=jF r h;simp only[LD,Da,aa,Fb]at f;obtain⟨⟨⟨⟨a,b⟩,c⟩,d⟩,e⟩:=f;unfold cA Kj;cases g:(bi r).isEmpty with
 |true=>
  have i:r=0:=by rw[g]at d;exact Fb.1 d.symm
  subst i;cases p<;>refine⟨by decide,by decide,by decide,rfl,rfl⟩
 |false=>
  grind
def D7{l:aE}(h:(l.all λb=>cm b||b==46)=true):Bi l=true:=by
 unfold Bi;rw[Ya]at h ⊢;intro b hb;have:=h b hb;refine Ga ?_;rw[Pb]at this;rcases this with h1|h1
 ·have:=Wt h1;omega
 simp_all
def M7{m:Nat}(p:Bool):((Vg m p).all λb=>cm b||b==46)=true:=by
 obtain⟨d,_,_⟩:=Dv (m / 1000);obtain⟨g,_,_,e,_⟩:=Bo (r:=m%1000) (by omega) p;have f: ∀l:aE,l.all cm=true->(l.all λb=>cm b||b==46)=true:=by intro l a;rw[Ya]at a ⊢;intro b c;rw[a b c];rfl
 unfold Vg
 grind
def vz(u:Nat): ∃c r,Lib.decDigits u=c::r/\cm c=true:=by
 obtain⟨b,_,a⟩:=Dv u;cases h:Lib.decDigits u with
 |nil=>exact absurd h a
 |cons c r=>grind
def dh{c:UInt8}(h:cm c=true):c≠45/\c≠43/\c≠46/\c≠0/\List.contains [43,45] c=false:=by
 have: ∀n:Nat,n<256->cm (UInt8.ofNat n)=true->UInt8.ofNat n≠45/\UInt8.ofNat n≠43/\UInt8.ofNat n≠46/\UInt8.ofNat n≠0/\List.contains [43,45] (UInt8.ofNat n)=false:=by decide+kernel
 have:=this c.toNat (Kb c);simp_all
def zMm{m:Nat}(p:Bool): ∃f,Lib.cut (Vg m p) [46]=(Lib.decDigits (m / 1000),cA (m%1000) p,f):=by
 obtain⟨a,_,_⟩:=Dv (m / 1000);obtain⟨_,_,_,b,_⟩:=Bo (r:=m%1000) (by omega) p;unfold Vg Lib.cut;rw[aG,b];cases c:(cA (m%1000) p).isEmpty with
 |true=> rw[Ca,Ib,YS _ a,Ka (by decide)];simp_all
 |false=> rw[Ba,aS _ _ a,La (by omega)];simp_all
def zwi{n:Int}(S: -1000000000000<=n)(h2:n<=1000000000000)(p:Bool):QZ (cE n p)=some n:=by
 obtain⟨m,B⟩: ∃m:Nat,n.natAbs=m:=⟨_,rfl⟩;have k:m<=1000000000000:=by omega
 obtain⟨c,r,E,y⟩:=vz (m / 1000);obtain⟨h,C,_,_,t⟩:=dh y;have d:Vg m p=c::(r++Kj (m%1000) p):=by unfold Vg;rw[E];rfl
 have A:=pz k p;obtain⟨f,j⟩:=zMm (m:=m) p;obtain⟨X,L,Y⟩:=Dv (m / 1000);obtain⟨T,U,K,V,W⟩:=Bo (r:=m%1000) (by omega) p;have H:=Kk (u:=m / 1000) (by omega);have o:short (Vg m p)=true:=Ga (by omega);have w:Lib.trimLeftS (Vg m p) [43,45]=Vg m p:=by rw[d];unfold Lib.trimLeftS;rw[Ud,t];rfl
 have J:Lib.trimLeftS (cE n p) [43,45]=Vg m p:=by
  unfold cE;rw[B];by_cases g:n<0
  ·rw[La g];show List.dropWhile _ (45::Vg m p)=_;simp_all
  ·grind
 have Q: ∃b,cl (cE n p) 0=some b/\(((b.toNat:Int)==45)=decide (n<0)):=by
  unfold cE;rw[B];by_cases g:n<0
  ·rw[La g,Ga g];exact⟨45,rfl,rfl⟩
  ·rw[Ka g,Ma g];refine⟨c,by rw[d];rfl,Fa.2 (λe=>h ?_)⟩;exact Cf.1 (by grind)
 obtain⟨b,x,z⟩:=Q;unfold QZ;simp only[za,x,Aa];have O:Tm (cE n p,[43,45])=some (Vg m p):=by unfold Tm;rw[zn (show(short ([43,45]:aE)&&Bi [43,45])=true by decide)];exact congrArg some J
 have M:lm (Vg m p,[101,69])=some (-1):=by unfold lm;rw[zn (by simp only[o,D7 (M7 p),Nb,ja];decide)];exact congrArg some (aT _ (M7 p))
 have P:cutF (Vg m p,[46])=some (Lib.decDigits (m / 1000),cA (m%1000) p,f):=by unfold cutF;rw[zn (by exact o)];exact congrArg some j
 simp only[O,M,Aa,show decide ((-1:Int)>=0)=false from rfl,Ba,zf,P];rw[zn (Zc.2 (by omega))];have N:cj (3 - ((cA (m%1000) p).length:Int))=((3 - (cA (m%1000) p).length:Nat):Int):=by rw[zY (by omega) (by omega)];omega
 rw[N,Ma (by omega),Ba,zf];simp only;have D:maxLen=9223372036854775807:=rfl;rw[zn (Ga (by grind))];have q:eg 0 (Lib.decDigits (m / 1000)++cA (m%1000) p)*10 ^ (3 - (cA (m%1000) p).length)=m:=by rw[JF,L,ry,mf,K,pg,<-Nat.pow_add,show(cA (m%1000) p).length+(3 - (cA (m%1000) p).length)=3 by omega];omega
 have s:eg 0 (Lib.decDigits (m / 1000)++cA (m%1000) p)<=1000000000000:=by have:=Ue (eg 0 (Lib.decDigits (m / 1000)++cA (m%1000) p)) (Jg (n:=3 - (cA (m%1000) p).length) (show 0<10 by omega));omega
 rw[Zt (zN0 (l:=Lib.decDigits (m / 1000)++cA (m%1000) p) (by grind) (by grind) s (λv i R=> ?_) (λv=> ?_))]
 ·rw[Zt (zHA (by omega) (by grind) (λa b=> ?_)),q]
  ·rw[z];by_cases g:n<0
   ·rw[Ga g,Ca,zf,zY (by omega) (by omega)];congr 1;omega
   ·rw[Ma g,Ba,zf];congr 1;omega
  ·simp only
 ·have F:decide ((i:Int)<((Lib.decDigits (m / 1000)++cA (m%1000) p).length:Int))=true:=Ga (by omega);have G:decide ((0:Int)<=(i:Int))=true:=Ga (by omega);simp only[F,G,Ca,Nb,Zd,Oa,Na R,Aa]
 ·grind
def zPj(n:Int)(p:Bool):(n<0/\cE n p=45::Vg n.natAbs p)\/(¬n<0/\cE n p=Vg n.natAbs p):=by
 unfold cE
 grind
def zH1(m:Nat)(p:Bool): ∃c r,Vg m p=c::r/\cm c=true:=by obtain⟨c,r,h,a⟩:=vz (m / 1000);exact⟨c,r++Kj (m%1000) p,by unfold Vg;rw[h];rfl,a⟩
def Kr{n:Int}(b: -1000000000000<=n)(h2:n<=1000000000000)(p:Bool):(cE n p).length<=25/\1<=(cE n p).length:=by
 have:=pz (m:=n.natAbs) (by omega) p;obtain⟨c,r,a,_⟩:=zH1 n.natAbs p;rcases zPj n p with⟨_,h⟩|⟨_,h⟩
 ·grind
 grind
def Z5{n:Nat}(h:n<256):qj ((n:Nat):Int)=some (UInt8.ofNat n):=by
 unfold qj
 grind
def PS(n k:Nat)(a:k<=32):Mi .i32 (n:Int) (k:Int)=((n / 2 ^ k:Nat):Int):=by
 unfold Mi;rw[show(min ((k:Int).toNat) IntKind.i32.bits)=k by show min k 32=k;omega]
 grind
def shr6(n:Nat):Mi .i32 (n:Int) 6=((n / 64:Nat):Int):=PS n 6 (by omega)
def HY(n:Nat):Mi .i32 (n:Int) 12=((n / 4096:Nat):Int):=PS n 12 (by omega)
def gX(n:Nat):Mi .i32 (n:Int) 18=((n / 262144:Nat):Int):=PS n 18 (by omega)
def zTn(n:Int):IntKind.u8.wrap n=n%256:=by simp[IntKind.wrap,IntKind.bits,IntKind.signed]
def zRx(n:Int):IntKind.u32.wrap n=n%4294967296:=by simp[IntKind.wrap,IntKind.bits,IntKind.signed]
def Oq{n:Nat}(h:n<2147483648):w32 (n:Int)=(n:Int):=by show IntKind.i32.wrap _=_;simp only[IntKind.wrap,IntKind.bits,IntKind.signed];simp;omega
def P8{n:Nat}(h:n<2147483648):ii (n:Int)=(n:Int):=by show IntKind.u32.wrap _=_;rw[zRx];omega
def Av(n:Nat):cN (n:Int)=((n%256:Nat):Int):=by show IntKind.u8.wrap (n:Int)=_;rw[zTn];omega
def X8(n:Nat):db .u8 128 (Ij .u8 (cN (n:Int)) 63)=((128+n%64:Nat):Int):=by
 have: ∀m:Nat,m<256->db .u8 128 (Ij .u8 ((m:Nat):Int) 63)=((128+m%64:Nat):Int):=by decide+kernel
 rw[Av,this _ (Vf _ (by omega)),show n%256%64=n%64 by omega]
def DY{n:Nat}(h:n<32):db .u8 192 (cN (n:Int))=((192+n:Nat):Int):=by
 have: ∀m:Nat,m<32->db .u8 192 (cN ((m:Nat):Int))=((192+m:Nat):Int):=by decide+kernel
 exact this n h
def aK{n:Nat}(h:n<16):db .u8 224 (cN (n:Int))=((224+n:Nat):Int):=by
 have: ∀m:Nat,m<16->db .u8 224 (cN ((m:Nat):Int))=((224+m:Nat):Int):=by decide+kernel
 exact this n h
def CY{n:Nat}(h:n<8):db .u8 240 (cN (n:Int))=((240+n:Nat):Int):=by
 have: ∀m:Nat,m<8->db .u8 240 (cN ((m:Nat):Int))=((240+m:Nat):Int):=by decide+kernel
 exact this n h
def Bh{n m:Nat}(h:n+m<=2000000000):Zm n m 1=true:=by unfold Zm;grind
def JY{n:Nat}(o:n≠0)(h:n<16777216){l:aE}(m:l.length<=1000000000):Q3 (w32 (n:Int),l)=some (l++Dh n):=by
 have j:Zm l.length 1 1=true:=Bh (by omega);have f:Zm l.length 2 1=true:=Bh (by omega);have d:Zm l.length 3 1=true:=Bh (by omega);have g:Zm l.length 4 1=true:=Bh (by omega);have c:(128+n%64)<256:=by omega
 have a:(128+n / 64%64)<256:=by omega
 have b:(128+n / 4096%64)<256:=by omega
 unfold Q3 eP Dh;simp only[Oq (show n<2147483648 by omega),P8 (show n<2147483648 by omega),za,shr6,HY,gX,X8,Z5 c,Z5 a,Z5 b,Aa];by_cases e:n<128
 ·rw[Ga (by omega),Ca,Av,Z5 (by omega),Aa,zn j,Ka (by omega),La e,xe (by omega)]
 ·rw[Ma (by omega),Ba];by_cases i:n<2048
  ·rw[Ga (by omega),Ca,DY (by omega),Z5 (by omega)];simp only[Aa];rw[zn f,Ka (by omega),Ka (by omega),La i];rfl
  ·rw[Ma (by omega),Ba];by_cases p:n<55296
   ·rw[Ga (by omega),Ca,zf];simp only[Ca];rw[aK (by omega),Z5 (by omega)];simp only[Aa];rw[zn d,Ka (by omega),Ka (by omega),Ka (by omega),La (by omega)];rfl
   ·rw[Ma (by omega),Ba,zf];simp only[tY];by_cases k:57343<n/\n<65536
    ·rw[Ga (by omega),Ga (by omega),Nb,Ca,aK (by omega),Z5 (by omega)];simp only[Aa];rw[zn d,Ka (by omega),Ka (by omega),Ka (by omega),La (by omega)];rfl
    ·rw[show(decide ((57343:Int)<(n:Int))&&decide ((n:Int)<=65535))=false by grind,Ba];by_cases q:65535<n/\n<=1114111
     ·rw[Ga (by omega),Ga (by omega),Nb,Ca,CY (by omega),Z5 (by omega)];simp only[Aa];rw[zn g,Ka (by omega),Ka (by omega),Ka (by omega),Ka (by omega)];rfl
     ·rw[show(decide ((n:Int)>65535)&&decide ((n:Int)<=1114111))=false by grind,Ba,zn d,La (by omega)];rfl
def zCI{l:aE}(a:l.length<=1000000000):Q3 (65533,l)=some (l++Mm):=by have h:=JY (n:=65533) (by omega) (by omega) a;rw[Oq (by omega)]at h;exact h
def ZJ{s:aE}{c:UInt8}{l:aE}(h:c::l<:+s):l<:+s:=(Yd c l).trans h
def Ti{s:aE}{c:UInt8}{l:aE}(d:s.length<=co)(h:c::l<:+s):cj ((cG s (c::l):Int)+1)=(cG s l:Int):=by
 have b:co=4194304:=rfl;have a:=h.length_le;rw[Ha]at a;have e:cG s (c::l)+1=cG s l:=by unfold cG;rw[Ha];omega
 have:=mi s l;rw[zY (by omega) (by omega)];omega
def Js(c:UInt8)(l:aE):pk (c::l) 0=(c.toNat:Int):=rfl
def oz(c:UInt8):qj (cN ((c.toNat:Nat):Int))=some c:=by rw[Av,xe (Kb c),Z5 (Kb c),Ae]
def Iz{b:UInt8}(h:Q4 b=true):i0 b<16:=jb h
def fZ{n d:Nat}(hn:n<16777216)(a:d<16):db .i64 (VC .i64 (n:Int) 4) (d:Int)=((16*n+d:Nat):Int):=by
 have h1:VC .i64 (n:Int) 4=((16*n:Nat):Int):=by unfold VC;rw[show(2:Int) ^ (min (4:Int).toNat IntKind.i64.bits)=16 from rfl];rw[ZX (by omega) (by omega)];omega
 rw[h1];unfold db;have e:(BitVec.ofInt IntKind.i64.bits ((16*n:Nat):Int) ||| BitVec.ofInt IntKind.i64.bits (d:Int)).toNat=16*n+d:=by
  rw[BitVec.toNat_or,BitVec.toNat_ofInt,BitVec.toNat_ofInt];rw[show((((16*n:Nat):Int)%((2 ^ IntKind.i64.bits:Nat):Int)).toNat)=16*n by show(((16*n:Nat):Int)%18446744073709551616).toNat=_;omega,
   show(((d:Int)%((2 ^ IntKind.i64.bits:Nat):Int)).toNat)=d by show((d:Int)%18446744073709551616).toNat=_;omega]
  have:=Nat.two_pow_add_eq_or_of_lt (i:=4) (b:=d) a n;rw[show 2 ^ 4*n=16*n from rfl]at this;exact this.symm
 rw[e,ZX (by omega) (by omega)]
def av(b:UInt8):decide (md b<0)= !Q4 b:=by
 unfold md
 grind
def Hz: ∀(k n:Nat) (l:aE),Q4 (cr l 0)=false->hexes k n l=(n,l)
 |0,_,_,_=>rfl
 |_+1,_,[],_=>rfl
 |k+1,n,c::r,h=>by unfold hexes;rw[Ka (by rw[show Q4 c=false from h];decide)]
def L9 {R:Type}{step:(Int×Int)×zb->Option (LO ((Int×Int)×zb) (Int×zb) R)}{s l:aE}(j:l<:+s)
  (h: ∀(n i:Nat) (q:aE),q<:+s->n<16777216->i<=6->step (((n:Int),(i:Int)),sr s q)=some (bif decide (i<6)&&Q4 (cr q 0)then .again ((((16*n+i0 (cr q 0):Nat):Int),((i+1:Nat):Int)),sr s (q.drop 1))else .out ((n:Int),sr s q))):
  Dg step ((0,0),sr s l)=some (.out (((hexes 6 0 l).1:Int),sr s (hexes 6 0 l).2)):=by
 refine qh (λz=> ∃(n i:Nat) (q:aE),z=(((n:Int),(i:Int)),sr s q)/\q<:+s/\i<=6/\n<16 ^ i/\hexes (6 - i) n q=hexes 6 0 l) (λz=>6 - z.1.2.toNat) _ ?_ ⟨0,0,l,rfl,j,by omega,by decide,rfl⟩;rintro _ ⟨n,i,q,rfl,g,f,k,d⟩;have e:n<16777216:=Mc k (yg (by omega) f:16 ^ i<=16 ^ 6);rw[h n i q g e f];rcases Ec i 6 with b|m
 ·rw[Ga b,ja];cases a:Q4 (cr q 0)with
  |true=>
   cases q with
   |nil=>exact absurd a (by decide)
   |cons c r=>
    have o:=Iz a;refine .inl ⟨_,rfl,⟨16*n+i0 (cr (c::r) 0),i+1,r,rfl,ZJ g,by omega,?_,?_⟩,by grind⟩
    ·grind
    ·rw[<-d,show 6 - i=(6 - (i+1))+1 by omega];rw[hexes.eq_def ((6 - (i+1))+1) n (c::r)];simp only;rw[La (show Q4 c=true from a)];rfl
  |false=> refine .inr (.inl ⟨_,rfl,?_⟩);rw[<-d,Hz _ _ _ a]
 ·rw[Ma (by omega),Bc];refine .inr (.inl ⟨_,rfl,?_⟩);rw[<-d,show 6 - i=0 by omega];rfl
def fF: ∀(k n:Nat) (l:aE),(hexes k n l).1<16 ^ k*(n+1)
 |0,n,l=>by unfold hexes;omega
 |k+1,n,[]=>by have:0<16 ^ (k+1):=Jg (by omega);unfold hexes;exact Mc (Nat.lt_succ_self n) (Nat.le_mul_of_pos_left _ this)
 |k+1,n,c::r=>by
  unfold hexes;cases a:Q4 c with
  |true=> rw[La rfl];have h1:=fF k (16*n+i0 c) r;have:=Iz a;refine Mc h1 ?_;rw[Ng,pg];exact Cg _ (by omega)
  |false=> rw[Ka (by decide)];have:0<16 ^ (k+1):=Jg (by omega);exact Mc (Nat.lt_succ_self n) (Nat.le_mul_of_pos_left _ this)
def KN{s l acc:aE}{c:UInt8}(hs:s.length<=co)(hr:c::l<:+s)(ha:acc.length<=1000000000):
  qg (sr s (c::l),acc)=some (sr s (zR l).2,acc++(zR l).1):=by
 have hl:=ZJ hr;unfold qg;simp only[Ti hs hr,za,uh hs hl,Aa,jr];cases l with
 |nil=> rw[show([]:aE).isEmpty=true from rfl,Ca,zCI ha];rfl
 |cons d r=>
  rw[show(d::r).isEmpty=false from rfl,Ba,mK];simp only[Aa,av];cases k:Q4 (cr (d::r) 0)with
  |false=>
   rw[Va,Ca,Js,oz];simp only[Aa,Ti hs hl];rw[zn (Bh (by omega))];have:zR (d::r)=([d],r):=by show(if Q4 d then _ else _)=_;rw[Ka (by rw[show Q4 d=false from k];decide)]
   rw[this]
  |true=>
   rw[Ab,Ba];have m:zR (d::r)=(Dh (hexes 6 0 (d::r)).1,js (hexes 6 0 (d::r)).2):=by show(if Q4 d then _ else _)=_;rw[La (show Q4 d=true from k)]
   rw[m];rw[Zt (L9 (l:=d::r) hl (λn i q b hn hi=> ?_))]
   ·have b:(hexes 6 0 (d::r)).2<:+s:=(xz 6 0 _).trans hl;have f:=fF 6 0 (d::r);rw[show 16 ^ 6*(0+1)=16777216 from rfl]at f;simp only[uh hs b,Aa,wy];have o:(bif dj (cr (hexes 6 0 (d::r)).2 0)then some (LX.out (((hexes 6 0 (d::r)).1:Int),(⟨s,cj ((cG s (hexes 6 0 (d::r)).2:Int)+1)⟩:zb),acc))else some (LX.out (((hexes 6 0 (d::r)).1:Int),sr s (hexes 6 0 (d::r)).2,acc)):Option (LX (Int×zb×List UInt8) (zb×List UInt8)))
      =some (LX.out (((hexes 6 0 (d::r)).1:Int),sr s (js (hexes 6 0 (d::r)).2),acc)):=by
     cases p:(hexes 6 0 (d::r)).2 with
     |nil=>rfl
     |cons e t=>
      rw[p]at b;rw[show cr (e::t) 0=e from rfl,Ti hs b];show _=some (LX.out (_,sr s (if dj e then t else e::t),acc))
      grind
    rw[o,zf];simp only;by_cases h0:(hexes 6 0 (d::r)).1=0
    ·rw[h0,show((((0:Nat):Int))==0)=true from rfl,Ca,zf];simp only[Oq (show 65533<2147483648 by omega),show w32 (65533:Int)=65533 from Oq (n:=65533) (by omega),zCI ha,Aa];rfl
    ·rw[show(((hexes 6 0 (d::r)).1:Int)==0)=false by grind,Ba,zf];simp only[JY h0 f ha,Aa]
   ·simp only[uh hs b,Aa,mK,av];have j:decide ((i:Int)<6)=decide (i<6):=by rw[ng];omega
    rw[j];cases decide (i<6)with
    |false=>rfl
    |true=>
     rw[Ca,ja];cases a:Q4 (cr q 0)with
     |false=>rfl
     |true=>
      cases q with
      |nil=>exact absurd a (by decide)
      |cons e t=>
       have hI:md (cr (e::t) 0)=(i0 (cr (e::t) 0):Int):=by unfold md;rw[La a]
       rw[hI,fZ hn (Iz a),Ti hs b,zY (by omega) (by omega)];rfl
def zPV{s r:aE}{k:Nat}(b:s.length<=co)(c:r<:+s)(d:k<=4):Zr ((k:Int),sr s r)=some (cF (r.drop k)&&decide (k<r.length)):=by
 unfold Zr;simp only[za,Wu b c (show k<=8 by omega),Aa,wX];rw[show cj ((k:Int)+1)=((k+1:Nat):Int) by rw[zY (by omega) (by omega)];omega,Wu b c (by omega)];unfold cF;rw[Fj,Fj,Od];cases h:(cr r k==92)with
 |false=>simp_all
 |true=> have a:k<r.length:=tC (by grind);rw[Ga a];simp only[zA,Ca,Aa,ja,Nb];unfold bne;rw[EQ]
def zPU{l:aE}(h:cF l=true):0<l.length:=by unfold cF at h;rw[Da]at h;exact tC (by grind)
def lF{s r:aE}{k:Nat}(hs:s.length<=co)(hr:r<:+s)(hk:k<=4):Zr ((k:Int),sr s r)=some (cF (r.drop k)):=by
 rw[zPV hs hr hk];cases h:cF (r.drop k)with
 |false=>rfl
 |true=> have:=zPU h;rw[Ic]at this;rw[Ga (by omega)];rfl
def NM{s r:aE}(a:s.length<=co)(b:r<:+s):Zr (0,sr s r)=some (cF r):=lF (k:=0) a b (by omega)
def sP{s r:aE}{k:Nat}(a:s.length<=co)(b:r<:+s)(d:k<=2):Zw ((k:Int),sr s r)=some (d6 (r.drop k)):=by
 unfold Zw;have c:cj ((k:Int)+1)=((k+1:Nat):Int):=by rw[zY (by omega) (by omega)];omega
 simp only[c,za,Wu a b (show k<=8 by omega),Wu a b (show k+1<=8 by omega),Aa,zRj,lF a b (show k<=4 by omega),lF a b (show k+1<=4 by omega)];unfold d6;rw[Fj,Fj,ae];unfold bne;rw[JC,Od];cases cr r k==45 with
 |true=>
  simp only[Ab,Ba,He];cases fa (cr r (k+1))with
  |true=>rfl
  |false=>
   simp only[Va,zA,Ca,Ba,Aa,JC]
   grind
 |false=> simp only[Va,Ca];cases fa (cr r k)<;>cases cF (r.drop k)<;>rfl
def zOg(n:Nat):(Dh n).length<=4:=by
 unfold Dh Mm
 grind
def Ut(l:aE):(zR l).1.length<=4:=by
 cases l with
 |nil=>show Mm.length<=4;decide
 |cons c r=>
  show(if Q4 c then(Dh (hexes 6 0 (c::r)).1,js (hexes 6 0 (c::r)).2)else([c],r)).1.length<=4;split
  ·exact zOg _
  grind
def Zo(c:UInt8)(r:aE):zJ (c::r)=if cM c then((c::(zJ r).1),(zJ r).2)
  else if cF (c::r)then((zR r).1++(zJ (zR r).2).1,(zJ (zR r).2).2)
  else([],c::r):=by rw[zJ]
def QW:zJ []=([],[]):=by rw[zJ]
def zSR(l:aE):(pk l 0 != -1)= !l.isEmpty:=by unfold bne;rw[jr]
def XK{s r:aE}(i:s.length<=co)(k:r<:+s):ZW (sr s r)=some ((zJ r).1,sr s (zJ r).2):=by
 have m:co=4194304:=rfl;unfold ZW;refine TN (r:=((zJ r).1,sr s (zJ r).2)) ?_;refine qh (λz=> ∃(q a:aE),z=(sr s q,a)/\q<:+s/\a.length+4*q.length<=4*s.length/\a++(zJ q).1=(zJ r).1/\(zJ q).2=(zJ r).2) (λz=>s.length - z.1.at_.toNat) _ ?_ ⟨r,[],rfl,k,by grind,rfl,rfl⟩;rintro _ ⟨q,a,rfl,f,j,d,b⟩;simp only[za,uh i f,Aa,C8];cases q with
 |nil=>
  refine .inr (.inr ⟨_,rfl,?_⟩);rw[QW]at d b
  grind
 |cons c t=>
  have g:=f.length_le;rw[Ha]at g j;rw[show cr (c::t) 0=c from rfl];rw[Zo]at d b;cases e:cM c with
  |true=>
   rw[e,La rfl]at d b;refine .inl ⟨(sr s t,a++[c]),?_,⟨t,a++[c],rfl,ZJ f,by grind,by grind,b⟩,?_⟩
   ·rw[Ca,Js,oz];simp only[Aa];rw[zn (Bh (by omega)),Ti i f]
   ·show s.length - cG s t<s.length - cG s (c::t);unfold cG;grind
  |false=>
   rw[e,Ka (by decide)]at d b;rw[Ba,zSR,show(c::t).isEmpty=false from rfl,NM i f];cases h:cF (c::t)with
   |true=>
    rw[h,La rfl]at d b;have l:=Ut t;have n:=ZO t;refine .inl ⟨(sr s (zR t).2,a++(zR t).1),?_,⟨_,_,rfl,(ZT t).trans (ZJ f),by grind,by grind,b⟩,?_⟩
    ·simp only[Va,zA,Ca,Aa,KN i f (show a.length<=1000000000 by omega)]
    ·show s.length - cG s (zR t).2<s.length - cG s (c::t);unfold cG;grind
   |false=> simp_all
def jm(l:aE):(zJ l).2<:+l:=by
 match l with
 |[]=>rw[QW];grind
 |c::r=>
  rw[Zo];split
  ·exact(jm r).trans (Yd c r)
  ·split
   ·have:=ZO r;exact(jm (zR r).2).trans ((ZT r).trans (Yd c r))
   grind
termination_by l.length
decreasing_by
 all_goals grind
def ew(c:UInt8):aE:=bif decide (32<c.toNat)&&decide (c.toNat<127)&& !cm c&& !alB c then [92,c]else 92::(j0 c.toNat++[32])
def i9(dash:Bool)(k:Nat)(c:UInt8):aE:=bif cM c&&(k==0|| !cm c)&& !dash then [c]else ew c
def cJ(dash:Bool):Nat->aE->aE
 |_,[]=>[]
 |k,c::r=>i9 dash k c++cJ dash (k - 1) r
def zM8(c:UInt8):namN c.toNat=cM c:=by
 have: ∀n:Nat,n<256->namN (UInt8.ofNat n).toNat=cM (UInt8.ofNat n):=by decide+kernel
 have h:=this c.toNat (Kb c);simp_all
def U6(c:UInt8):Du (c.toNat:Int)=some (cM c):=by rw[VV,zM8]
def jS(c:UInt8):Jn (c.toNat:Int)=some (cm c):=WV c
def zMI(c:UInt8):bH (c.toNat:Int)=some (alB c):=kq (by decide+kernel) c
def zLO(c:UInt8):wu64 (c.toNat:Int)=(c.toNat:Int):=by
 have:=Kb c;show IntKind.u64.wrap _=_;have h: ∀n:Int,IntKind.u64.wrap n=n%18446744073709551616:=λn=>by simp[IntKind.wrap,IntKind.bits,IntKind.signed]
 rw[h];omega
def Oz(c:UInt8):qj ((c.toNat:Nat):Int)=some c:=by simp_all
def D9(n:Nat):(j0 n).length<=2:=by unfold j0;split<;>simp
def Xq(c:UInt8){acc:aE}(j:acc.length<=1000000000):qp ((c.toNat:Int),acc)=some (acc++ew c):=by
 have i:=Kb c;unfold qp ew;simp only[za,jS,zMI];have g:decide ((c.toNat:Int)>32)=decide (32<c.toNat):=by rw[ng];omega
 have f:decide ((c.toNat:Int)<127)=decide (c.toNat<127):=by rw[ng];omega
 rw[g,f];have b:short (acc++[(92:UInt8)])=true:=Ga (by grind);have e:vv ((wu64 (c.toNat:Int),16),acc++[(92:UInt8)])=some (acc++[(92:UInt8)]++j0 c.toNat):=by unfold vv;simp only[zLO,b];rw[zn (by simp;omega)];rfl
 have h:=D9 c.toNat;have a:ck (Zm acc.length 1 1) (za (vv ((wu64 (c.toNat:Int),16),acc++[(92:UInt8)])) λd=>ck (Zm d.length 1 1) (some (d++[(32:UInt8)])))=some (acc++92::(j0 c.toNat++[32])):=by rw[zn (Bh (by omega)),e];simp only[za,Aa];rw[zn (Bh (by grind))];simp
 simp only[za]at a;rw[a];cases decide (32<c.toNat)with
 |false=>rfl
 |true=>
  cases decide (c.toNat<127)with
  |false=>rfl
  |true=>
   cases cm c with
   |true=>rfl
   |false=>
    cases alB c with
    |true=>rfl
    |false=> simp only[zA,Ca,Va,Bool.and_self,Aa,Oz];rw[zn (Bh (by omega))]
def Ik(c:UInt8):(ew c).length<=4:=by
 have:=D9 c.toNat;unfold ew
 grind
def rR(dash:Bool)(k:Nat)(c:UInt8):(i9 dash k c).length<=4:=by
 have:=Ik c;unfold i9
 grind
def Ej(dash:Bool): ∀(k:Nat) (l:aE),(cJ dash k l).length<=4*l.length
 |_,[]=>by unfold cJ;simp
 |k,c::r=>by
  have:=rR dash k c;have:=Ej dash (k - 1) r;unfold cJ
  grind
def zPT{dash:Bool}{k i:Nat}{l:aE}(h:i<l.length):cJ dash (k - i) (l.drop i)=i9 dash (k - i) l[i]++cJ dash (k - (i+1)) (l.drop (i+1)):=by rw[Eb h,cJ,show k - i - 1=k - (i+1) by omega]
def vZ {R:Type}{step:Int×List UInt8->Option (LO (Int×List UInt8) (List UInt8) R)}{l acc:aE}{k:Nat}{dash:Bool}(hl:l.length<=100000)(ha:acc.length<=100000000)
  (h1: ∀(i:Nat) (a:aE) (hi:i<l.length),a.length<=500000000->step ((i:Int),a)=some (.again (cj ((i:Int)+1),a++i9 dash (k - i) l[i])))
  (h2: ∀a,step ((l.length:Int),a)=some (.out a)):Dg step (0,acc)=some (.out (acc++cJ dash k l)):=by
 refine qh (λz=> ∃(i:Nat) (a:aE),z=((i:Int),a)/\i<=l.length/\a.length<=acc.length+4*i/\a++cJ dash (k - i) (l.drop i)=acc++cJ dash k l) (λz=>l.length - z.1.toNat) _ ?_ ⟨0,acc,rfl,by omega,by omega,rfl⟩;rintro _ ⟨i,a,rfl,hi,c,b⟩;rcases Ec i l.length with h|h
 ·refine .inl ⟨_,h1 i a h (by omega),⟨i+1,_,by rw[zY (by omega) (by omega)];rfl,by omega,?_,?_⟩,by simp only;rw[zY (by omega) (by omega)];omega⟩
  ·have:=rR dash (k - i) l[i]
   grind
  ·rw[<-b,zPT h,Ja]
 ·have:i=l.length:=by omega
  subst this;refine .inr (.inl ⟨_,h2 a,?_⟩);rw[<-b,Je (Db _)];rw[show cJ dash (k - l.length) []=[] by rw[cJ],Ib]
def Lj(k:Nat)(l:aE):Bool:= !(k==0)&&l==[45]
def qC(l:aE):Nat:=if [45].isPrefixOf l then 2 else 1
def Tq(l:aE):Qx l=some ((qC l:Nat):Int):=by
 unfold Qx qC;simp only[za,Ar,Aa]
 grind
def ZA(l:aE):aE:=cJ (l==[45]) (qC l) l
def cW(p:UInt8->Bool):aE->aE
 |[]=>[]
 |c::r=>(bif p c then ew c else [c])++cW p r
def dl(c:UInt8):Bool:=c==10||c==12||c==13||c==34||c==92
def hY(c:UInt8):Bool:=decide (c.toNat<=32)||c==34||c==39||c==40||c==41||c==92||c==127
def Xj:aE->Bool
 |[]=>false
 |c::r=>(c==101||c==69)&&jx r&& !(List.isPrefixOf [45,45] r)
def Ug:aE->aE
 |[]=>[]
 |c::r=>bif Xj (c::r)then ew c++cJ false 0 r else ZA (c::r)
def Er(k:Int):aE:=
 bif k==13 then [32]else bif k==14 then [60,33,45,45]else bif k==15 then [45,45,62]else bif k==16 then [58]else bif k==17 then [59]else bif k==18 then [44]else
 bif k==19 then [91]else bif k==20 then [93]else bif k==21 then [40]else bif k==22 then [41]else bif k==23 then [123]else [125]
def eq(t:ze):aE:=
 bif t.u==1 then ZA t.kb
 else bif t.u==2 then ZA t.kb++[40]
 else bif t.u==3 then 64::ZA t.kb
 else bif t.u==4 then 35::(bif t.la then ZA t.kb else cJ false 0 t.kb)
 else bif t.u==5 then 34::(cW dl t.kb++[34])
 else bif t.u==7 then [117,114,108,40]++(cW hY t.kb++[41])
 else bif t.u==9 then t.kb
 else bif t.u==10 then cE t.kg (!t.la)
 else bif t.u==11 then cE t.kg false++[37]
 else bif t.u==12 then cE t.kg (!t.la)++Ug t.ki
 else Er t.u
def Am(p:UInt8->Bool): ∀l:aE,(cW p l).length<=4*l.length
 |[]=>by unfold cW;simp
 |c::r=>by
  have:=Ik c;have:=Am p r;unfold cW
  grind
def zPS{p:UInt8->Bool}{i:Nat}{l:aE}(h:i<l.length):cW p (l.drop i)=(bif p l[i]then ew l[i]else [l[i]])++cW p (l.drop (i+1)):=by rw[Eb h,cW]
def zBs {R:Type}{step:Int×List UInt8->Option (LO (Int×List UInt8) (List UInt8) R)}{l acc:aE}{p:UInt8->Bool}(hl:l.length<=100000)(ha:acc.length<=100000000)
  (h1: ∀(i:Nat) (a:aE) (hi:i<l.length),a.length<=500000000->step ((i:Int),a)=some (.again (cj ((i:Int)+1),a++(bif p l[i]then ew l[i]else [l[i]]))))
  (h2: ∀a,step ((l.length:Int),a)=some (.out a)):Dg step (0,acc)=some (.out (acc++cW p l)):=by
 refine qh (λz=> ∃(i:Nat) (a:aE),z=((i:Int),a)/\i<=l.length/\a.length<=acc.length+4*i/\a++cW p (l.drop i)=acc++cW p l) (λz=>l.length - z.1.toNat) _ ?_ ⟨0,acc,rfl,by omega,by omega,rfl⟩;rintro _ ⟨i,a,rfl,hi,c,b⟩;rcases Ec i l.length with h|h
 ·refine .inl ⟨_,h1 i a h (by omega),⟨i+1,_,by rw[zY (by omega) (by omega)];rfl,by omega,?_,?_⟩,by simp only;rw[zY (by omega) (by omega)];omega⟩
  ·have:=Ik l[i]
   grind
  ·rw[<-b,zPS h,Ja]
 ·have:i=l.length:=by omega
  subst this;refine .inr (.inl ⟨_,h2 a,?_⟩);rw[<-b,Je (Db _)];rw[show cW p []=[] by rw[cW],Ib]
def UM{l acc:aE}{k:Nat}(d:l.length<=100000)(b:acc.length<=100000000):qy ((l,(k:Int)),acc)=some (acc++cJ (Lj k l) k l):=by
 unfold qy;rw[Zt (vZ (dash:=Lj k l) (k:=k) (l:=l) (acc:=acc) d b (λi a f b=> ?_) (λa=> ?_))]
 ·have g:decide ((i:Int)<(l.length:Int))=true:=Ga (by omega);have e:cl l (i:Int)=some l[i]:=zF f;have j:decide ((i:Int)>=(k:Int))=(k - i==0):=by
   by_cases h:k<=i
   ·grind
   ·grind
  have m:((k:Int)==0)=(k==0):=by
   by_cases h:k=0
   ·subst h;rfl
   ·grind
  simp only[g,Ca,e,j,m,za,Aa,U6,jS];have c:(bif k==0 then true else !(l==[45]))= !Lj k l:=by unfold Lj;cases k==0<;>cases l==[45]<;>rfl
  rw[c];unfold i9;cases cM l[i]with
  |false=>
   cases k - i==0<;>simp only[zA,Ab,Va,Nc,Bc,Nb,Ca,Ba,Aa,Xq l[i] (show a.length<=1000000000 by omega),zf]
  |true=> cases k - i==0<;>cases cm l[i]<;>cases Lj k l<;>simp only[zA,Ab,Va,Nc,Bc,Nb,Be,Dc,ja,Ac,Uc,Ca,Ba,Aa,Oz,zn (Bh (show a.length+1<=2000000000 by omega)),Xq l[i] (show a.length<=1000000000 by omega),zf]
 grind
def zGR(l:aE):Lj (qC l) l=(l==[45]):=by unfold Lj qC;split<;>rfl
def xu{l acc:aE}(a:l.length<=100000)(b:acc.length<=100000000):qy ((l,((qC l:Nat):Int)),acc)=some (acc++ZA l):=by rw[UM a b,zGR];rfl
def zPn{n:Nat}{b:aE}(c:n<=1000000000000)(d:b.length<=100000):Nt (((n:Int),10),b)=some (b++Lib.decDigits n):=by have a:short b=true:=Ga (by omega);unfold Nt;simp only[a,Nb,Oa,decide_true,ja];rw[Ga (by omega),Ga (by omega)];rfl
def wU{m:Nat}(n:m<=1000000000000)(p:Bool)(b:aE)(o:b.length<=90000):
  ((Nt ((cj (Int.tdiv (m:Int) 1000),10),b)).bind λa=>(Yl (cj (1000+Int.tmod (m:Int) 1000),10)).bind λd=>ck (decide (1<=(d.length:Int)))<|
   (Dq (List.drop 1 d,[48])).bind λc=>zK (X:=List UInt8) (R:=List UInt8) (bif !(c==[])then ck (Zm a.length 1 1)<|ck (Zm (a++[(46:UInt8)]).length c.length 1)<|some (LX.out (a++[(46:UInt8)]++c))else bif p then ck (Zm a.length ([46,48]:aE).length 1)<|some (LX.out (a++([46,48]:aE)))else some (LX.out a)) λl=>some l)=some (b++Vg m p):=by
 have k:cj (Int.tdiv (m:Int) 1000)=((m / 1000:Nat):Int):=by rw[show Int.tdiv (m:Int) 1000=((m / 1000:Nat):Int)from rfl,zY (by omega) (by omega)]
 have j:cj (1000+Int.tmod (m:Int) 1000)=((1000+m%1000:Nat):Int):=by rw[show Int.tmod (m:Int) 1000=((m%1000:Nat):Int)from rfl,zY (by omega) (by omega)];omega
 have f:m%1000<1000:=by omega
 rw[k,j];have i:Yl (((1000+m%1000:Nat):Int),10)=some (49::[ie (m%1000 / 100),ie (m%1000 / 10%10),ie (m%1000%10)]):=by unfold Yl i64B;simp only[decide_true,ja];rw[Ga (by omega),Ga (by omega)];rw[<-zE5 f];show some (Lib.itoa _)=_;unfold Lib.itoa;rw[Ka (by omega),Oa]
 have e:=Kk (u:=m / 1000) (by omega);rw[zPn (by omega) (by omega),Aa,i,Aa,zn (Ga (by simp))];have g:Dq (List.drop 1 (49::[ie (m%1000 / 100),ie (m%1000 / 10%10),ie (m%1000%10)]),[48])=some (bi (m%1000)):=rfl;rw[g,Aa,zHX];have h:=jF _ f;simp only[LD,Da,aa]at h;unfold Vg Kj;cases (bi (m%1000)).isEmpty with
 |true=>
  simp only[Ab,Ba,Ca];cases p with
  |true=>rw[Ca,zn (Wn (by grind) (by omega)),zf,Ja];rfl
  |false=>simp_all
 |false=> simp only[Va,Ba,Ca];rw[zn (Wn (by grind) (by omega)),zn (Wn (by grind) (by omega)),zf,Ja,Ja];rfl
def tN{n:Int}(d: -1000000000000<=n)(h2:n<=1000000000000)(p:Bool){acc:aE}(c:acc.length<=80000):Jy ((n,p),acc)=some (acc++cE n p):=by
 unfold Jy cE;simp only[za];by_cases a:n<0
 ·obtain⟨m,rfl⟩: ∃m:Nat,n= -(m:Int):=⟨n.natAbs,by omega⟩;rw[Ga a,Ca,zn (Wn (by omega) (by omega)),zf,La a];simp only;have b:cj (0 - -(m:Int))=(m:Int):=by rw[show(0 - -(m:Int))=(m:Int) by omega,zY (by omega) (by omega)]
  rw[b,Int.natAbs_neg,Int.natAbs_natCast,<-Ja];exact wU (by omega) p (acc++[45]) (by grind)
 ·obtain⟨m,rfl⟩: ∃m:Nat,n=(m:Int):=⟨n.toNat,by omega⟩;rw[Ma a,Ba,zf,Ka a];simp only;rw[Int.natAbs_natCast,Lb];exact wU (by omega) p acc (by omega)
def zQk: ∀n:Nat,n<256->(db IntKind.u8 (n:Int) 32==101)=(UInt8.ofNat n==101||UInt8.ofNat n==69):=by decide+kernel
def zQj(c:UInt8):(db IntKind.u8 (c.toNat:Int) 32==101)=(c==101||c==69):=by have:=zQk c.toNat (Kb c);simp_all
def zQ5(c:UInt8):decide (Lib.indexByte [10,12,13,34,92] c.toNat.toUInt8>=0)=dl c:=by
 have: ∀n:Nat,n<256->decide (Lib.indexByte [10,12,13,34,92] n.toUInt8>=0)=dl (UInt8.ofNat n):=by decide+kernel
 have:=this c.toNat (Kb c);simp_all
def zRq(c:UInt8):(decide ((c.toNat:Int)<=32)||decide (Lib.indexByte [34,39,40,41,92,127] c.toNat.toUInt8>=0))=hY c:=by
 have: ∀n:Nat,n<256->(decide ((n:Int)<=32)||decide (Lib.indexByte [34,39,40,41,92,127] n.toUInt8>=0))=hY (UInt8.ofNat n):=by decide+kernel
 have:=this c.toNat (Kb c);simp_all
def jU {t:ze}(h:Eg t=true)(e:(t.u==1)=false)(h2:(t.u==2)=false)(g:(t.u==3)=false)(d:(t.u==4)=false)(i:(t.u==5)=false)(j:(t.u==7)=false)(f:(t.u==9)=false)
  (c:(t.u==10)=false) (b:(t.u==11)=false) (a:(t.u==12)=false):13<=t.u/\t.u<=24:=by
 unfold Eg at h
 grind
def zNd: ∀n:Nat,n<12->(SA ()).bind (λa=>cl [a.e0,a.e1,a.e2,a.e3,a.e4,a.e5,a.e6,a.e7,a.e8,a.e9,a.e10,a.e11] (cN ((13+n:Int) - 13)))=some (Er (13+n:Int)):=by decide+kernel
def SN(k:Int):(Er k).length<=4:=by
 unfold Er;cases k==13<;>cases k==14<;>cases k==15<;>simp only[Ca,Ba]<;>try (simp;done)
 grind
def l7{t:ze}{acc:aE}(x:Eg t=true)(R:t.kb.length<=5000)(h2:t.ki.length<=5000)(ha:acc.length<=60000):Ku (t,acc)=some (acc++eq t):=by
 have one: ∀q:aE,q.length<=90000->Zm q.length 1 1=true:=λq hq=>Wn (by omega) (by omega);have z: ∀l:aE,l.length<=5000->(ZA l).length<=20000:=λl hl=>by have:=Ej (l==[45]) (qC l) l;unfold ZA;omega
 unfold Ku eq;simp only[za];cases H:t.u==1 with
 |true=>simp only[Ca,Tq,Aa,xu (show t.kb.length<=100000 by omega) (show acc.length<=100000000 by omega)]
 |false=>
 cases L:t.u==2 with
 |true=> simp only[Ca,Ba,Tq,Aa,xu (show t.kb.length<=100000 by omega) (show acc.length<=100000000 by omega)];have:=z t.kb R;rw[zn (one _ (by grind)),Ja]
 |false=>
 cases M:t.u==3 with
 |true=> simp only[Ca,Ba,Tq,Aa];rw[zn (one _ (by omega)),xu (by omega) (by grind),Ja];rfl
 |false=>
 cases Q:t.u==4 with
 |true=>
  simp only[Ca,Ba,Tq,Aa];cases t.la with
  |true=> simp only[Ca,zf];rw[zn (one _ (by omega)),xu (by omega) (by grind),Ja];rfl
  |false=> simp only[Ba,zf];rw[zn (one _ (by omega)),show(0:Int)=((0:Nat):Int)from rfl,UM (by omega) (by grind),Ja];rfl
 |false=>
 cases P:t.u==5 with
 |true=>
  simp only[Ca,Ba];have k:maxLen=9223372036854775807:=rfl;rw[zn (one _ (by omega)),zn (Ga (by omega))];have C:=Am dl t.kb;rw[Zt (zBs (p:=dl) (l:=t.kb) (acc:=acc++[34]) (by omega) (by grind) (λi a F y=> ?_) (λa=> ?_))]
  ·rw[zn (one _ (by grind)),Ja,Ja];rfl
  ·have D:decide ((i:Int)<(t.kb.length:Int))=true:=Ga (by omega);have A:decide ((0:Int)<=(i:Int))=true:=Ga (by omega);simp only[D,A,Nb,Ca,Zd,Oa,Na F,Aa,QQ,zQ5];cases dl t.kb[i]with
   |true=>simp only[Ca,Xq _ (show a.length<=1000000000 by omega),Aa,zf]
   |false=>simp only[Ba,Oz,Aa,zn (Bh (show a.length+1<=2000000000 by omega)),zf]
  ·grind
 |false=>
 cases O:t.u==7 with
 |true=>
  simp only[Ca,Ba];have k:maxLen=9223372036854775807:=rfl;rw[zn (Wn (by grind) (by omega)),zn (Ga (by omega))];have C:=Am hY t.kb;rw[Zt (zBs (p:=hY) (l:=t.kb) (acc:=acc++[117,114,108,40]) (by omega) (by grind) (λi a F y=> ?_) (λa=> ?_))]
  ·rw[zn (one _ (by grind)),Ja,Ja]
  ·have D:decide ((i:Int)<(t.kb.length:Int))=true:=Ga (by omega);have A:decide ((0:Int)<=(i:Int))=true:=Ga (by omega);simp only[D,A,Nb,Ca,Zd,Oa,Na F,Aa,QQ];rw[<-zRq];cases decide ((t.kb[i].toNat:Int)<=32)with
   |true=>simp only[Ab,ZF,Aa,Ca,Uc,Xq _ (show a.length<=1000000000 by omega),zf]
   |false=>
    simp only[Va,zQ,Aa,Ba,Ac];cases decide (Lib.indexByte [34,39,40,41,92,127] t.kb[i].toNat.toUInt8>=0)with
    |true=>simp only[Ca,Xq _ (show a.length<=1000000000 by omega),Aa,zf]
    |false=>simp only[Ba,Oz,Aa,zn (Bh (show a.length+1<=2000000000 by omega)),zf]
  ·grind
 |false=>
 cases N:t.u==9 with
 |true=> simp only[Ca,Ba];rw[zn (Wn (by omega) (by omega))]
 |false=>
 have g:(t.u==10||t.u==11||t.u==12)=true->rngS t=true/\(!(t.ki==[])==(t.u==12))=true:=by intro Z;unfold Eg at x;simp only[H,L,M,Q,P,O,N,Z,Ke,Ba,Ca,Da]at x;exact⟨x.1,x.2.1⟩
 have b:rngS t=true-> -1000000000000<=t.kg/\t.kg<=1000000000000:=by intro j;unfold rngS at j;simp only[Da,aa]at j;exact⟨j.1,j.2.1⟩
 cases s:t.u==10 with
 |true=> obtain⟨u,w⟩:=b (g (by rw[s];rfl)).1;simp only[Ca,Ba,tN u w _ (show acc.length<=80000 by omega),Aa]
 |false=>
 cases E:t.u==11 with
 |true=>
  obtain⟨u,w⟩:=b (g (by grind)).1;have T:(cE t.kg false).length<=25:=by
   have:=pz (m:=t.kg.natAbs) (by omega) false;unfold cE;rw[Ea];split
   ·grind
   ·grind
  simp only[Ca,Ba,tN u w _ (show acc.length<=80000 by omega),Aa];rw[zn (one _ (by grind)),Ja]
 |false=>
 cases o:t.u==12 with
 |true=>
  obtain⟨j,X⟩:=g (by grind);obtain⟨u,w⟩:=b j;rw[o]at X;have T:(cE t.kg (!t.la)).length<=25:=by
   have:=pz (m:=t.kg.natAbs) (by omega) (!t.la);unfold cE;rw[Ea];split
   ·grind
   ·grind
  simp only[Ca,Ba,tN u w _ (show acc.length<=80000 by omega),Aa];cases G:t.ki with
  |nil=>grind
  |cons c r=>
   rw[G,Ha]at h2;have h:cl (c::r) 0=some c:=rfl;have B:List.drop 1 (c::r)=r:=rfl;have f:decide (1<=((c::r:aE).length:Int))=true:=Ga (by grind);simp only[h,B,f,Uc,Zd,Aa,zQj,lW,Ar,Tq];have v:(acc++cE t.kg (!t.la)).length<=100000000:=by rw[Ea];omega
   have d:=xu (l:=c::r) (acc:=acc++cE t.kg (!t.la)) (by grind) v;have e:Ug (c::r)=(bif (c==101||c==69)&&jx r&& !(List.isPrefixOf [45,45] r)then ew c++cJ false 0 r else ZA (c::r)):=rfl;rw[e];have Y:(c==101||c==69)=true->qp ((c.toNat:Int),acc++cE t.kg (!t.la))=some (acc++cE t.kg (!t.la)++ew c):=λ_=>Xq c (by grind);cases S:c==101||c==69 with
   |false=> simp_all
   |true=>
    simp only[zQ,Aa,Ca,ja];cases J:jx r with
    |false=> simp_all
    |true=>
     simp only[zQ,Aa,Ca,ja];cases hp:List.isPrefixOf [45,45] r with
     |true=> simp only[Ab,Ba,d,Aa];rw[Ja]
     |false=> simp only[Va,Ca,Y S,Aa];have K:=Ik c;rw[show(0:Int)=((0:Nat):Int)from rfl,UM (by omega) (by rw[Ea,Ea];omega)];rw[Ja,Ja];rfl
 |false=>
 obtain⟨W,V⟩:=jU x H L M Q P O N s E o;obtain⟨n,J⟩: ∃n:Nat,t.u=13+(n:Int):=⟨(t.u - 13).toNat,by omega⟩;have h:=zNd n (by omega);rw[<-J]at h;have k:=SN t.u;simp only[Ba];have U:SA ()=some ⟨[32],[60,33,45,45],[45,45,62],[58],[59],[44],[91],[93],[40],[41],[123],[125]⟩:=rfl;rw[U]at h ⊢;simp only[Aa]at h ⊢;rw[h];simp only[Aa];rw[zn (Wn (by omega) (by omega))]
def eN(sep:Nat->aE)(l:List aE):Nat->aE
 |0=>[]
 |i+1=>eN sep l i++((bif i==0 then []else sep i)++l.getD i [])
def fL(sep:Nat->aE)(l:List aE):aE:=eN sep l l.length
def JL(sep:Nat->aE)(l:List aE): ∀{n i:Nat},i<=n->(eN sep l i).length<=(eN sep l n).length
 |0,i,h=>by
  obtain rfl:i=0:=by omega
  exact Db _
 |n+1,i,h=>by
  rcases Ec i (n+1)with a|a
  ·have:=JL sep l (n:=n) (i:=i) (by omega);rw[eN,Ea];omega
  ·obtain rfl:i=n+1:=by omega
   exact Db _
def M8{S X R:Type}{step:S->Option (LO S X R)}{k:X->Option R}(n:Nat)(st:Nat->S)(x:X){s0:S}(h0:s0=st 0)(c: ∀i,i<n->step (st i)=some (.again (st (i+1))))(hf:step (st n)=some (.out x)):zM step s0 k=k x:=by
 have a: ∀(m i:Nat),i+m=n-> ∃j,ZP step j (st i)=some (.out x):=by
  intro m
  induction m with
  |zero=>
   intro i hi;obtain rfl:i=n:=by omega
   exact⟨1,by simp only[ZP,hf]⟩
  |succ m d=> intro i hi;obtain⟨j,b⟩:=d (i+1) (by omega);exact⟨j+1,by simp only[ZP,c i (by omega)];exact b⟩
 obtain⟨j,b⟩:=a n 0 (by omega);rw[h0,Go.Lv.Zt (qM b)]
def eI:Nat:=1000000000
def lL {R:Type}{step:Int×aE->Option (LO (Int×aE) aE R)}{k:aE->Option R}{sep:Nat->aE}{L:List aE}{acc:aE}(hn:L.length<=co)(hb:acc.length+(fL sep L).length<=eI)
  (h1: ∀(i:Nat) (a:aE) (hi:i<L.length),a.length+((bif i==0 then []else sep i)++L[i]).length<=eI->step ((i:Int),a)=some (.again (cj ((i:Int)+1),a++((bif i==0 then []else sep i)++L[i]))))
  (h2: ∀a,step ((L.length:Int),a)=some (.out a)):zM step (0,acc) k=k (acc++fL sep L):=by
 refine M8 L.length (λi=>((i:Int),acc++eN sep L i)) _ (by show _=(((0:Nat):Int),acc++eN sep L 0);rw[eN,Ib];rfl) (λi hi=> ?_) (h2 _);have hm:=JL sep L (n:=L.length) (i:=i+1) (by omega);have e:eN sep L (i+1)=eN sep L i++((bif i==0 then []else sep i)++L[i]):=by rw[eN,Lc,Na hi];rfl
 unfold fL at hb;show step ((i:Int),acc++eN sep L i)=_;rw[h1 i _ hi (by rw[e,Ea]at hm;rw[Ea];omega),zD hi hn,e,Ja]
def Ol{s b:aE}(h:b.length+s.length<=eI):zq (s,b)=some ((s.length:Int),b++s):=by have:eI=1000000000:=rfl;unfold zq copyV;simp only[za,Aa];rw[zn (Bh (by omega))]
def Xr{c:Int}{y:UInt8}{b:aE}(hc:qj c=some y)(h:b.length+1<=eI):Zf (c,b)=some (b++[y]):=by have:eI=1000000000:=rfl;unfold Zf copyV;simp only[za,Aa,hc];rw[zn (Bh (by omega))]
def w23W{l:aE}{k:Nat}(hl:l.length<=100000):Lu (l,(k:Int))=qy ((l,(k:Int)),[]):=by rfl
def zSG{t:ze}(hf:Eg t=true)(hk:t.u=1\/t.u=4\/t.u=5)(h1:t.kb.length<=5000)(h2:t.ki.length<=5000):gF t=some (eq t,0):=by
 have a:co=4194304:=rfl;have e:aH t=Ku (t,[]):=by
  unfold aH Ku;rcases hk with hk|hk|hk
  ·rw[hk];rfl
  ·rw[hk];cases t.la<;>simp only[show((4:Int)==1)=false from rfl,show((4:Int)==2)=false from rfl,show((4:Int)==3)=false from rfl,show((4:Int)==4)=true from rfl,Ca,Ba,za,Tq,Aa,zf]<;>rfl
  ·rw[hk];rfl
 unfold gF;rw[AV (by omega) (by omega),hf];simp only[za,Aa,Ab,Ba];rw[e,l7 hf h1 h2 (by simp),Lb,Aa]
def WQ{t:ze}{b:aE}(hf:Eg t=true)(hk:t.u=1\/t.u=4\/t.u=5)(h1:t.kb.length<=5000)(h2:t.ki.length<=5000)(h:b.length+(eq t).length<=eI):Zi (t,b)=some (b++eq t):=by unfold Zi;rw[zSG hf hk h1 h2];simp only[za,Aa];rw[Ol h,Aa]
def lO(v:aE):aE:=34::(cW dl v++[34])
def ll{l:aE}(h:Gh l=true):l.length<=64/\(!(l==[]))=true/\ZL l=true:=by
 unfold Gh at h;simp only[Da,aa]at h
 grind
def tkw1{l b:aE}(h:Gh l=true)(hb:b.length+(ZA l).length<=eI):Zi (⟨1,l,0,[],false⟩,b)=some (b++ZA l):=by obtain⟨h1,h2,h3⟩:=ll h;exact WQ (by unfold Eg;rw[h2,h3];rfl) (.inl rfl) (show l.length<=5000 by omega) (by simp) hb
def tkw4{l b:aE}(h:Gh l=true)(hb:b.length+(ZA l).length+1<=eI):Zi (⟨4,l,0,[],true⟩,b)=some (b++35::ZA l):=by obtain⟨h1,h2,h3⟩:=ll h;exact WQ (by unfold Eg;rw[h2,h3];rfl) (.inr (.inl rfl)) (show l.length<=5000 by omega) (by simp) (show b.length+(ZA l).length+1<=eI from hb)
def tkw5{l b:aE}(h:ZL l=true)(h1:l.length<=400)(hb:b.length+(lO l).length<=eI):Zi (⟨5,l,0,[],false⟩,b)=some (b++lO l):=
 WQ (by unfold Eg;rw[h];rfl) (.inr (.inr rfl)) (show l.length<=5000 by omega) (by simp) hb
def fP(z:zm×zB×Bool):Bool:=Xg z.1 z.2.1.deep.toNat z.2.1.has z.2.2
def okPl(z:zm×zB×Bool):Prop:=zx (zk z.1)<=co/\ ∃d:Nat,d<=3/\z.2.1.deep=(d:Int)
section
variable {S:zm×zB×Bool->Option Bool} {N:Nat} (hS: ∀z,okPl z->zx (zk z.1)<N->S z=some (fP z)) (hN:N<=co)
include hS hN
def hSel{c:zm}{d:Nat}{h b:Bool}(hc:zx (zk c)<N)(a:d<=3):S (c,⟨(d:Int),h⟩,b)=some (Xg c d h b):=
 hS (c,⟨(d:Int),h⟩,b) ⟨by show zx (zk c)<=co;omega,d,a,rfl⟩ hc
def zDI{x:zH}(e:zx (zT x)<=N){d:Nat}(b:d<=3)(h:Bool):
  qx S (x.w,⟨(d:Int),h⟩,x)=some (!x.w.all λc=>Xg c d h (x.u==14)):=by
 have j:=qW x;have a:=Z4 qZ x.w;unfold qx YP;refine Uo (Po x.w (λc=> !Xg c d h (x.u==14)) (by omega) (λi hi=> ?_) ?_) ((Ym _ _).trans (Jv _ _))
 ·have hm:=Z7 (f:=zk) (Ia hi);simp only[zN hi,Ca,zF hi,za,Aa,LP,eH];rw[hSel hS hN (by omega) b];rfl
 ·simp only[Nh,Ba]
def zEC{x:zH}(k:zx (zT x)<=N){d:Nat}(l:d<=3)(h:Bool):bB S (x,⟨(d:Int),h⟩)=some (Oj x d h):=by
 have p:=qW x;rw[BO];unfold bB;simp only[mq,zM9,za,Aa,zEp l,ZU,Nq];have a:=zIP (x:=x) (by omega) (some true) rfl;simp only[za]at a;have go: ∀(j:Option (LX Unit Bool)) (b:Bool),j=some (bif b then .out ()else .ret false)->(zK j λ_=>some (di x))=some (di x&&b):=by
  intro j b m;subst m;cases b with
  |true=>simp only[Ca,zf,Nb]
  |false=>simp only[Ba,zBL,Nc]
 rw[a];refine go _ _ ?_;cases f:hasS x with
 |false=>cases x.w.isEmpty<;>rfl
 |true=>
  simp only[Ca];have n:(bif x.u==9||x.u==10 then false else !(x.u==13||x.u==14))=nu x:=by
   unfold nu;unfold hasS at f;by_cases i:x.u=9
   ·simp only[i];rfl
   by_cases e:x.u=10
   ·simp only[e];rfl
   simp only[Fa.2 i,Fa.2 e,Ke,Ba,Da,aa]at f ⊢;have:x.u=11\/x.u=12\/x.u=13\/x.u=14:=by omega
   rcases this with h|h|h|h<;>(rw[h];rfl)
  cases hp:(d==3||h&&x.u==14)with
  |true=>rfl
  |false=>
   have o:d≠3:=by intro hc;rw[hc]at hp;cases hp
   simp only[Ba,zDI hS hN k (show d+1<=3 by omega),zO,Aa,n];cases nu x<;>cases x.w.isEmpty<;>cases x.w.all (λc=>Xg c (d+1) (h||x.u==14) (x.u==14))<;>rfl
def zxW{c:zU}(n:zx (z8 c)<=N){d:Nat}(l:d<=3)(h:Bool):wJ S (c,⟨(d:Int),h⟩)=some (QF c d h):=by
 have o:=qE c;have k:=Z4 yo c.ka;have e:decide ((c.ka.length:Int)>64)= !decide (c.ka.length<=64):=kg _ 64;rw[aO];unfold wJ lC tagS;have hl: ∀b:Bool,zM (λ(j:Int)=>
    bif decide (j<(c.ka.length:Int))then
     za (cl c.ka j) λa=>
     za (bB S ((⟨a.u,a.q,a.op,a.i,a.ld,a.lc,a.of_,a.w⟩:zH),⟨(d:Int),h⟩)) λm=>
     bif !m then
      some (LO.ret false)
     else
      some (LO.again (cj (j+1)))
    else
     some (LO.out ())) 0 (λ_=>some b)=some (b&&c.ka.all λx=>Oj x d h):=by
  intro b;refine(qd c.ka (λx=>bif Oj x d h then none else some false) () (λi hi=> ?_) ?_).trans ?_
  ·have hm:=Z7 (f:=zT) (Ia hi);simp only[zN hi,Ca,zF hi,za,Aa,mq,zEC hS hN (show zx (zT c.ka[i])<=N by omega) l h,zD hi (show c.ka.length<=co by omega)];cases Oj c.ka[i] d h<;>rfl
  ·simp only[Nh,Ba]
  ·rw[Dj];cases c.ka.all λx=>Oj x d h
   ·cases b<;>rfl
   ·cases b<;>rfl
 simp only[oO (show c.lg.length<=co by omega),zO,za,Aa,e,Nq]at hl ⊢;rw[hl];cases c.lg==[]<;>cases c.lg==[42]<;>cases aj c.lg<;>cases decide (c.ka.length<=64)<;>cases c.ka.isEmpty<;>rfl
end
def zHn{c:zm}{d:Nat}{h b:Bool}(hc:zx (zk c)<=co)(j:d<=3):zw (c,⟨(d:Int),h⟩,b)=some (Xg c d h b):=by
 refine ZB (λz=>zx (zk z.1)) okPl fP (λS z r hS=> ?_) (x:=(c,⟨(d:Int),h⟩,b)) ⟨hc,d,j,rfl⟩;obtain⟨c,⟨s,h⟩,b⟩:=z;obtain⟨hc,d,j,k⟩:=r;have k:s=(d:Int):=k;subst k;have hc:zx (zk c)<=co:=hc;have t:=Qe c;have m:=Z4 QP c.kc;show _=some (Xg c ((d:Int).toNat) h b);rw[Oa,jM];unfold bJ WC;have e1:decide (c.lf>4)= !decide (c.lf<=4):=by
  by_cases a:c.lf<=4
  ·rw[Ga a,Ma (by omega)];rfl
  ·rw[Ma a,Ga (by omega)];rfl
 have e2:(cj ((c.kj.length:Int)+1) != (c.kc.length:Int))= !decide (c.kj.length+1=c.kc.length):=by
  rw[zD (n:=co) (i:=c.kj.length) (by omega) (Db _)];by_cases a:c.kj.length+1=c.kc.length
  ·rw[Ga a,a];simp
  ·rw[Ma a];simp;omega
 have e3:decide ((c.kc.length:Int)>64)= !decide (c.kc.length<=64):=kg _ 64;have e:qF S (c.kc,⟨(d:Int),h⟩)=some (!c.kc.all λx=>QF x d h):=by
  unfold qF iP;refine Uo (Po c.kc (λx=> !QF x d h) (by omega) (λi hi=> ?_) ?_) ((Ym _ _).trans (Jv _ _))
  ·have hm:=Z7 (f:=z8) (Ia hi);simp only[zN hi,Ca,zF hi,za,Aa,AP,BV];rw[zxW (N:=zx (zk c)) hS (by omega) (by omega) j];rfl
  ·simp only[Nh,Ba]
 have hl: ∀p:Bool,zM (λ(l:Int)=>
    bif decide (l<(c.kj.length:Int))then
     za (cl c.kj l) λo=>
     bif bif decide ((o.toNat:Int)<1)then true else decide ((o.toNat:Int)>4)then
      some (LO.ret false)
     else
      some (LO.again (cj (l+1)))
    else
     some (LO.out ())) 0 (λ_=>some p)=some (c.kj.all Jl&&p):=by
  intro p;refine(qd c.kj (λb=>bif Jl b then none else some false) () (λi hi=> ?_) ?_).trans ?_
  ·simp only[zN hi,Ca,zF hi,za,Aa,zD hi (show c.kj.length<=co by omega)];have u:decide ((c.kj[i].toNat:Int)<1)= !decide (1<=c.kj[i].toNat):=by
    by_cases a:1<=c.kj[i].toNat
    ·rw[Ga a,Ma (by omega)];rfl
    ·rw[Ma a,Ga (by omega)];rfl
   have v:decide ((c.kj[i].toNat:Int)>4)= !decide (c.kj[i].toNat<=4):=kg _ 4;rw[u,v];unfold Jl;cases decide (1<=c.kj[i].toNat)<;>cases decide (c.kj[i].toNat<=4)<;>rfl
  ·simp only[Nh,Ba]
  ·rw[Dj];cases c.kj.all Jl<;>rfl
 simp only[e,za,Aa,e1,e2,e3,Nf]at hl ⊢;rw[hl];cases (b==(c.lf != 0))<;>cases decide (c.lf<=4)<;>cases decide (c.kj.length+1=c.kc.length)<;>cases decide (c.kc.length<=64)<;>rfl
def Pn:List aE:=[[],[32],[32,62,32],[32,43,32],[32,126,32]]
def opsW:List aE:=[[],[61],[126,61],[124,61],[94,61],[36,61],[42,61]]
def pseW:List aE:=[[108,105,110,107],[118,105,115,105,116,101,100],[97,110,121,45,108,105,110,107],[114,111,111,116],[101,109,112,116,121],[110,116,104,45,99,104,105,108,100],[110,116,104,45,108,97,115,116,45,99,104,105,108,100],[105,115],[119,104,101,114,101],[110,111,116],[104,97,115]]
def fstW:aE:=[58,102,105,114,115,116,45,99,104,105,108,100]
def lstW:aE:=[58,108,97,115,116,45,99,104,105,108,100]
def ofW:aE:=[32,111,102,32]
def eM(b:UInt8):aE:=Pn.getD b.toNat []
def io(_:Nat):aE:=[44,32]
def Uh(k:Int):aE:=bif decide (k>1)then(Pn.getD k.toNat []).drop 1 else []
def gg(t:aE):aE:=bif t==[42]then [42]else ZA t
def attW(x:zH):aE:=91::(ZA x.q++((bif x.op==0 then []else opsW.getD x.op.toNat []++lO x.i)++((bif x.ld then [32,105]else [])++[93])))
def Rm(x:zH):Bool:=bif bif !x.of_ then x.lc.a==0&&(x.lc.b==1&&true)else false then decide (x.u<=10)else false
def hdsW(x:zH)(s:aE):aE:=
 bif x.u==1 then 35::ZA x.q
 else bif x.u==2 then 46::ZA x.q
 else bif x.u==3 then attW x
 else bif Rm x then(bif x.u==9 then fstW else lstW)
 else 58::(pseW.getD (x.u - 4).toNat []++(bif decide (x.u<=8)then []else 40::((bif decide (x.u<=10)then anbW x.lc++(bif x.of_ then ofW else [])else [])++(s++[41]))))
mutual
def mj:zm->aE
 |⟨lead,parts,combs⟩=>Uh lead++fL (λi=>eM (combs.getD (i - 1) 0)) (cmpL parts)
def cmpL:List zU->List aE
 |[]=>[]
 |c::r=>hJ c::cmpL r
def hJ:zU->aE
 |⟨tag,simples⟩=>gg tag++fL (λ_=>[]) (smpL simples)
def smpL:List zH->List aE
 |[]=>[]
 |x::r=>eJ x::smpL r
def eJ:zH->aE
 |⟨kind,name,op,value,fold,anb,of_,list⟩=>hdsW ⟨kind,name,op,value,fold,anb,of_,[]⟩ (fL io (cpxL list))
def cpxL:List zm->List aE
 |[]=>[]
 |c::r=>mj c::cpxL r
end
def fg(l:List zm):aE:=fL io (l.map mj)
def zE4: ∀l:List zm,cpxL l=l.map mj
 |[]=>by rw[cpxL];rfl
 |c::r=>by rw[cpxL,zE4 r];rfl
def zE3: ∀l:List zU,cmpL l=l.map hJ
 |[]=>by rw[cmpL];rfl
 |c::r=>by rw[cmpL,zE3 r];rfl
def I8: ∀l:List zH,smpL l=l.map eJ
 |[]=>by rw[smpL];rfl
 |c::r=>by rw[smpL,I8 r];rfl
def fE(c:zm):mj c=Uh c.lf++fL (λi=>eM (c.kj.getD (i - 1) 0)) (c.kc.map hJ):=by obtain⟨lead,parts,combs⟩:=c;rw[mj,zE3]
def bE(c:zU):hJ c=gg c.lg++fL (λ_=>[]) (c.ka.map eJ):=by obtain⟨tag,simples⟩:=c;rw[hJ,I8]
def mD(x:zH):eJ x=hdsW x (fg x.w):=by obtain⟨kind,name,op,value,fold,anb,of_,list⟩:=x;rw[eJ,zE4];rfl
def wY: ∀{l:List (List PV)} {r:List PV},ED l->r∈l->qH r
 |a::l,r,h,hr=>by
  rw[ED]at h;rcases ib.1 hr with rfl|hr
  ·exact h.1
  ·exact wY h.2 hr
def Sy{α:Type}{f:α->List PV}{l:List α}{x:α}(h:okPV (.sl (l.map f)))(a:x∈l):qH (f x):=wY (by simpa only[okPV] using h) (List.mem_map_of_mem a)
def okX(x:zH):Prop:=(∃d h,Oj x d h=true)/\qH (zT x)
def okP(c:zU):Prop:=(∃d h,QF c d h=true)/\qH (z8 c)
def lR(c:zm):Prop:=(∃d h b,Xg c d h b=true)/\qH (zk c)
def ML{x:zH}(h:okX x):di x=true/\(∀c∈x.w,lR c)/\(hasS x=false->x.w=[])/\0<=x.op:=by
 obtain⟨⟨d,h,e⟩,ho⟩:=h;rw[BO,Da]at e;rw[vB]at ho;simp only[qH]at ho;refine⟨e.1,?_,?_,by have:=ho.2.2.1;simp only[okPV]at this;exact this.1⟩
 ·intro c hc;refine⟨?_,Sy ho.2.2.2.2.2.2.2.2.1 hc⟩;cases hs:hasS x with
  |false=>rw[hs,Ba,jd]at e;rw[e.2]at hc;cases hc
  |true=> rw[hs,Ca]at e;simp only[Da,Ya]at e;exact⟨_,_,_,e.2.2.2 c hc⟩
 ·intro hs;rw[hs,Ba,jd]at e;exact e.2
def NL{c:zU}(h:okP c):tagS c.lg=true/\c.ka.length<=64/\(c.lg=[]->c.ka≠[])/\ ∀x∈c.ka,okX x:=by obtain⟨⟨d,h,e⟩,ho⟩:=h;rw[aO]at e;rw[EC]at ho;simp only[qH]at ho;unfold lC at e;simp only[Da,Pb,Ya,aa]at e;refine⟨e.1.1,e.1.2.2,λht hs=> ?_,λx a=>⟨⟨_,_,e.2 x a⟩,Sy ho.2.1 a⟩⟩;rw[ht,hs]at e;simp at e
def PE{c:zm}(h:lR c):c.lf<=4/\c.kj.length+1=c.kc.length/\c.kc.length<=64/\(∀b∈c.kj,b.toNat<=4)/\ ∀x∈c.kc,okP x:=by obtain⟨⟨d,h,b,e⟩,ho⟩:=h;rw[jM]at e;rw[jB]at ho;simp only[qH]at ho;unfold WC Jl at e;simp only[Da,Ya,aa]at e;exact⟨e.1.2.1,e.1.2.2.1,e.1.2.2.2.1,λb hb=>(e.1.2.2.2.2 b hb).2,λx a=>⟨⟨_,_,e.2 x a⟩,Sy ho.2.1 a⟩⟩
end Go.Lv.VT
