import Derived.Test.YtiidaccdmolmkaaGreatDoorMo
import Derived.Test.YtiidaccdmolmkaaGreatDoorIp
set_option linter.all false
namespace Go.Lv.VT
def Vl(n:Nat):Nat:=if 65<=n/\n<=90 then n+32 else n
def Wl(b:UInt8):UInt8:=UInt8.ofNat (Vl b.toNat)
def zLj{n:Nat}(h:n<256):Vl n<256:=by unfold Vl;split<;>omega
def zHw(b:UInt8):(Wl b).toNat=Vl b.toNat:=by unfold Wl;rw[UInt8.toNat_ofNat'];exact xe (zLj (Kb b))
def zCC: ∀n:Nat,n<256->uo (n:Int)=some ((Vl n:Nat):Int):=by decide+kernel
def zSs: ∀n:Nat,n<256->(bif decide (65<=(n:Int))then decide ((n:Int)<=90)else false)=true->qj (db IntKind.u8 (n:Int) 32)=some (UInt8.ofNat (Vl n)):=by decide+kernel
def dr(l:aE):aE:=l.map Wl
def tL{α:Type}{l:List α}{i:Nat}(h:i<l.length)(f:α->α):((l.take i).map f++l.drop i).set i (f l[i])=(l.take (i+1)).map f++l.drop (i+1):=by
 apply List.ext_getElem
 ·simp;omega
 grind
def K5{α:Type}{l:List α}{i:Nat}(h:i<l.length)(f:α->α):((l.take i).map f++l.drop i)[i]? =some l[i]:=by
 grind
def KT{α:Type}{l:List α}{i:Nat}(h:i<=l.length)(f:α->α):((l.take i).map f++l.drop i).length=l.length:=by simp;omega
def zNg{α:Type}{l:List α}{i:Nat}(h:i<l.length)(f:α->α)(e:f l[i]=l[i]):(l.take i).map f++l.drop i=(l.take (i+1)).map f++l.drop (i+1):=by
 rw[<-tL h f,e];apply List.ext_getElem?
 grind
def FR(i:Nat):decide ((0:Int)<=(i:Int))=true:=Ga (by omega)
def JA{l:aE}(h:l.length<=co):QB l=some (dr l):=by
 unfold QB;rw[zn (Ga (by unfold co at h;unfold maxLen;omega))];have d: ∀(k i:Nat),i+k=l.length-> ∃n,ZP (X:=List UInt8) (R:=aE) (λ(a:Int×List UInt8)=>
   bif decide (a.1<(a.2.length:Int))then
    ck (decide (0<=a.1)&&decide (a.1<(a.2.length:Int)))<|
    za a.2[a.1.toNat]? λf=>
    za (uo (f.toNat:Int)) λg=>
    ck (decide (0<=a.1)&&decide (a.1<(a.2.length:Int)))<|
    za a.2[a.1.toNat]? λp=>
    za (qj g) λm=>
    some (LO.again (cj (a.1+1),List.set a.2 a.1.toNat m))
   else
    some (LO.out a.2)) n ((i:Int),(l.take i).map Wl++l.drop i)=some (.out (dr l)):=by
  intro k
  induction k with
  |zero=>
   intro i e;have e:i=l.length:=by omega
   subst e;refine⟨1,?_⟩;simp only[ZP,KT (Db _),Nh,Ba];simp[dr]
  |succ k o=>
   intro i e;have b:i<l.length:=by omega
   obtain⟨n,c⟩:=o (i+1) (by omega);refine⟨n+1,?_⟩;have j:=Kb l[i];simp only[ZP,KT (Nat.le_of_lt b),zN b,Ca,FR,Nb,Zd,Oa,K5 b,za,Aa,zCC _ j];rw[<-zHw,zL1,zD b h];simp only[Aa,tL b];exact c
 obtain⟨n,c⟩:=d l.length 0 (by omega);replace c:=qM c;simp only[List.take_zero,Ye,Lb,Gi]at c;exact(Di c).trans rfl
def aA{l:aE}(h:l.length<=co):tq l=some (dr l):=by
 unfold tq;rw[zn (Ga (by unfold co at h;unfold maxLen;omega))];have d: ∀(k i:Nat),i+k=l.length-> ∃n,ZP (X:=List UInt8) (R:=aE) (λ(a:Int×List UInt8)=>
   bif decide (a.1<(l.length:Int))then
    zK (X:=Int×List UInt8) (
      ck (decide (0<=a.1)&&decide (a.1<(a.2.length:Int)))<|
      za a.2[a.1.toNat]? λj=>
      bif bif decide (65<=(j.toNat:Int))then decide ((j.toNat:Int)<=90)else false then
       ck (decide (0<=a.1)&&decide (a.1<(a.2.length:Int)))<|
       za a.2[a.1.toNat]? λo=>
       ck (decide (0<=a.1)&&decide (a.1<(a.2.length:Int)))<|
       za a.2[a.1.toNat]? λt=>
       za (qj (db IntKind.u8 (o.toNat:Int) 32)) λq=>
       some (LX.out (a.1,List.set a.2 a.1.toNat q))
      else
       some (LX.out (a.1,a.2))) λm=>
    some (LO.again (cj (m.1+1),m.2))
   else
    some (LO.out a.2)) n ((i:Int),(l.take i).map Wl++l.drop i)=some (.out (dr l)):=by
  intro k
  induction k with
  |zero=>
   intro i f;have f:i=l.length:=by omega
   subst f;refine⟨1,?_⟩;simp only[ZP,Nh,Ba];simp[dr]
  |succ k r=>
   intro i f;have b:i<l.length:=by omega
   obtain⟨n,c⟩:=r (i+1) (by omega);refine⟨n+1,?_⟩;have p:=Kb l[i];simp only[ZP,KT (Nat.le_of_lt b),zN b,Ca,FR,Nb,Zd,Oa,K5 b,za,Aa];cases g:(bif decide (65<=(l[i].toNat:Int))then decide ((l[i].toNat:Int)<=90)else false)with
   |true=> have e:=zSs _ p g;simp only[e,Ca,Aa,zf,zD b h];rw[show UInt8.ofNat (Vl l[i].toNat)=Wl l[i]from rfl,tL b];exact c
   |false=>
    have e:Wl l[i]=l[i]:=by unfold Wl Vl;rw[Ka,Ae];rintro⟨s,u⟩;rw[Ga (by omega),Ca,Ga (by omega)]at g;cases g
    simp only[Ba,zf,zD b h];rw[zNg b Wl e];exact c
 obtain⟨n,c⟩:=d l.length 0 (by omega);replace c:=qM c;simp only[List.take_zero,Ye,Lb,Gi]at c;exact(Di c).trans rfl
def ZL(l:aE):Bool:=l.all λb=> !(b==0)
def WS(c:UInt8): ∀l:aE,decide (Lib.indexByte l c>=0)=l.any λb=>b==c
 |[]=>rfl
 |b::l=>by
  have d:=WS c l;have a:=Lib.indexByte_ge l c;rw[ug,Lib.indexByte]
  grind
def zQC(l:aE):(l.any λb=>b==0)= !ZL l:=by
 unfold ZL
 grind
def QQ(l:aE)(n:Int):cy (l,n)=some (Lib.indexByte l n.toNat.toUInt8):=rfl
def Ms(l:aE):decide (Lib.indexByte l (0:Int).toNat.toUInt8>=0)= !ZL l:=(WS 0 l).trans (zQC l)
def Gh(l:aE):Bool:= !(l==[])&&(decide (l.length<=64)&&ZL l)
def kg(n m:Nat):decide ((n:Int)>(m:Int))= !decide (n<=m):=by
 grind
def ir(b:UInt8):((b.toNat:Int)==0)=(b==0):=by
 by_cases h:b=0
 ·subst h;rfl
 ·have a:b.toNat≠0:=λe=>h (Cf.1 e)
  grind
def aj(l:aE):Bool:=Gh l&&dr l==l
def VN(a b:aE):(a==b)=(b==a):=by
 grind
def ku(n m:Nat):decide ((n:Int)<=(m:Int))=decide (n<=m):=by
 grind
def AB{α:Type}(l:List α):decide ((l.length:Int)<1)=l.isEmpty:=by
 cases l with
 |nil=>rfl
 |cons a l=>grind
def Uo{f:Option Int}{p:Bool}{i:Int}(h:f=some i)(a:decide (i>=0)=p):(za f λy=>some (decide (y>=0)))=some p:=by
 grind
def Vh(l:List aE):Bool:= !l.isEmpty&&(decide (l.length<=16)&&l.all Gh)
def Jv{α:Type}(p:α->Bool)(l:List α):(l.any λv=> !p v)= !l.all p:=by
 grind
def Ar(l m:aE):cD (l,m)=some (m.isPrefixOf l):=by
 have a: ∀m l:aE,m.isPrefixOf l=(decide (m.length<=l.length)&&l.take m.length==m):=by
  intro m l;rw[Gg];simp only[Gf,Da,aa,Fb];constructor
  ·rintro⟨t,rfl⟩
   grind
  ·grind
 unfold cD cP;simp_all
def zAk(l m:aE):ee (l,m)=some (bif m.isPrefixOf l then l.drop m.length else l):=by
 have h:cP (l,m)=some (m.isPrefixOf l):=by
  have:=Ar l m;unfold cD at this;cases a:cP (l,m)with
  |none=>grind
  |some b=>grind
 unfold ee ea;simp only[h,za,Aa];cases hp:m.isPrefixOf l with
 |false=>rfl
 |true=> have hl:=(Gf.1 hp).length_le;simp_all
def oN{a b:aE}(c:a.length<=co)(h2:b.length<=co):bA (a,b)=some (dr a==dr b):=by unfold bA;simp only[aA c,aA h2,za,Aa]
def rM{a b:aE}(c:a.length<=co)(h2:b.length<=co):Q6 (a,b)=some (dr a==dr b):=by unfold Q6;simp only[JA c,JA h2,za,Aa]
def ji(n:Nat):Bool:=
 !(n==0||n==9||n==10||n==12||n==13||n==32||n==34||n==39||n==40||n==41||n==44||n==58||n==59||n==91||n==93||n==95||n==123||n==125)&&
  (decide (n<128)&& !((decide (48<=n)&&decide (n<=57))||(decide (65<=n)&&decide (n<=90))||(decide (97<=n)&&decide (n<=122))))
set_option maxRecDepth 100000 in
def zPL: ∀n:Nat,n<256-> @QC fuK (n:Int)=some (ji n):=by decide+kernel
def vE:Prop:= ∀b:UInt8,QC (b.toNat:Int)=some (ji b.toNat)
def zvY:vE:=λb=>
 zvo _ _ (zPL _ (Kb b))
def fy(n:Nat):Bool:=decide (48<=n)&&decide (n<=57)
def zEw: ∀n:Nat,n<256->ZG (n:Int)=some (fy n):=by decide+kernel
def zCB(b:UInt8):ZG (b.toNat:Int)=some (fy b.toNat):=(zEw _ (Kb b))
def zBA: ∀n:Nat,n<256->Jn (n:Int)=some (fy n):=by decide+kernel
def WV(b:UInt8):Jn (b.toNat:Int)=some (fy b.toNat):=(zBA _ (Kb b))
def namN(n:Nat):Bool:=fy n||(decide (65<=n)&&decide (n<=90))||(decide (97<=n)&&decide (n<=122))||n==95||n==45||decide (128<=n)
def zBB: ∀n:Nat,n<256->Du (n:Int)=some (namN n):=by decide+kernel
def VV(b:UInt8):Du (b.toNat:Int)=some (namN b.toNat):=(zBB _ (Kb b))
def Ml:aE->Bool
 |[]=>false
 |b::r=>fy b.toNat||(b==45&&(r==[]||fy (r.headD 0).toNat))
def jh(b c:UInt8):((b.toNat:Int)==(c.toNat:Int))=(b==c):=by
 by_cases h:b=c
 ·subst h;simp
 ·have h2:b.toNat≠c.toNat:=λe=>h (Cf.1 e);rw[Fa.2 h,Fa.2 (by omega)]
def zPu(b:UInt8):((b.toNat:Int)==45)=(b==45):=jh b 45
def zzD(l:aE):uG l=some (Ml l):=by
 unfold uG;cases l with
 |nil=>rfl
 |cons b r=>
  have h0:cl (b::r) 0=some b:=rfl;have hn:(b::r==([]:aE))=false:=rfl;simp only[hn,Ba,h0,za,Aa,zCB,zO,zPu];cases r with
  |nil=>
   have e:(([b]:aE)==[45])=(b==45):=by show((b==45)&&true)=_;rw[Nb]
   simp only[e];unfold Ml;cases hb:(b==45)with
   |false=>cases h2:fy b.toNat<;>simp[hb,zA,h2]
   |true=>cases h2:fy b.toNat<;>simp[hb,zA,h2]
  |cons d r=>
   have h1:cl (b::d::r) 1=some d:=rfl;have e:((b::d::r:aE)==[45])=false:=by show((b==45)&&false)=_;rw[Nc]
   simp only[h1,e,zO,Aa,zCB,Ml,Fg];cases hb:(b==45)<;>cases h2:fy b.toNat<;>simp[hb]
def jx:aE->Bool
 |[]=>false
 |b::r=>bif b==45 then !(r==[])&&fy (r.headD 0).toNat else fy b.toNat
def lW(l:aE):Dy l=some (jx l):=by
 unfold Dy;simp only[zAk,za,Aa];have a: ∀m:aE,((zA (!(m==[])) (cl m 0) 0).bind λc=>(zA (!(m==[])) (Jn (c.toNat:Int)) (default:Bool)).bind λd=>some (bif !(m==[])then d else false))=some (!(m==[])&&fy (m.headD 0).toNat):=by
  intro m;cases m with
  |nil=>rfl
  |cons b r=> have h0:cl (b::r) 0=some b:=rfl;have hn:(b::r==([]:aE))=false:=rfl;simp only[hn,Va,zQ,h0,Aa,WV,Ca,Fg,ja]
 rw[a];cases l with
 |nil=>rfl
 |cons b r=>
  have e:List.isPrefixOf [45] (b::r)=(b==45):=by
   show((45==b)&&true)=_;rw[Nb];cases hb:(b==45)with
   |true=>rw[Fb]at hb;subst hb;rfl
   |false=>rw[Fa]at hb;exact Fa.2 (Ne.symm hb)
  rw[e];show _=some (bif b==45 then !(r==[])&&fy (r.headD 0).toNat else fy b.toNat);cases b==45<;>rfl
def zNr(l:aE):((jx l&& !(List.isPrefixOf [45,45] l))||l==[45])=Ml l:=by
 cases l with
 |nil=>rfl
 |cons b r=>
  cases hb:(b==45)with
  |false=>
   have e1:List.isPrefixOf [45,45] (b::r)=false:=by show((45==b)&&_)=_;rw[Fa]at hb;rw[Fa.2 (Ne.symm hb)];rfl
   have e2:((b::r:aE)==[45])=false:=by show((b==45)&&_)=_;rw[hb];rfl
   rw[e1,e2];unfold jx Ml;simp[hb]
  |true=>
   rw[Fb]at hb;subst hb;cases r with
   |nil=>rfl
   |cons d r=>
    have e2:((45::d::r:aE)==[45])=false:=rfl;rw[e2];unfold jx Ml;have e1:List.isPrefixOf [45,45] (45::d::r)=(45==d):=by show((45==(45:UInt8))&&((45==d)&&true))=_;rw[Nb];rfl
    rw[e1];simp only[Fg];have a:fy 45=false:=by decide
    cases h:(45==d)with
    |false=>simp[a]
    |true=>rw[Fb]at h;subst h;rfl
def delS(l:aE):Bool:=match l with
 |[b]=>ji b.toNat
 |_=>false
def rngS(x:ze):Bool:=decide (-1000000000000<=x.kg)&&(decide (x.kg<=1000000000000)&&(!x.la||Int.tmod x.kg 1000==0))
def Eg(x:ze):Bool:=
 bif x.u==1||x.u==2||x.u==3 then !(x.kb==[])&&(ZL x.kb&&(x.kg==0&&(x.ki==[]&& !x.la)))
 else bif x.u==4 then !(x.kb==[])&&(ZL x.kb&&((x.la||Ml x.kb)&&(x.kg==0&&x.ki==[])))
 else bif x.u==5||x.u==7 then ZL x.kb&&(x.kg==0&&(x.ki==[]&& !x.la))
 else bif x.u==9 then delS x.kb&&(x.kg==0&&(x.ki==[]&& !x.la))
 else bif x.u==10||x.u==11||x.u==12 then rngS x&&((!(x.ki==[])==(x.u==12))&&(ZL x.ki&&((!(x.u==11)|| !x.la)&&x.kb==[])))
 else(decide (13<=x.u)&&decide (x.u<=24))&&(x.kb==[]&&(x.kg==0&&(x.ki==[]&& !x.la)))
def PW{l:aE}(h:l.length<=co):Ju l=some (ZL l):=by
 unfold Ju;refine(qd l (λb=>bif (!(b==0))then none else some false) () (λi a=> ?_) ?_).trans ?_
 ·simp only[zN a,Ca,zF a,za,Aa,ir,zD a h]
  grind
 ·grind
 ·rw[Dj];show _=some (ZL l);unfold ZL
  grind
def one_byte(l:aE)(p:Nat->Bool)(d:Bool)(f:Int->Option Bool)(hf: ∀b:UInt8,f (b.toNat:Int)=some (p b.toNat))(g:Bool):
  ((zA (g&&(l.length:Int)==1) (cl l 0) (0:UInt8)).bind λy=>zA (g&&(l.length:Int)==1) (f (y.toNat:Int)) d)=some (bif g&&(l.length:Int)==1 then(match l with|[b]=>p b.toNat|_=>false)else d):=by
 cases g with
 |false=>rfl
 |true=>
  cases l with
  |nil=>rfl
  |cons b r=>
   cases r with
   |nil=> show((cl [b] 0).bind λy=>f (y.toNat:Int))=some (p b.toNat);rw[show cl [b] 0=some b from rfl];exact hf b
   |cons c r=> have:(((b::c::r).length:Int)==1)=false:=Fa.2 (by grind);rw[this];rfl
def zGU(a:vE)(l:aE)(g:Bool):((zA (g&&(l.length:Int)==1) (cl l 0) (0:UInt8)).bind λy=>zA (g&&(l.length:Int)==1) (QC (y.toNat:Int)) (default:Bool))=some (bif g&&(l.length:Int)==1 then delS l else default):=
 one_byte l ji default QC a g
def zMu(l:aE):(((l.length:Int)==1)&&delS l)=delS l:=by
 cases l with
 |nil=>rfl
 |cons b r=>
  cases r with
  |nil=>rfl
  |cons c r=> have:(((b::c::r).length:Int)==1)=false:=Fa.2 (by grind);rw[this];rfl
def zzE(C:vE){x:ze}(v:x.kb.length<=co)(h2:x.ki.length<=co):sG x=some (Eg x):=by
 have n:=zGU C x.kb true;simp only[ja]at n;have q:((zA ((x.kb.length:Int)==1) (cl x.kb 0) (0:UInt8)).bind λo=>(zA ((x.kb.length:Int)==1) (QC (o.toNat:Int)) (default:Bool)).bind λD=>some (bif bif (x.kb.length:Int)==1 then D else false then x.u==x.u&&(([]:aE)==[]&&(x.kg==0&&(x.ki==[]&&(x.la==false&&true))))else false))=some (delS x.kb&&(x.kg==0&&(x.ki==[]&& !x.la))):=by
  have e: ∀(k:Bool->Option Bool),((zA ((x.kb.length:Int)==1) (cl x.kb 0) (0:UInt8)).bind λo=>(zA ((x.kb.length:Int)==1) (QC (o.toNat:Int)) (default:Bool)).bind k)=(((zA ((x.kb.length:Int)==1) (cl x.kb 0) (0:UInt8)).bind λy=>zA ((x.kb.length:Int)==1) (QC (y.toNat:Int)) (default:Bool))).bind k:=by intro k;rw[Option.bind_assoc]
  rw[e,n,Aa,<-zMu x.kb];simp only[Ff];cases (x.kb.length:Int)==1<;>cases delS x.kb<;>cases x.la<;>rfl
 unfold sG;simp only[za,PW v,PW h2,zzD,zO,Aa,ge_iff_le];unfold Eg rngS;by_cases B:x.u=9
 ·simp_all
 clear n q;have E:=Fa.2 B;generalize delS x.kb=J;generalize ZL x.kb=p;generalize ZL x.ki=M;generalize Ml x.kb=H;generalize c:(x.kb==[])=i;generalize d:(x.ki==[])=j;generalize a:(x.kg==0)=m;generalize b:x.la=l;generalize decide (-1000000000000<=x.kg)=N;generalize decide (x.kg<=1000000000000)=L;generalize (Int.tmod x.kg 1000==0)=z;by_cases r:x.u=1
 ·simp only[r,zf,Ca,Ba,c,d,a,b,Int.reduceBEq];cases p<;>cases i<;>cases j<;>cases m<;>cases l<;>rfl
 by_cases s:x.u=2
 ·simp only[s,zf,Ca,Ba,c,d,a,b,Int.reduceBEq];cases p<;>cases i<;>cases j<;>cases m<;>cases l<;>rfl
 by_cases t:x.u=3
 ·simp only[t,zf,Ca,Ba,c,d,a,b,Int.reduceBEq];cases p<;>cases i<;>cases j<;>cases m<;>cases l<;>rfl
 by_cases u:x.u=4
 ·simp only[u,zf,Ca,Ba,c,d,a,b,Int.reduceBEq]
  grind
 by_cases G:x.u=5
 ·simp_all
 by_cases F:x.u=7
 ·simp_all
 by_cases g:x.u=10
 ·simp only[g,zf,Ca,Ba,c,d,a,b,Int.reduceBEq]
  grind
 by_cases h:x.u=11
 ·simp only[h,zf,Ca,Ba,c,d,a,b,Int.reduceBEq]
  grind
 by_cases f:x.u=12
 ·simp only[f,zf,Ca,Ba,c,d,a,b,Int.reduceBEq]
  grind
 simp only[E,Fa.2 r,Fa.2 s,Fa.2 t,Fa.2 u,Fa.2 G,Fa.2 F,Fa.2 g,Fa.2 h,Fa.2 f,zf,Ca,Ba,c,d,a,b,Ff,Ke];by_cases w:x.u=6
 ·simp_all
 by_cases A:x.u=8
 ·simp_all
 simp only[Fa.2 w,Fa.2 A,zf,Ca,Ba];have e:(decide (1<=x.u)&&decide (x.u<=24))=(decide (13<=x.u)&&decide (x.u<=24)):=by
  by_cases K:13<=x.u
  ·grind
  ·grind
 rw[<-e];cases decide (1<=x.u)<;>cases decide (x.u<=24)<;>cases i<;>cases j<;>cases m<;>cases l<;>rfl
abbrev VD:aE:=[32,9,10,12,13,34,39,58,59,44,91,93,40,41,123,125]
def aG: ∀(m:aE) (c:UInt8),Lib.index m [c]=Lib.indexByte m c
 |[],c=>rfl
 |b::l,c=>by
  have h:List.isPrefixOf [c] (b::l)=(b==c):=by
   show(c==b&&List.isPrefixOf [] l)=_;rw[List.isPrefixOf,Nb];by_cases e:b=c
   ·subst e;rfl
   ·grind
  rw[Lib.index,Lib.indexByte,h,aG l c]
def contains_one(m:aE)(c:UInt8)(a:short m=true:=by decide):dT (m,[c])=some (m.any λb=>b==c):=by unfold dT;simp only[mr,a,Zd,za,Aa,aG,WS]
def zvj(c:UInt8):dT ([32,9,10,12,13,34,39,58,59,44,91,93,40,41,123,125],[c])=some (VD.any λb=>b==c):=contains_one VD c
def zGT: ∀n:Nat,n<256->((bif bif !(UInt8.ofNat n==0)then !namN n else false then true else UInt8.ofNat n==45)&&(!(VD.any λb=>b==UInt8.ofNat n)))=ji n:=by decide+kernel
def zMv(b:UInt8):((bif bif !(b==0)then !namN b.toNat else false then true else b==45)&&(!(VD.any λc=>c==b)))=ji b.toNat:=by have:=zGT b.toNat (Kb b);simp_all
def zB5(a b:aE):ZL (a++b)=(ZL a&&ZL b):=by unfold ZL;grind
def I5(n:Int):decide (n<0)= !decide (n>=0):=by
 grind
def zSw(g d:Bool)(b c:UInt8):(bif g then namN (bif g then b else c).toNat else d)=bif g then namN b.toNat else d:=by cases g<;>rfl
def AV{x:ze}(h1:x.kb.length<=co)(h2:x.ki.length<=co):yz x=some (Eg x):=by
 unfold yz;rw[zn (Zc.2 (by grind))];simp only[za,QQ,Aa];have hn:decide (Lib.indexByte (x.kb++x.ki) (0:Int).toNat.toUInt8<0)=(ZL x.kb&&ZL x.ki):=by rw[I5,Ms,zB5,Nf]
 simp only[hn,lW,Ar,zO,Aa,ge_iff_le,bne];have hb:=zNr x.kb;unfold Eg rngS;by_cases i:x.u=9
 ·simp only[i,Int.reduceBEq,Ca,Ba,zf,Dc,Ac];cases ht:x.kb with
  |nil=>
   have:ZL ([]:aE)=true:=rfl;simp only[this,ja];cases ZL x.ki<;>rfl
  |cons b r=>
   cases r with
   |nil=>
    have m:=zMv b;have e1:((([b]:aE).length:Int)==1)=true:=rfl;have e2:cl [b] 0=some b:=rfl;have e3:(([b]:aE)==[45])=(b==45):=by show((b==45)&&true)=_;rw[Nb]
    have e4:ZL [b]= !(b==0):=by show((!(b==0))&&true)=_;rw[Nb]
    have e5:delS [b]=ji b.toNat:=rfl;simp only[e1,e2,e3,e4,e5,zvj,VV,zO,Aa,zSw,<-m];cases hu:x.ki with
    |nil=>
     have:ZL ([]:aE)=true:=rfl;simp only[this,Nb];generalize (VD.any λc=>c==b)=a1;cases namN b.toNat<;>cases (b==0)<;>cases (b==45)<;>cases a1<;>cases (x.kg==0)<;>cases x.la<;>rfl
    |cons c s=> simp_all
   |cons c r=>
    have e1:(((b::c::r:aE).length:Int)==1)=false:=Fa.2 (by grind);have e3:((b::c::r:aE)==[45])=false:=by show((b==45)&&false)=_;rw[Nc]
    have e5:delS (b::c::r)=false:=rfl;simp only[e1,e3,e5];simp_all
 have n:=Fa.2 i;have hu:(x.ki==[])=true->ZL x.ki=true:=λh=>by rw[Fb]at h;rw[h];rfl
 have o:(x.kb==[])=true->ZL x.kb=true:=λh=>by rw[Fb]at h;rw[h];rfl
 rw[<-hb];generalize a:(x.kb==[45])=p at*;generalize (List.isPrefixOf [45,45] x.kb)=t at*;generalize jx x.kb=A at*;generalize ZL x.kb=a1 at*;generalize ZL x.ki=a2 at*;generalize (x.kb==[])=a4 at*;generalize (x.ki==[])=a5 at*;generalize (x.kg==0)=u at*;generalize x.la=v at*;generalize decide (-1000000000000<=x.kg)=E at*;generalize decide (x.kg<=1000000000000)=F at*;generalize (Int.tmod x.kg 1000==0)=y at*;clear hb hn a;have K: ∀k:Int,k∈[1,2,3,4,5,7,10,11,12]->x.u=k->True:=λ_ _ _=>trivial;clear K;by_cases k1:x.u=1
 ·simp only[k1,zf,Ca,Ba,Int.reduceBEq]
  grind
 by_cases k2:x.u=2
 ·simp only[k2,zf,Ca,Ba,Int.reduceBEq]
  grind
 by_cases k3:x.u=3
 ·simp only[k3,zf,Ca,Ba,Int.reduceBEq]
  grind
 by_cases k4:x.u=4
 ·simp only[k4,zf,Ca,Ba,Int.reduceBEq]
  grind
 by_cases j:x.u=5
 ·simp only[j,zf,Ca,Ba,Int.reduceBEq]
  grind
 by_cases l:x.u=7
 ·simp only[l,zf,Ca,Ba,Int.reduceBEq]
  grind
 by_cases d:x.u=10
 ·simp only[d,zf,Ca,Ba,Int.reduceBEq]
  grind
 by_cases e:x.u=11
 ·simp only[e,zf,Ca,Ba,Int.reduceBEq]
  grind
 by_cases f:x.u=12
 ·simp only[f,zf,Ca,Ba,Int.reduceBEq]
  grind
 simp only[n,Fa.2 k1,Fa.2 k2,Fa.2 k3,Fa.2 k4,Fa.2 j,Fa.2 l,Fa.2 d,Fa.2 e,Fa.2 f,zf,Ca,Ba,Ke];cases decide (13<=x.u)<;>cases decide (x.u<=24)<;>cases a4<;>cases a5<;>cases u<;>cases v<;>rfl
def BB {R:Type}{step:Int->Option (LO Int Unit R)}{k:Unit->Option R}(n:Nat)(p:Nat->Bool)(r:R)
  (c: ∀(i:Nat),i<n->step (i:Int)=some (bif p i then .again ((i+1:Nat):Int)else .ret r)) (a:step (n:Int)=some (.out ())):
  zM step 0 k=bif (List.range n).all p then k ()else some r:=by
 have e:=qd (k:=k) (List.range n) (λi=>bif p i then none else some r) () (λi b=> ?_) (by simpa using a)
 ·rw[e,Dj]
  grind
 grind
def Vp:List ze->Bool
 |[]=>false
 |s::r=>bif s.u==13 then(match r with|u::_=>u.u==5|[]=>false)else s.u==5
def ni:List ze->Bool
 |[]=>false
 |s::_=>s.u==13
def xg(t:ze):Bool:=t.u==2&&dr t.kb==[117,114,108]
def okAt:List ze->Bool
 |[]=>true
 |t::r=>(!(t.u==9&&t.kb==[92])||ni r)&&(!(xg t)||Vp r)
def Xu(l:List ze)(i:Nat):Bool:=Eg (l.getD i default)&&okAt (l.drop i)
def hH(l:List ze):Int:=bif decide (l.length<=1500)then(bif (List.range l.length).all (Xu l)then 0 else 8)else 4
def Mv(l:List ze)(i:Nat)(k:Int):Qn (((i:Int),k),l)=some (match l[i]? with|some t=>t.u==k|none=>false):=by
 unfold Qn;by_cases h:i<l.length
 ·simp only[zN h,zQ,zF h,za,Aa,Ca,Na h]
 ·have e:decide ((i:Int)<(l.length:Int))=false:=Ma (by omega);simp only[e,ZF,za,Aa,Ba,List.getElem?_eq_none (Nat.le_of_not_lt h)]
def Ov:dr [117,114,108]=[117,114,108]:=by decide
def zyo{t:ze}{r:List ze}(h:t.kb.length<=co): ∃n:Int,jq (t::r)=some n/\(n==0)= !okAt (t::r):=by
 have e0:cl (t::r) 0=some t:=rfl;have p1:=Mv (t::r) 1 13;have a:=Mv (t::r) 1 5;have b:=Mv (t::r) 2 5;unfold jq;simp only[e0,za,Aa,oN h (show([117,114,108]:aE).length<=co by decide),Ov,zO];simp only[Int.natCast_one]at p1 a;replace b:Qn ((2,5),t::r)=_:=b;rw[p1];unfold okAt xg;cases c:(t.u==9&&t.kb==[92])with
 |true=>
  have hk:t.u=9:=by rw[Da,Fb]at c;exact c.1
  have ht:(t.kb==[92])=true:=by rw[Da]at c;exact c.2
  simp only[hk,ht,Int.reduceBEq,Ca,Ba,Aa];cases r with
  |nil=>exact⟨_,rfl,rfl⟩
  |cons s r=>
   show∃n:Int,(bif !(s.u==13)then some 0 else some 2)=some n/\(n==0)= !((!true||s.u==13)&&_);cases s.u==13
   ·simp_all
   simp_all
 |false=>
  have hc:(bif t.u==9 then t.kb==[92]else false)=false:=by
   cases d:t.u==9
   ·rfl
   ·grind
  simp only[hc,c,Ba,Va,Uc,ja];cases hu:(t.u==2&&dr t.kb==[117,114,108])with
  |false=>
   have:(bif t.u==2 then bif t.u==2 then dr t.kb==[117,114,108]else default else false)=false:=by
    cases h2:t.u==2
    ·rfl
    ·grind
   rw[this]
   grind
  |true=>
   rw[Da]at hu;rw[hu.1,hu.2];simp only[Ca,Aa];cases r with
   |nil=>exact⟨0,by simp[a],rfl⟩
   |cons s r=>
    cases hs:s.u==13 with
    |false=>
     have e1:(match(t::s::r)[1]? with|some t=>t.u==13|none=>false)=false:=hs;have e5:Qn ((1,5),t::s::r)=some (s.u==5):=a;simp only[e1,Ba,zf,e5,Aa,Vp,hs];cases s.u==5
     ·grind
     ·exact⟨2,by rfl,rfl⟩
    |true=>
     have e1:(match(t::s::r)[1]? with|some t=>t.u==13|none=>false)=true:=hs;simp only[e1,Ca,zf,b,Aa,Vp,hs];cases r with
     |nil=>grind
     |cons u r=>
      show∃n:Int,(bif !(u.u==5)then some 0 else some (cj (2+1)))=some n/\(n==0)= !(!true||u.u==5);cases u.u==5
      ·grind
      ·exact⟨3,rfl,rfl⟩
def vT(l:List ze):decide ((l.length:Int)>1500)= !decide (l.length<=1500):=kg _ 1500
def lV{l:List ze}(h: ∀t∈l,t.kb.length<=co/\t.ki.length<=co):ww l=some (hH l):=by
 unfold ww hH;rw[vT];cases e:decide (l.length<=1500)with
 |false=>rfl
 |true=>
  have e:=jb e;simp only[Ab,Ba,Ca];refine(BB l.length (Xu l) 8 (λi a=> ?_) ?_).trans ?_
  ·obtain⟨d,j⟩:=h _ (Ia a);have b:l.getD i default=l[i]:=by simp[a]
   have c:=Eb a;obtain⟨n,f,k⟩:=zyo (t:=l[i]) (r:=l.drop (i+1)) d;rw[<-c]at f k;have g:decide ((i:Int)<=(l.length:Int))=true:=Ga (by omega);unfold Xu;simp only[zN a,Ca,zF a,za,Aa,AV d j,FR,g,ja,Uc,Zd,Oa,f,zO,zD a (show l.length<=co by unfold co;omega),b]
   grind
  ·grind
  grind
def NN{α:Type}{l:List α}{i:Nat}{s:α}{r:List α}(h:l.drop i=s::r):i<l.length/\cl l (i:Int)=some s/\l.drop (i+1)=r:=by
 have a:i<l.length:=by
  rcases Ec i l.length with b|b
  ·exact b
  ·rw[Je b]at h;cases h
 rw[Eb a]at h;injection h with d c;exact⟨a,by rw[zF a,d],c⟩
def MN{α:Type}{l:List α}{i:Nat}(h:l.drop i=[])(hi:i<=l.length):i=l.length:=by have:=Ad.1 h;omega
def CL(n m:Int):decide (n>=m)= !decide (n<m):=by
 grind
def zOf{l:List ze}{i:Nat}(hi:i<l.length)(v:l.length<=1500):
  zK (X:=Int) (R:=LX Unit (LO Int Unit Int)) (za (zA (decide (((i+1:Nat):Int)<(l.length:Int))) (cl l ((i+1:Nat):Int)) (default:ze)) λm=>bif bif decide (((i+1:Nat):Int)<(l.length:Int))then m.u==13 else false then some (LX.out (cj (((i+1:Nat):Int)+1)))else some (LX.out ((i+1:Nat):Int)))
   (λa=>za (zA (!(decide (a>=(l.length:Int)))) (cl l a) (default:ze)) λh=>bif bif decide (a>=(l.length:Int))then true else h.u != 5 then some (LX.ret (LO.ret 8))else some (LX.out ()))=bif Vp (l.drop (i+1))then some (LX.out ())else some (LX.ret (LO.ret 8)):=by
 cases f:l.drop (i+1)with
 |nil=> have k:=MN f (by omega);have o:decide (((i+1:Nat):Int)<(l.length:Int))=false:=Ma (by omega);have b:decide (((i+1:Nat):Int)>=(l.length:Int))=true:=Ga (by omega);simp only[o,b,ZF,za,Aa,Ba,Ca,zf,Ab,Vp]
 |cons s r=>
  obtain⟨c,e,d⟩:=NN f;have b:decide (((i+1:Nat):Int)>=(l.length:Int))=false:=Ma (by omega);have n:cj (((i+1:Nat):Int)+1)=((i+1+1:Nat):Int):=zD c (by unfold co;omega);simp only[zN c,zQ,e,za,Aa,Ca,n,Vp];cases p:s.u==13 with
  |false=>
   simp only[Ba,zf,b,Va,zQ,e,Aa,bne]
   grind
  |true=>
   simp only[Ca,zf];cases r with
   |nil=> have k:=MN d (by omega);simp_all
   |cons u r=>
    obtain⟨t,j,q⟩:=NN d;have g:decide (((i+1+1:Nat):Int)>=(l.length:Int))=false:=Ma (by omega);simp only[g,Va,zQ,j,Aa,Ba,bne]
    grind
def zMw{l:List ze}{i:Nat}(hi:i<l.length)(d:Bool)(A B:Option (LO Int Unit Int)):
  (za (zA (!(((i+1:Nat):Int)==(l.length:Int))&&d) (cl l ((i+1:Nat):Int)) (default:ze)) λa=>bif bif d then bif ((i+1:Nat):Int)==(l.length:Int)then true else a.u != 13 else false then A else B)=bif !d||ni (l.drop (i+1))then B else A:=by
 cases d with
 |false=>simp_all
 |true=>
  cases c:l.drop (i+1)with
  |nil=> have h:=MN c (by omega);have b:(((i+1:Nat):Int)==(l.length:Int))=true:=Fb.2 (by omega);simp only[b,Ab,Bc,ZF,za,Aa,Ca,ni,Ke,Ba]
  |cons s r=>
   obtain⟨f,e,g⟩:=NN c;have b:(((i+1:Nat):Int)==(l.length:Int))=false:=Fa.2 (by omega);simp only[b,Va,ja,zQ,e,za,Aa,Ca,ni,Ba,Ab,Ac,bne]
   grind
def zPo(b:Bool)(t u:ze)(p:ze->Bool):(bif b then p (bif b then t else u)else false)=(b&&p t):=by cases b<;>rfl
def zvX(k:vE){l:List ze}(h: ∀t∈l,t.kb.length<=co/\t.ki.length<=co):Lx l=some (hH l):=by
 unfold Lx hH;rw[vT];cases e:decide (l.length<=1500)with
 |false=>rfl
 |true=>
  have e:=jb e;simp only[Ab,Ba,Ca];refine(BB l.length (Xu l) 8 (λi a=> ?_) ?_).trans ?_
  ·obtain⟨g,p⟩:=h _ (Ia a);have d:l.getD i default=l[i]:=by simp[a]
   have f:=Eb a;have q:cj ((i:Int)+1)=((i+1:Nat):Int):=zD a (by unfold co;omega);have m:cj (((i+1:Nat):Int)+1)=((i+2:Nat):Int):=zD (n:=i+2) (by omega) (by unfold co;omega);unfold Xu;rw[f,d];simp only[zN a,Ca,zF a,za,Aa,zzE k g p,q];cases s:Eg l[i]with
   |false=>rfl
   |true=>
    simp only[Ab,Ba,zO,Aa,ja];have j:=zOf a e;have o:=zMw a (l[i].u==9&&l[i].kb==[92]) (some (LO.ret 8)) (some (LO.again ((i+1:Nat):Int)));simp only[za]at j o;have b:(bif l[i].u==2 then bif l[i].u==2 then dr (bif l[i].u==2 then l[i]else default).kb==[117,114,108]else default else false)=xg l[i]:=by unfold xg;cases l[i].u==2<;>rfl
    have r:(zA (l[i].u==2) (Q6 ((bif l[i].u==2 then l[i]else default).kb,[117,114,108])) (default:Bool))=some (bif l[i].u==2 then dr (bif l[i].u==2 then l[i]else default).kb==[117,114,108]else default):=by
     cases u:l[i].u==2 with
     |false=>rfl
     |true=> show Q6 (l[i].kb,[117,114,108])=some (dr l[i].kb==[117,114,108]);rw[rM g (by decide),Ov]
    have c:(bif l[i].u==9 then(bif l[i].u==9 then l[i]else default).kb==[92]else false)=(l[i].u==9&&l[i].kb==[92]):=zPo (l[i].u==9) l[i] default λt=>t.kb==[92];simp only[r,Aa,b,c,j,okAt];cases xg l[i]with
    |false=>
     simp only[Ba,zf,Va,Uc,Nb]
     grind
    |true=>
     simp only[Ca,Ab,Ac];cases Vp (l.drop (i+1))with
     |false=>simp_all
     |true=>
      simp only[Ca,zf,Nb]
      grind
  ·grind
  grind
def zvW{l:List ze}(h: ∀t∈l,t.kb.length<=co/\t.ki.length<=co):Lx l=some (hH l):=zvX zvY h
def zL{α:Type}(f:α->List PV)(l:List α):Nat:=Vn (l.map f)
def GD{α:Type}(f:α->List PV):zL f []=0:=rfl
def wh{α:Type}(f:α->List PV)(v:α)(l:List α):zL f (v::l)=zx (f v)+zL f l:=rfl
def Z7{α:Type}{f:α->List PV}{v:α}: ∀{l:List α},v∈l->zx (f v)<=zL f l
 |[],h=>by cases h
 |x::l,h=>by
  rw[wh];rcases ib.1 h with rfl|h
  ·omega
  ·have:=Z7 (f:=f) h;omega
def Z4{α:Type}{f:α->List PV}(a: ∀v,1<=zx (f v)): ∀(l:List α),l.length<=zL f l
 |[]=>Db _
 |v::l=>by rw[wh,Ha];have:=Z4 a l;grind
def YY: ∀l:List UInt8,Vn (l.map λy=>[PV.at (.int .u8 ((y.toNat:Nat):Int))])=l.length
 |[]=>rfl
 |b::l=>by have:=YY l;simp only[Xb,Vn,zx,bPV,Ha]at this ⊢;omega
def zLP(x:zo):zx (qc x)=6+x.kd.kb.length+x.kd.ki.length+zL qc x.w:=by rw[EJ];simp only[zx,bPV,zL];omega
mutual
/-- How large values are. -/
def szV:zo->Nat
 |⟨t,l⟩=>1+t.kb.length+t.ki.length+cT l
def cT:List zo->Nat
 |[]=>0
 |v::r=>szV v+cT r
end
def Ul(v:zo):szV v=1+v.kd.kb.length+v.kd.ki.length+cT v.w:=by obtain⟨t,l⟩:=v;rw[szV]
def Wm{v:zo}: ∀{l:List zo},v∈l->szV v<=cT l
 |[],h=>by cases h
 |x::l,h=>by
  rw[cT];rcases ib.1 h with rfl|h
  ·omega
  ·have:=Wm h;omega
def sj: ∀(l:List zo),l.length<=cT l
 |[]=>Db _
 |v::r=>by rw[cT,Ul,Ha];have:=sj r;omega
def fD(n:Nat):decide ((n:Int)>0)=decide (0<n):=by
 grind
def nN(k:Int):Iy k=some (qm k):=by
 unfold Iy qm;by_cases b:k=19
 ·subst b;rfl
 by_cases d:k=21
 ·subst d;rfl
 by_cases c:k=2
 ·subst c;rfl
 by_cases a:k=23
 ·subst a;rfl
 have g:(k==19)=false:=Fa.2 b;have h:(k==21)=false:=Fa.2 d;have e:(k==2)=false:=Fa.2 c;have f:(k==23)=false:=Fa.2 a;simp only[g,h,e,f,Ba,zf,b,d,c,a,Xd,or_self]
def xO(k:Int):Px k=some (qm k):=by
 unfold Px qm;by_cases b:k=19
 ·subst b;rfl
 by_cases d:k=21
 ·subst d;rfl
 by_cases c:k=2
 ·subst c;rfl
 by_cases a:k=23
 ·subst a;rfl
 have g:(k==19)=false:=Fa.2 b;have h:(k==21)=false:=Fa.2 d;have e:(k==2)=false:=Fa.2 c;have f:(k==23)=false:=Fa.2 a;simp only[g,h,e,f,Ba,zf,b,d,c,a,Xd,or_self]
mutual
/-- The depth of values. -/
def Ll:zo->Nat
 |⟨t,l⟩=>if qm t.u=0 then 0 else 1+QI l
def QI:List zo->Nat
 |[]=>0
 |v::r=>max (Ll v) (QI r)
end
def zE8(v:zo):Ll v=if qm v.kd.u=0 then 0 else 1+QI v.w:=by obtain⟨t,l⟩:=v;rw[Ll]
mutual
def zMt: ∀v:zo,Ll v<=szV v
 |⟨t,l⟩=>by rw[Ll,szV];have:=Vo l;split<;>omega
def Vo: ∀l:List zo,QI l<=cT l
 |[]=>Db _
 |v::r=>by rw[QI,cT];have:=zMt v;have:=Vo r;omega
end
def zBx(f:zo->Nat): ∀(l:List zo) (a:Nat),l.foldl (λa v=>max a (f v)) a=max a (l.foldr (λv a=>max (f v) a) 0)
 |[],a=>by simp
 |v::l,a=>by rw[Xf,zBx f l,List.foldr_cons];omega
def zE7: ∀(l:List zo),QI l=l.foldr (λv a=>max (Ll v) a) 0
 |[]=>by rw[QI];rfl
 |v::l=>by rw[QI,zE7 l];rfl
def MF{l:List zo}(h:cT l<=co):QX l=some (QI l:Int):=by
 refine ZB (λl=>cT l) (λl=>cT l<=co) (λl=>(QI l:Int)) (λS l n j=> ?_) h;unfold kH;have e:=sj l;refine(Y8 l (λi (a:Nat)=>((a:Int),(i:Int))) (λv a=>some (.again (max a (Ll v)))) (λa=>some (.out (a:Int))) (a:=0) rfl (λi a b=> ?_) (λa=> ?_) (r:= .out (QI l:Int)) ?_)
 ·have f:=Wm (Ia b);have k:=Ul l[i];have c:=zE8 l[i];have g:=Vo l[i].w;simp only[zN b,Ca,za,zF b,Aa,nN];by_cases d:qm l[i].kd.u=0
  ·rw[La d]at c;simp[d,c,zD b (by omega)]
  ·rw[Ka d]at c;rw[j l[i].w (by omega) (by omega)];have m:cj (1+(QI l[i].w:Int))=((1+QI l[i].w:Nat):Int):=by rw[cj,ZX (by omega) (by grind)];omega
   simp only[og.2 d,Ca,Aa,zf,zD b (by omega),m,c,Ed]
   grind
 ·grind
 ·rw[lw (λa v=>max a (Ll v)) (λv a=>rfl),zBx,<-zE7];simp
def gz{l:List zo}: ∀{i:Nat} (h:i<l.length),cT (l.take (i+1))=cT (l.take i)+szV l[i]:=by
 induction l with
 |nil=>grind
 |cons v r a=>
  intro i h;cases i with
  |zero=>simp[cT]
  |succ i=>
   simp only[Ld,cT,List.getElem_cons_succ]
   grind
def EB(l:List zo)(i:Nat):cT (l.take i)<=cT l:=by
 induction l generalizing i with
 |nil=>simp
 |cons v r a=>
  cases i with
  |zero=>simp[cT]
  |succ i=>simp only[Ld,cT];grind
mutual
/-- The tokens of values. -/
def gE:zo->List ze
 |⟨t,l⟩=>t::if qm t.u=0 then []else cQ l++[⟨qm t.u,[],0,[],false⟩]
def cQ:List zo->List ze
 |[]=>[]
 |v::r=>gE v++cQ r
end
def iL(v:zo):gE v=v.kd::if qm v.kd.u=0 then []else cQ v.w++[⟨qm v.kd.u,[],0,[],false⟩]:=by obtain⟨t,l⟩:=v;rw[gE]
mutual
def uy: ∀v:zo,(gE v).length<=2*szV v
 |⟨t,l⟩=>by
  rw[gE,szV];have:=Bt l
  grind
def Bt: ∀l:List zo,(cQ l).length<=2*cT l
 |[]=>Db _
 |v::r=>by rw[cQ,cT,Ea];have:=uy v;have:=Bt r;omega
end
def OG: ∀(l:List zo) (a:List ze),l.foldl (λa v=>a++gE v) a=a++cQ l
 |[],a=>by simp[cQ]
 |v::l,a=>by rw[Xf,OG l,cQ,Ja]
def lN{l:List zo}(h:cT l<=co):Qq l=some (cQ l):=by
 refine ZB (λl=>cT l) (λl=>cT l<=co) (λl=>cQ l) (λS l j o=> ?_) h;unfold vI;have f:=sj l;refine(Xz l (λi (a:List ze)=>((i:Int),a)) (λv a=>some (.again (a++gE v))) (λa=>some (.out a)) (λi a=>a.length<=2*cT (l.take i)) (a:=[]) rfl (by simp) (λi a c u=> ?_) (λa _=> ?_) (r:= .out (cQ l)) ?_)
 ·have g:=Wm (Ia c);have t:=Ul l[i];have d:=iL l[i];have k:=Bt l[i].w;have w:=gz c;have q:=EB l (i+1);have s:=uy l[i];unfold co at j;have b: ∀n m:Nat,n+m<=100000000->Zm n m 56=true:=λn m h=>Aw (by omega);refine⟨?_,λx y=> ?_⟩
  ·simp only[zN c,Ca,za,zF c,Aa,nN];by_cases e:qm l[i].kd.u=0
   ·rw[La e]at d;simp[e,d,zD c (by unfold co;omega),b a.length 1 (by omega)]
   ·rw[Ka e]at d;rw[o l[i].w (by unfold co;omega) (by omega)];have p:(qm l[i].kd.u != 0)=true:=og.2 e;simp[p,d,zD c (by unfold co;omega),b a.length 1 (by omega),b (a.length+1) (cQ l[i].w).length (by omega),b (a.length+((cQ l[i].w).length+1)) 1 (by omega)]
  ·grind
 ·grind
 ·rw[lw (λa v=>a++gE v) (λv a=>rfl),OG];simp
mutual
/-- Whether lists are those of blocks, and have not their closers. -/
def shV:zo->Int->Bool
 |⟨t,l⟩,c=> !((qm t.u==0&&decide (0<l.length))||(c != 0&&t.u==c)||(qm t.u != 0&& !(ls l (qm t.u))))
def ls:List zo->Int->Bool
 |[],_=>true
 |v::r,c=>shV v c&&ls r c
end
def gZ(v:zo)(c:Int):shV v c= !((qm v.kd.u==0&&decide (0<v.w.length))||(c != 0&&v.kd.u==c)||(qm v.kd.u != 0&& !(ls v.w (qm v.kd.u)))):=by obtain⟨t,l⟩:=v;rw[shV]
def zHq{l:List zo}{c:Int}(h:cT l<=co):Np (l,c)=some (ls l c):=by
 refine ZB (λx:List zo×Int=>cT x.1) (λx=>cT x.1<=co) (λx=>ls x.1 x.2) (λS x A q=> ?_) h;obtain⟨l,c⟩:=x;simp only at A q ⊢;unfold uI;have m:=sj l;have f: ∀l:List zo,Vj (λv (_:Unit)=>if shV v c=true then some (.again ())else some (.ret false)) (λ_=>some (.out ())) l ()=some (if ls l c=true then .out ()else .ret false):=by
  intro l
  induction l with
  |nil=>simp[Vj,ls]
  |cons v r y=>
   by_cases n:shV v c=true
   ·simpa [Vj,ls,n] using y
   ·simp[Vj,ls,n]
 refine(Y8 l (λi (_:Unit)=>(i:Int)) (λv (_:Unit)=>if shV v c=true then some (.again ())else some (.ret false)) (λ_=>some (.out ())) (a:=()) rfl (λi a d=> ?_) (λa=> ?_) (f l)).trans ?_
 ·have C:=Wm (Ia d);have w:=Ul l[i];have z:=gZ l[i] c;simp only[zN d,Ca,za,zF d,Aa,nN];have g:cT l[i].w<=co:=by omega
  have j:cT l[i].w<cT l:=by omega
  have e: ∀b,S (l[i].w,b)=some (ls l[i].w b):=λb=>q (l[i].w,b) g j;rw[z];have o:decide ((l[i].w.length:Int)>0)=decide (0<l[i].w.length):=fD _;have B:=zD d (by omega);simp only[bne,o];rcases ic (qm l[i].kd.u==0)with k|k<;>rcases ic (decide (0<l[i].w.length))with u|u<;>rcases ic (c==0)with s|s<;>rcases ic (l[i].kd.u==c)with p|p<;>rcases ic (ls l[i].w (qm l[i].kd.u))with t|t<;>
   simp only[e,o,k,u,s,p,t,B,Ca,Ba,Ab,Va,Nb,Nc,ja,Bc,Be,Dc,Uc,Ac,zQ,ZF,Aa,He,Xd,Ed,Cc]
 ·grind
 ·cases h:ls l c<;>simp
def Aq(l:List zo)(c:Int):ZM:=⟨QI l,(cQ l).length, !(ls l c)⟩
def zBS(c:Int): ∀(l:List zo) (a:Nat×Nat×Bool),l.foldl (λa v=>(max a.1 (Ll v),a.2.1+(gE v).length,a.2.2|| !(shV v c))) a=(max a.1 (QI l),a.2.1+(cQ l).length,a.2.2|| !(ls l c))
 |[],a=>by simp[QI,cQ,ls]
 |v::l,a=>by
  rw[Xf,zBS c l,QI,cQ,ls,Ea];simp only[Prod.mk.injEq]
  grind
def zPF(a b:Bool):(bif a then true else b)=(a||b):=by cases a<;>rfl
def zMj(a b:Bool):(bif a then b else false)=(a&&b):=by cases a<;>rfl
def xU{l:List zo}{c:Int}(h:cT l<=co):gm (l,c)=some (Aq l c):=by
 refine ZB (λx:List zo×Int=>cT x.1) (λx=>cT x.1<=co) (λx=>Aq x.1 x.2) (λS x C E=> ?_) h;obtain⟨l,c⟩:=x;simp only at C E ⊢;unfold NH;have B:=sj l;refine(Xz l (λi (a:Nat×Nat×Bool)=>((i:Int),(⟨(a.1:Int),(a.2.1:Int),a.2.2⟩:ZM))) (λv a=>some (.again (max a.1 (Ll v),a.2.1+(gE v).length,a.2.2|| !(shV v c)))) (λa=>some (.out (⟨(a.1:Int),(a.2.1:Int),a.2.2⟩:ZM))) (λi a=>a.2.1<=2*cT (l.take i)) (a:=(0,0,false)) rfl (by simp) (λi a j J=> ?_) (λa _=> ?_) (r:= .out (Aq l c)) ?_)
 ·have N:=Wm (Ia j);have H:=Ul l[i];have m:=zE8 l[i];have O:=Vo l[i].w;have o:=iL l[i];have P:=Bt l[i].w;have e:=gZ l[i] c;have K:=gz j;have G:=EB l (i+1);have Q:=uy l[i];have w:cT l[i].w<=co:=by omega
  have y:cT l[i].w<cT l:=by omega
  have p:S (l[i].w,qm l[i].kd.u)=some (Aq l[i].w (qm l[i].kd.u)):=E (l[i].w,qm l[i].kd.u) w y;obtain⟨d,n,b⟩:=a;simp only at J;have D:=zD j (by omega);unfold co at C;have u:cj ((n:Int)+1)=((n+1:Nat):Int):=by rw[cj,ZX (by omega) (by omega)];omega
  refine⟨?_,λR T=> ?_⟩
  ·have L:decide ((l[i].w.length:Int)>0)=decide (0<l[i].w.length):=fD _;simp only[zN j,Ca,za,zF j,Aa,xO,Ed,u,bne,L,zPF,zMj];by_cases k:qm l[i].kd.u=0
   ·rw[La k]at m o;simp only[k,Ff,ja,Ab,Bc,Dc,bne]at e ⊢;rw[e,m,o];rcases ic (decide (0<l[i].w.length))with F|F<;>rcases ic (c==0)with g|g<;>rcases ic (l[i].kd.u==c)with f|f<;>
     simp[F,g,f,D,Ca,Ba]
   ·rw[Ka k]at m o;have s:(qm l[i].kd.u==0)=false:=Fa.2 k;have z:cj ((QI l[i].w:Int)+1)=((1+QI l[i].w:Nat):Int):=by rw[cj,ZX (by omega) (by omega)];omega
    have t:cj (((n+1:Nat):Int)+((cQ l[i].w).length:Int))=((n+1+(cQ l[i].w).length:Nat):Int):=by rw[cj,ZX (by omega) (by omega)];omega
    have A:cj (((n+1+(cQ l[i].w).length:Nat):Int)+1)=((n+(1+((cQ l[i].w).length+1)):Nat):Int):=by rw[cj,ZX (by omega) (by omega)];omega
    have q:(gE l[i]).length=1+((cQ l[i].w).length+1):=by rw[o];simp;omega
    have M:(if((1+QI l[i].w:Nat):Int)>(d:Int)then((1+QI l[i].w:Nat):Int)else(d:Int))=((max d (1+QI l[i].w):Nat):Int):=by split<;>omega
    rw[e,m,q];simp only[s,p,Bc,Va,ja,Dc,Ac,Ba,bne,Aa,Aq];rcases ic (c==0)with g|g<;>rcases ic (l[i].kd.u==c)with f|f<;>
     simp only[g,f,D,z,t,A,M,Ca,Ba,zf,Ab,Va,ja,Nb,Nc,Bc,Be,Dc,Uc,Ac,Nf]
  grind
 ·grind
 ·rw[lw (λa v=>(max a.1 (Ll v),a.2.1+(gE v).length,a.2.2|| !(shV v c))) (λv a=>rfl),zBS];simp[Aq]
def mZ{a b:List zo}(h:a.Sublist b):cT a<=cT b:=by
 induction h with
 |slnil=>grind
 |cons v _ c=>rw[cT];omega
 |cons_cons v _ c=>rw[cT,cT];omega
def MO(l:List zo):l=[]\/ ∃t v,l=t++[v]:=by
 rcases List.eq_nil_or_concat l with h|⟨t,v,h⟩
 ·exact .inl h
 grind
def ei(v:zo):Bool:=v.kd.u==13
def gC(l:List zo):List zo:=(l.reverse.dropWhile ei).reverse
def lG(t:List zo)(v:zo):gC (t++[v])=if ei v then gC t else t++[v]:=by
 unfold gC;rw[List.reverse_append];simp only[List.reverse_cons,List.reverse_nil,Lb,Bb,Ud]
 grind
def zLz(l:List zo):(gC l).Sublist l:=by
 unfold gC
 grind
def trimS(l:List zo):List zo:=gC (l.dropWhile ei)
def zEx{l:List zo}(h:cT l<=co):dI l=some (trimS l):=by
 unfold dI;refine(Di (r:= .out (l.dropWhile ei)) (qh (λs=>s.dropWhile ei=l.dropWhile ei) (λs=>s.length) _ (λs c=> ?_) rfl)).trans ?_
 ·cases s with
  |nil=>simp_all
  |cons v t=>
   have e:decide (((v::t).length:Int)>0)=true:=by rw[fD];simp
   have f:cl (v::t) 0=some v:=rfl;have n:decide ((1:Int)<=((v::t).length:Int))=true:=by simp;omega
   rw[Ud]at c;cases b:ei v with
   |true=> rw[b]at c;unfold ei at b;simp_all
   |false=> rw[b]at c;unfold ei at b;refine .inr (.inl ⟨v::t,?_,by rw[<-c];rfl⟩);simp only[e,f,zQ,za,Aa,b,Ca,Ba]
 ·rw[zOD];have i:cT (l.dropWhile ei)<=co:=Jc (mZ (List.dropWhile_sublist _)) h;unfold trimS;generalize l.dropWhile ei=d at i;refine(Di (r:= .out (gC d)) (qh (λs=>gC s=gC d/\cT s<=co) (λs=>s.length) _ (λs c=> ?_) ⟨rfl,i⟩)).trans ?_
  ·rcases MO s with rfl|⟨t,v,rfl⟩
   ·exact .inr (.inl ⟨[],by simp,by rw[<-c.1];rfl⟩)
   ·have g:=sj (t++[v]);have k:(t++[v]).length=t.length+1:=by simp
    have m:=c.2;unfold co at m;have e:decide (((t++[v]).length:Int)>0)=true:=by rw[fD];simp
    have j:cj (((t++[v]).length:Int) - 1)=(t.length:Int):=by rw[cj,ZX (by omega) (by omega)];omega
    have f:cl (t++[v]) (t.length:Int)=some v:=by rw[zF (by omega)];simp
    have n:(decide ((0:Int)<=(t.length:Int))&&decide ((t.length:Int)<=((t++[v]).length:Int)))=true:=by simp;omega
    have a:=c.1;rw[lG]at a;cases b:ei v with
    |true=> rw[La b]at a;unfold ei at b;refine .inl ⟨t,?_,⟨a,Jc (mZ (List.sublist_append_left t [v])) c.2⟩,by simp⟩;simp_all
    |false=> rw[Ka (by rw[b];simp)]at a;unfold ei at b;refine .inr (.inl ⟨t++[v],?_,by rw[<-a]⟩);simp only[e,j,f,zQ,za,Aa,b,Ca,Ba]
  ·rw[zOD]
def fx(l:List zo):Int:=if 16<QI l then 20 else if 1500<(cQ l).length then 4 else if ls l 0 then 0 else 8
def zKQ{l:List zo}(h:cT l<=co):LH l=some (fx l):=by
 unfold LH fx;simp only[za,MF h,lN h,zHq h,Aa]
 grind
def wN{l:List zo}(h:cT l<=co):uw l=some (fx l):=by
 unfold uw fx;simp only[za,xU h,Aa,Aq]
 grind
def vN{l:List zo}(h:cT l<=co):gq l=some (if fx l=0 then((QI l:Int),0)else(0,fx l)):=by
 unfold gq;simp only[za,wN h,xU h,Aa,Aq]
 grind
def Fq: ∀l:List zo,cT l<=zL qc l:=by
 have a: ∀(n:Nat) (l:List zo),zL qc l<n->cT l<=zL qc l:=by
  intro n
  induction n with
  |zero=>intro l h;omega
  |succ n d=>
   intro l
   induction l with
   |nil=>intro _;rw[cT];grind
   |cons v l b=>
    intro h;rw[wh]at h ⊢;rw[cT,Ul];have c:=zLP v
    grind
 grind
def zME{l:List zo}{a:List ze}(h:cT l<=co)(e:a.length+2*cT l<=4*co):Tp (l,a)=some (a++cQ l):=by
 refine ZB (λz=>cT z.1) (λz=>cT z.1<=co/\z.2.length+2*cT z.1<=4*co) (λz=>z.2++cQ z.1) (λS z q s=> ?_) (x:=(l,a)) ⟨h,e⟩;obtain⟨l,a⟩:=z;obtain⟨h,e⟩:=q;have h:cT l<=co:=h;have e:a.length+2*cT l<=4*co:=e;have j:=sj l;unfold gI;refine(Xz l (λi (b:List ze)=>((i:Int),b)) (λv b=>some (.again (b++gE v))) (λb=>some (.out b)) (λi b=>b.length<=a.length+2*cT (l.take i)) (a:=a) rfl (by simp) (λi b d A=> ?_) (λb _=> ?_) (r:= .out (a++cQ l)) ?_).trans rfl
 ·have o:=Wm (Ia d);have y:=Ul l[i];have f:=iL l[i];have p:=Bt l[i].w;have B:=gz d;have u:=EB l (i+1);have w:=uy l[i];unfold co at h e;have c: ∀n m:Nat,n+m<=100000000->Zm n m 56=true:=λn m h=>Aw (by omega);refine⟨?_,λC k=> ?_⟩
  ·simp only[zN d,Ca,za,zF d,Aa,xO];by_cases g:qm l[i].kd.u=0
   ·rw[La g]at f;simp[g,f,zD d (by unfold co;omega),c b.length 1 (by omega)]
   ·rw[Ka g]at f;rw[s (l[i].w,b++[l[i].kd]) ⟨by grind,by grind⟩ (by grind)];have t:(qm l[i].kd.u != 0)=true:=og.2 g;simp[t,f,zD d (by unfold co;omega),c b.length 1 (by omega),c (b.length+((cQ l[i].w).length+1)) 1 (by omega)]
  ·grind
 ·grind
 ·rw[lw (λa v=>a++gE v) (λv a=>rfl),OG]
def J9{l:List zo}(h:cT l<=co):Ox l=some (cQ l):=by
 have g:=sj l;unfold Ox;refine(Xz l (λi (b:List ze)=>((i:Int),b)) (λv b=>some (.again (b++gE v))) (λb=>some (.out b)) (λi b=>b.length<=2*cT (l.take i)) (a:=[]) rfl (by simp) (λi b d u=> ?_) (λb _=> ?_) (r:= .out (cQ l)) ?_).trans rfl
 ·have k:=Wm (Ia d);have t:=Ul l[i];have e:=iL l[i];have o:=Bt l[i].w;have w:=gz d;have q:=EB l (i+1);have s:=uy l[i];unfold co at h;have c: ∀n m:Nat,n+m<=100000000->Zm n m 56=true:=λn m h=>Aw (by omega);refine⟨?_,λx j=> ?_⟩
  ·simp only[zN d,Ca,za,zF d,Aa,xO];by_cases f:qm l[i].kd.u=0
   ·rw[La f]at e;simp[f,e,zD d (by unfold co;omega),c b.length 1 (by omega)]
   ·rw[Ka f]at e;rw[zME (a:=b++[l[i].kd]) (show cT l[i].w<=co by unfold co;omega) (by grind)];have p:(qm l[i].kd.u != 0)=true:=og.2 f;simp[p,e,zD d (by unfold co;omega),c b.length 1 (by omega),c (b.length+((cQ l[i].w).length+1)) 1 (by omega)]
  ·grind
 ·grind
 ·rw[lw (λa v=>a++gE v) (λv a=>rfl),OG];simp
def zB1{l:List zo}(h:cT l<=co):wF l=some (if fx l=0 then(cQ l,0)else([],fx l)):=by
 unfold wF;simp only[wN h,za,Aa];by_cases a:fx l=0
 ·have:(fx l != 0)=false:=by rw[a];rfl
  rw[this,Ba,J9 h,La a];rfl
 grind
end Go.Lv.VT

namespace Go.Lv
def Le.lp{S X R:Type}{step a:S->Option (LO S X R)}{s:S}{k k':X->Option R}(h: ∀s,Le (step s) (a s))(hk: ∀x,Le (k x) (k' x)):Le (zM step s k) (zM a s k'):=by
 intro y b;replace b:((Dg step s).bind λx=>match x with| .out x=>k x| .ret r=>some r)=some y:=b;cases hl:Dg step s with
 |none=>rw[hl]at b;cases b
 |some r=>
  rw[hl]at b;obtain⟨n,hn⟩:=VU hl;rw[Di (qM (eF h n s r hn))];cases r with
  |out x=>exact hk x y b
  |ret r=>exact b
def Tk{X Y:Type}(B:(X->Option Y)->X->Option Y):Prop:= ∀S S':X->Option Y,(∀x,Le (S x) (S' x))-> ∀x,Le (B S x) (B S' x)
def Ko {X Y:Type}{B:(X->Option Y)->X->Option Y}(hm:Tk B)(a:X->Nat)(ok:X->Prop)(R:X->Y->Prop)
  (hB: ∀(S:X->Option Y) (x:X),ok x->(∀z,ok z->a z<a x-> ∃y,S z=some y/\R z y)-> ∃y,B S x=some y/\R x y) {x:X} (f:ok x): ∃y,recE B x=some y/\R x y:=by
 have step: ∀n x,Le (yh B n x) (yh B (n+1) x):=by
  intro n
  induction n with
  |zero=>intro x;exact Le.none
  |succ n b=>intro x;exact hm _ _ b x
 have up: ∀d n x,Le (yh B n x) (yh B (n+d) x):=by
  intro d
  induction d with
  |zero=>intro n x;exact Le.rfl
  |succ d b=>intro n x y i;exact step _ x y (b n x y i)
 have c: ∀(m:Nat) (x:X),a x<m->ok x-> ∃y,yh B m x=some y/\R x y:=by
  intro m
  induction m with
  |zero=>intro x h;omega
  |succ m b=> intro x hm e;exact hB _ x e λz j k=>b z (by omega) j
 obtain⟨y,h1,h2⟩:=c (a x+1) x (by omega) f;refine⟨y,jR (N:=a x+1) λn hn=> ?_,h2⟩;obtain⟨d,rfl⟩:=Nat.le.dest hn;exact up d _ x y h1
def Jt {A S X R:Type}{step:S->Option (LO S X R)}{k:X->Option R}(n:Nat)(st:Nat->A->S)(Inv:Nat->A->Prop)(Q:R->Prop){s0:S}{a0:A}(h0:s0=st 0 a0)(hI:Inv 0 a0)
  (d: ∀(i:Nat) (a:A),i<n->Inv i a->(∃b,step (st i a)=some (.again (st (i+1) b))/\Inv (i+1) b)\/(∃r,step (st i a)=some (.ret r)/\Q r)\/(∃x,step (st i a)=some (.out x)/\ ∃r,k x=some r/\Q r))
  (hf: ∀a,Inv n a->(∃x,step (st n a)=some (.out x)/\ ∃r,k x=some r/\Q r)\/(∃r,step (st n a)=some (.ret r)/\Q r)): ∃r,zM step s0 k=some r/\Q r:=by
 have c: ∀(m i:Nat) (a:A),i+m=n->Inv i a-> ∃j x,ZP step j (st i a)=some x/\ ∃r,LX.go x k=some r/\Q r:=by
  intro m
  induction m with
  |zero=>
   intro i a hi ha;obtain rfl:i=n:=by omega
   rcases hf a ha with⟨x,h1,r,h2,h3⟩|⟨r,h1,h2⟩
   ·exact⟨1, .out x,by simp only[ZP,h1],r,h2,h3⟩
   ·exact⟨1, .ret r,by simp only[ZP,h1],r,rfl,h2⟩
  |succ m e=>
   intro i a hi ha;rcases d i a (by omega) ha with⟨b,h1,h2⟩|⟨r,h1,h2⟩|⟨x,h1,r,h2,h3⟩
   ·obtain⟨j,x,f,l⟩:=e (i+1) b (by omega) h2;exact⟨j+1,x,by simp only[ZP,h1];exact f,l⟩
   ·exact⟨1, .ret r,by simp only[ZP,h1],r,rfl,h2⟩
   ·exact⟨1, .out x,by simp only[ZP,h1],r,h2,h3⟩
 obtain⟨j,x,h1,r,h2,h3⟩:=c n 0 a0 (by omega) hI;refine⟨r,?_,h3⟩;rw[h0,Di (qM h1),h2]
namespace VT
def mx{α:Type}(f:α->Nat):List α->Nat
 |[]=>0
 |v::l=>max (f v) (mx f l)
def Oo {α S X R:Type}{step:S->Option (LO S X R)}{k:X->Option R}(l:List α)(f:α->Nat)(st:Nat->Nat->S)(out:Nat->X){s0:S}{a0:Nat}(h0:s0=st a0 0)
  (e: ∀(i a:Nat) (h:i<l.length),step (st a i)=some (.again (st (max a (f l[i])) (i+1))))
  (hf: ∀a:Nat,step (st a l.length)=some (.out (out a))):zM step s0 k=k (out (max a0 (mx f l))):=by
 have d: ∀(m:List α) (i a:Nat),l.drop i=m->i<=l.length-> ∃n,ZP step n (st a i)=some (.out (out (max a (mx f m)))):=by
  intro m
  induction m with
  |nil=>
   intro i a b hi;have:i=l.length:=by have:=Ad.1 b;omega
   subst this;exact⟨1,by simp only[ZP,hf,mx];rw[Nat.max_zero]⟩
  |cons v m j=>
   intro i a b hi;have c:i<l.length:=by
    rcases Ec i l.length with h|h
    ·exact h
    ·rw[Je h]at b;cases b
   have hv:l[i]=v:=by have:=Eb c;rw[b]at this;injection this with h1 _;exact h1.symm
   have hs:=e i a c;rw[hv]at hs;obtain⟨n,hn⟩:=j (i+1) (max a (f v)) (by rw[Eb c]at b;injection b) (by omega);refine⟨n+1,?_⟩;simp only[ZP,hs];rw[hn,mx,Nat.max_assoc]
 obtain⟨n,hn⟩:=d l 0 a0 rfl (by omega);rw[h0,Di (qM hn)];rfl
def Yk(a b:Nat):(if(b:Int)>(a:Int)then(b:Int)else(a:Int))=((max a b:Nat):Int):=by split<;>omega
end VT
end Go.Lv

namespace Go.Lv.VT
set_option maxRecDepth 100000
def ZU{α:Type}(l:List α):((l.length:Int)==0)=l.isEmpty:=by
 cases l with
 |nil=>rfl
 |cons a l=>grind
def WG(v:zo):(⟨v.kd,v.w⟩:zo)=v:=by cases v;rfl
def ai(x:aE):Bool:= !(x==[])&&(decide (x.length<=64)&&(ZL x&&(bif List.isPrefixOf [45,45] x then !(x==[45,45])else dr x==x)))
def zx6{x:aE}(h:x.length<=co):eG x=some (ai x):=by
 have e:decide ((x.length:Int)>64)= !decide (x.length<=64):=kg _ 64;have e1:decide (Lib.indexByte x (0:Int).toNat.toUInt8>=0)= !ZL x:=Ms x;have a:=VN x (dr x);unfold eG ai;simp only[QQ,zO,za,Aa,Ar,aA h,e,a];cases x==[]<;>cases decide (x.length<=64)<;>try rfl
 grind
def P9(x:aE):(bif decide ((x.length:Int)>=2)then List.take 2 x==[45,45]else false)=List.isPrefixOf [45,45] x:=by
 cases x with
 |nil=>rfl
 |cons a x=>
  cases x with
  |nil=>grind
  |cons b x=>
   grind
def R9{x:aE}(h:List.isPrefixOf [45,45] x=true):decide ((x.length:Int)>2)= !(x==[45,45]):=by
 obtain⟨t,rfl⟩:=Gf.1 h;cases t with
 |nil=>rfl
 |cons a t=>
  grind
def zv0{x:aE}(h:x.length<=co):KH x=some (ai x):=by
 have e:decide ((x.length:Int)>64)= !decide (x.length<=64):=kg _ 64;have d:decide ((x.length:Int)<1)=(x==[]):=by cases x with
  |nil=>rfl
  |cons a x=>grind
 have f:=VN x (dr x);have hk:(ck (decide ((2:Int)<=(x.length:Int))|| !(decide ((x.length:Int)>=2)))<|
   bif bif decide ((x.length:Int)>=2)then List.take 2 x==[45,45]else false then some (decide ((x.length:Int)>2))else za (QB x) λj=>some (x==j))=some (bif List.isPrefixOf [45,45] x then !(x==[45,45])else dr x==x):=by
  have e2:(decide ((2:Int)<=(x.length:Int))|| !(decide ((x.length:Int)>=2)))=true:=by show(decide _|| !decide ((2:Int)<=_))=true;cases decide ((2:Int)<=(x.length:Int))<;>rfl
  rw[e2,Zd,P9];cases hp:List.isPrefixOf [45,45] x with
  |true=>rw[Ca,Ca,R9 hp]
  |false=>simp only[Ba,JA h,za,Aa,f]
 unfold KH ai;rw[hk];have hl: ∀b:Bool,zM (λ(c:Int)=>bif decide (c<(x.length:Int))then
    za (cl x c) λk=>bif (k.toNat:Int)==0 then some (LO.ret false)else some (LO.again (cj (c+1)))
   else some (LO.out ()):Int->Option (LO (Int) (Unit) _)) 0 (λ_=>some b)=some (ZL x&&b):=by
  intro b;refine(qd x (λb=>bif (!(b==0))then none else some false) () (λi hi=> ?_) ?_).trans ?_
  ·simp only[zN hi,Ca,zF hi,za,Aa,ir,zD hi h]
   grind
  ·grind
  ·rw[Dj];unfold ZL
   grind
 rw[hl,e,d]
 grind
def clK(v:zo):Bool:=v.kd.u==20||(v.kd.u==22||v.kd.u==24)
mutual
def clV:zo->Bool
 |⟨t,l⟩=>clK ⟨t,l⟩||clL l
def clL:List zo->Bool
 |[]=>false
 |v::r=>clV v||clL r
end
def kY(v:zo):clV v=(clK v||clL v.w):=by obtain⟨t,l⟩:=v;rw[clV]
def M6(l:List zo):clL l=l.any clV:=by
 induction l with
 |nil=>rw[clL];rfl
 |cons v l a=>rw[clL,a];rfl
def zsB{l:List zo}(h:cT l<=co):Zj l=some (clL l):=by
 refine ZB (λl=>cT l) (λl=>cT l<=co) (λl=>clL l) (λS l hl hS=> ?_) h;have b:=sj l;unfold FJ jP XP;have:=Uo (Po (step:=λ(a:Int)=>
   bif decide (a<(l.length:Int))then
    za (cl l a) λc=>
    za (iB S (⟨c.kd,c.w⟩:zo)) λd=>
    bif d then some (LO.ret a)else some (LO.again (cj (a+1)))
   else some (LO.out ())) l clV (by omega) (λi hi=> ?_) ?_) (Ym _ _)
 ·rw[this,M6];rfl
 ·have e:=Wm (Ia hi);have f:=Ul l[i];have hs:=hS l[i].w (by omega) (by omega);have:iB S l[i]=some (clV l[i]):=by unfold iB uj;simp only[WG,zO,za,Aa,hs,kY,clK];cases l[i].kd.u==20<;>cases l[i].kd.u==22<;>cases l[i].kd.u==24<;>rfl
  simp only[zN hi,Ca,zF hi,za,Aa,WG,this]
 grind
def zrj{l:List zo}(h:cT l<=co):QM l=some (clL l):=by
 refine ZB (λl=>cT l) (λl=>cT l<=co) (λl=>clL l) (λS l hl hS=> ?_) h;have a:=sj l;unfold lJ;refine(qd l (λv=>bif clV v then some true else none) () (λi hi=> ?_) ?_).trans ?_
 ·have b:=Wm (Ia hi);have c:=Ul l[i];have hs:=hS l[i].w (by omega) (by omega);simp only[zN hi,Ca,zF hi,za,Aa,kY,clK,zD hi (show l.length<=co by omega)];cases h1:l[i].kd.u==20<;>cases h2:l[i].kd.u==22<;>cases h3:l[i].kd.u==24<;>
   first|rfl|(simp only[Ba,Va,zQ,Aa,hs,Ac];grind)
 ·grind
 ·rw[MM,M6]
  grind
def iy(l:List zo):Bool:=match l with
 |[]=>false
 |v::r=>ei v||ei ((v::r).getLast (by simp))
def zGW(t:List zo)(v:zo):iy (t++[v])=((match t with|[]=>ei v|a::_=>ei a)||ei v):=by
 cases t with
 |nil=>rfl
 |cons a t=>
  show(ei a||ei ((a::(t++[v])).getLast _))=_
  grind
def zCT(l:List zo):(gC l).length<=l.length:=(zLz l).length_le
def zHB(l:List zo):((trimS l).length==l.length)= !iy l:=by
 rcases MO l with rfl|⟨t,v,rfl⟩
 ·rfl
 ·rw[zGW];have hl:(t++[v]).length=t.length+1:=by simp
  cases t with
  |nil=>
   show((gC (List.dropWhile ei [v])).length==1)= !(ei v||ei v);cases hv:ei v with
   |true=>simp only[Ud,hv];rfl
   |false=>
    simp only[Ud,hv];have:=lG [] v
    grind
  |cons a t=>
   show((gC (List.dropWhile ei (a::(t++[v])))).length==_)= !(ei a||ei v);have hb:=zCT (List.dropWhile ei (a::(t++[v])));cases ha:ei a with
   |true=>
    simp only[Ud,ha,He]at hb ⊢;have b:=(List.dropWhile_sublist ei (l:=t++[v])).length_le
    grind
   |false=>
    have e:List.dropWhile ei (a::(t++[v]))=(a::t)++[v]:=by rw[Ud,ha];rfl
    rw[e,lG];cases hv:ei v with
    |true=>
     have:=zCT (a::t)
     grind
    |false=>simp
def zIH{l:List zo}(h:l.length<=co)(g:Bool)(e:(l.isEmpty&&g)=false)(k:Bool->Option Int):
  (za (zA (decide ((l.length:Int)>0)&& !g) (cl l 0) (default:zo)) λc=>
   za (zA (decide ((l.length:Int)>0)&& !g) (uj ((⟨c.kd,c.w⟩:zo),13)) (default:Bool)) λa=>
   za (zA (!a&&(decide ((l.length:Int)>0)&& !g)) (cl l (cj ((l.length:Int) - 1))) (default:zo)) λd=>
   za (zA (!a&&(decide ((l.length:Int)>0)&& !g)) (uj ((⟨d.kd,d.w⟩:zo),13)) (default:Bool)) λb=>
   k (bif decide ((l.length:Int)>0)then bif a then true else b else false))=(if g=true/\l≠[]then(k (bif decide ((l.length:Int)>0)then bif (default:Bool)then true else(default:Bool)else false))else k (iy l)):=by
 cases l with
 |nil=> have:decide ((([]:List zo).length:Int)>0)=false:=rfl;simp only[this,Bc,ZF,za,Aa,Nc,Ba,ne_eq,not_true_eq_false,and_false,Xd,iy]
 |cons v r=>
  have e1:decide (((v::r).length:Int)>0)=true:=Ga (by grind);have e2:cl (v::r) 0=some v:=rfl;cases g with
  |true=>simp_all
  |false=>
   simp only[e1,Va,Nb,zQ,za,Aa,Ca,e2,uj,false_and,Xd,reduceCtorEq];have e3:cj (((v::r).length:Int) - 1)=(r.length:Int):=by rw[Ha]at h ⊢;rw[cj,ZX (by omega) (by grind)];omega
   have e4:cl (v::r) (r.length:Int)=some ((v::r).getLast (by simp)):=by rw[zF (by simp),List.getLast_eq_getElem];simp
   rw[e3,e4];simp only[zO,Aa,iy,ei]
   grind
def badV(v:zo):Bool:=v.kd.u==17||(v.kd.u==9&&v.kd.kb==[33])
def rC(a:Bool)(l:List zo):Bool:= !(l.any badV)&&(!(l.isEmpty&& !a)&& !iy l)
def Qm(d:Zv):Bool:=ai d.q&&(fx d.i==0&&(hH (cQ d.i)==0&&(!clL d.i&&rC (List.isPrefixOf [45,45] d.q) d.i)))
mutual
def zN9: ∀(v:zo) (t:ze),t∈gE v->t.kb.length<=szV v/\t.ki.length<=szV v
 |⟨t,l⟩,u,h=>by
  rw[gE]at h;rw[szV];rcases ib.1 h with rfl|h
  ·grind
  ·split at h
   ·cases h
   ·rcases Vd.1 h with h|h
    ·have:=Vz l u h;omega
    grind
def Vz: ∀(l:List zo) (t:ze),t∈cQ l->t.kb.length<=cT l/\t.ki.length<=cT l
 |[],_,h=>by rw[cQ]at h;cases h
 |v::r,u,h=>by
  rw[cQ]at h;rw[cT];rcases Vd.1 h with h|h
  ·have:=zN9 v u h;omega
  ·have:=Vz r u h;omega
end
def zMJ{l:List zo}(h:cT l<=co):ww (cQ l)=some (hH (cQ l)):=
 lV λt ht=>by have:=Vz l t ht;omega
def zQa{l:List zo}(h:cT l<=co):Lx (cQ l)=some (hH (cQ l)):=
 zvW λt ht=>by have:=Vz l t ht;omega
def zAy{l:List zo}(h:l.length<=co):qQ l=some (l.any badV):=by
 unfold qQ bP;refine Uo (Po l badV h (λi hi=> ?_) ?_) (Ym _ _)
 ·have:mH l[i]=some (badV l[i]):=by unfold mH RN uj badV;simp only[WG,zO,za,Aa];cases l[i].kd.u==17<;>cases l[i].kd.u==9<;>rfl
  simp only[zN hi,Ca,zF hi,za,Aa,WG,this]
 grind
def rV{d:Zv}(hv:cT d.i<=co)(hn:d.q.length<=co):wo d=some (bif Qm d then 0 else 8):=by
 have e:=sj d.i;unfold wo Qm;rw[zB1 hv];simp only[za,Aa,zx6 hn];cases ai d.q with
 |false=>simp_all
 |true=>
  by_cases c:fx d.i=0
  ·rw[La c];have a:(fx d.i==0)=true:=Fb.2 c;have this:((0:Int)==0)=true:=rfl;simp only[a,this,Ab,Ba,Va,zQ,zMJ hv,Aa,ja,bne];cases j:hH (cQ d.i)==0 with
   |false=>simp_all
   |true=>
    simp only[Ab,Ba,Va,zQ,zsB hv,Aa,ja];cases clL d.i with
    |true=>rfl
    |false=>
     simp only[Ba,zAy (show d.i.length<=co by omega),Aa,rC,Va,ja];cases d.i.any badV with
     |true=>rfl
     |false=>
      simp only[Ba,Ar,zO,Aa,ZU,Va,ja];have hp:=zIH (l:=d.i) (by omega) (bif d.i.isEmpty then !(bif d.i.isEmpty then List.isPrefixOf [45,45] d.q else default)else false);cases f:d.i with
      |nil=>
       cases List.isPrefixOf [45,45] d.q<;>rfl
      |cons v r=>
       have i:=hp (by rw[f];rfl) (λb=>bif b then some 8 else some 0)
       grind
  ·rw[Ka c];have a:(fx d.i==0)=false:=Fa.2 c;simp only[a,bne,Ab,Ba,Va,Ca,ZF,Aa,Bc,Nc]
def zIu{x:aE}(hn:ai x=true):iH x=some (List.isPrefixOf [45,45] x):=by
 unfold iH;have e2:(decide ((2:Int)<=(x.length:Int))|| !(decide ((x.length:Int)>2)))=true:=by
  by_cases h:2<=x.length
  ·grind
  ·grind
 rw[zn e2];have hp:=P9 x;cases a:List.isPrefixOf [45,45] x with
 |true=>
  rw[a]at hp;have h3:=R9 a;unfold ai at hn;rw[a]at hn
  grind
 |false=>
  grind
def zQs{α:Type}(a b:List α):((a.length:Int)==(b.length:Int))=(a.length==b.length):=by
 grind
def ztW{x:aE}{l:List zo}(h:cT l<=co)(hn:ai x=true):
  gH (x,l)=some (fx l==0&&(hH (cQ l)==0&&(!clL l&&rC (List.isPrefixOf [45,45] x) l))):=by
 have c:=sj l;unfold gH;simp only[zKQ h,lN h,za,Aa,bne,zO];cases d:fx l==0 with
 |false=>simp_all
 |true=>
  simp only[Ab,Ba,Va,Ca,zQ,zQa h,Aa,ja];cases e:hH (cQ l)==0 with
  |false=>simp_all
  |true=>
   simp only[Ab,Ba,Va,zQ,zrj h,Aa,ja];cases clL l with
   |true=>rfl
   |false=>
    simp only[Ba,zEx h,Aa,zQs,zHB,ZU,Nf,Va,ja,zIu hn,zO];have hl:zM (λ(a:Int)=>
     bif decide (a<(l.length:Int))then
      za (cl l a) λb=>
      bif bif b.kd.u==17 then true else bif b.kd.u==9 then b.kd.kb==[33]else false then
       some (LO.ret false)
      else
       some (LO.again (cj (a+1)))
     else
      some (LO.out ()):Int->Option (LO (Int) (Unit) _)) 0 (λ_=>some true)=some (!(l.any badV)):=by
     refine(qd l (λv=>bif badV v then some false else none) () (λi hi=> ?_) ?_).trans ?_
     ·simp only[zN hi,Ca,zF hi,za,Aa,badV,zD hi (show l.length<=co by omega)]
      grind
     ·grind
     ·rw[MM]
      grind
    unfold rC
    grind
def zvZ{d:Zv}(hv:cT d.i<=co)(hn:d.q.length<=co):Iu d=some (bif Qm d then 0 else 8):=by
 unfold Iu Qm;simp only[zv0 hn,za,Aa];cases a:ai d.q with
 |false=>rfl
 |true=>
  simp only[Ab,Va,zQ,ztW hv a,Aa,ja]
  grind
def zta:Tk Ey:=by intro Km b a x;unfold Ey;exact(.lp (λ_=>(.bif (.bind .rfl λ_=>(.lp (λ_=>(.bind .rfl λ_=>(.bif (.bind .rfl λ_=>(.bind .rfl λ_=>(.bind .rfl λ_=>(.bind .rfl λ_=>(.lp (λ_=>(.bif (.bind .rfl λ_=>(.bind .rfl λ_=>(.bind .rfl λ_=>(.bind (a _) λ_=> .rfl)))) .rfl)) λ_=> .rfl))))) .rfl))) λ_=> .rfl)) .rfl)) λ_=> .rfl)
def zs9:Tk Hy:=by intro Al b a x;unfold Hy;exact(.lp (λ_=>(.bif (.bind .rfl λ_=>(.bind .rfl λ_=>(.bind .rfl λ_=>(.bind (a _) λ_=> .rfl)))) .rfl)) λ_=> .rfl)
def ztb:Tk yx:=by intro Qy b a x;unfold yx;exact(.lp (λ_=>(.bif (.bind .rfl λ_=>(.bind (a _) λ_=> .rfl)) .rfl)) λ_=> .rfl)
def ztc:Tk ax:=by intro Bn b a x;unfold ax;exact(.bind .rfl λ_=>(.bif .rfl (.lp (λ_=>(.bif (.bind .rfl λ_=>(.bind (a _) λ_=>(.bif .rfl .rfl))) .rfl)) λ_=> .rfl)))
def zon:Tk Ky:=by intro Qj b a x;unfold Ky;exact(.bif .rfl (.lp (λ_=>(.bif (.bind .rfl λ_=>(.bind .rfl λ_=>(.bind .rfl λ_=>(.bind .rfl λ_=>(.bind (.cond (a _)) λ_=>(.bif .rfl (.lp (λ_=>(.bif (.bind .rfl λ_=>(.bif .rfl .rfl)) .rfl)) λ_=> .rfl))))))) .rfl)) λ_=> .rfl))
def zte:Tk Ux:=by intro wm b a x;unfold Ux;exact(.bif (.bind .rfl λ_=> .rfl) (.bif .rfl (.lp (λ_=>(.bif (.bind .rfl λ_=>(.bind (a _) λ_=>(.join (.bif .rfl .rfl) λ_=> .rfl))) .rfl)) λ_=> .rfl)))
def zvr:Tk Tx:=by intro vk b a x;unfold Tx;exact(.bif .rfl (.bif (.bind .rfl λ_=>(.bind .rfl λ_=> .rfl)) (.bif (.bind .rfl λ_=> .rfl) (.join (.bif .rfl (.bif .rfl .rfl)) λ_=>(.bif (.bind .rfl λ_=>(.bif .rfl (.lp (λ_=>(.bif (.bind .rfl λ_=>(.bind (a _) λ_=>(.bif .rfl (.join (.bind .rfl λ_=>(.bif .rfl .rfl)) λ_=> .rfl)))) .rfl)) λ_=> .rfl))) .rfl)))))
def ztd:Tk Vx:=by intro ym b a x;unfold Vx;exact(.lp (λ_=>(.bif (.bind .rfl λ_=>(.bind (a _) λ_=>(.bind .rfl λ_=>(.join (.bif (.bind .rfl λ_=>(.bind .rfl λ_=>(.bind .rfl λ_=>(.lp (λ_=>(.bif (.bind .rfl λ_=>(.bind .rfl λ_=>(.bind .rfl λ_=> .rfl))) .rfl)) λ_=> .rfl)))) (.bif (.bind .rfl λ_=>(.bind .rfl λ_=> .rfl)) (.bif (.bind .rfl λ_=>(.bind .rfl λ_=> .rfl)) (.bif (.bind .rfl λ_=> .rfl) (.bif (.bind .rfl λ_=> .rfl) .rfl))))) λ_=> .rfl)))) .rfl)) λ_=> .rfl)
def zin(zS b:List zP×Bool×List UInt8->Option (Bool×List UInt8))(a: ∀z,Le (zS z) (b z))(x:zP×Bool×List UInt8):Le (qa zS x) (qa b x):=by unfold qa;exact(.bif (.bind .rfl λ_=>(.bind .rfl λ_=>(.bif (.bind .rfl λ_=> .rfl) (.bind .rfl λ_=>(.bind .rfl λ_=>(.bind .rfl λ_=>(.bind .rfl λ_=> .rfl))))))) (.join (.bif .rfl .rfl) λ_=>(.bif (.join (.bif .rfl .rfl) λ_=>(.bind .rfl λ_=>(.join (.bif (.need .rfl) .rfl) λ_=>(.bind .rfl λ_=>(.bind .rfl λ_=>(.bind (a _) λ_=> .rfl)))))) (.bif (.bind .rfl λ_=>(.lp (λ_=>(.bif (.bind .rfl λ_=>(.bind .rfl λ_=>(.bind .rfl λ_=> .rfl))) .rfl)) λ_=>(.bind (a _) λ_=> .rfl))) (.bif (.bind .rfl λ_=>(.lp (λ_=>(.bif (.bind .rfl λ_=>(.join (.bif (.bind .rfl λ_=> .rfl) .rfl) λ_=>(.bind .rfl λ_=> .rfl))) .rfl)) λ_=>(.bind .rfl λ_=> .rfl))) .rfl)))))
def zje:Tk ZK:=by intro zS b a x;unfold ZK;exact(.bif (.bind .rfl λ_=> .rfl) (.bind .rfl λ_=>(.lp (λ_=>(.bif (.bind .rfl λ_=>(.bind (zin _ _ a _) λ_=>(.bind .rfl λ_=> .rfl))) .rfl)) λ_=>(.bind .rfl λ_=> .rfl))))
end Go.Lv.VT




