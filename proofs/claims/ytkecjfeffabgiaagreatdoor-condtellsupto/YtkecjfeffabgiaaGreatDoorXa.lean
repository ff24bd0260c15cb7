/- Small functions of bytes and texts: small letters, names; the program's and the reference's are the same. -/
import Derived.Test.YtkecjfeffabgiaaGreatDoorTx
import Derived.Test.YtkecjfeffabgiaaGreatDoorMo
import Derived.Test.YtkecjfeffabgiaaGreatDoorIp
import Derived.Test.YtkecjfeffabgiaaGreatDoorLf
set_option linter.unusedSimpArgs false
set_option linter.unusedVariables false
namespace Go.Lv.VT
def Pk(n:Nat):Nat:=if 65<=n/\n<=90 then n+32 else n
def Rk(b:UInt8):UInt8:=UInt8.ofNat (Pk b.toNat)
theorem zDp{n:Nat}(h:n<256):Pk n<256:=by unfold Pk;split<;>omega
theorem zAi(b:UInt8):(Rk b).toNat=Pk b.toNat:=by unfold Rk;rw[UInt8.toNat_ofNat'];exact ve (zDp (Ib b))
theorem TS: ∀n:Nat,n<256->qd (n:Int)=some ((Pk n:Nat):Int):=by decide+kernel
theorem zJq: ∀n:Nat,n<256->(bif decide (65<=(n:Int))then decide ((n:Int)<=90)else false)=true->qb (ibOr IntKind.u8 (n:Int) 32)=some (UInt8.ofNat (Pk n)):=by decide+kernel
def lowS(l:Str):Str:=l.map Rk
theorem UJ{α:Type}{l:List α}{i:Nat}(h:i<l.length)(f:α->α):((l.take i).map f++l.drop i).set i (f l[i])=(l.take (i+1)).map f++l.drop (i+1):=by
 apply List.ext_getElem
 ·simp;omega
 grind
theorem J7{α:Type}{l:List α}{i:Nat}(h:i<l.length)(f:α->α):((l.take i).map f++l.drop i)[i]? =some l[i]:=by
 grind
theorem DI{α:Type}{l:List α}{i:Nat}(h:i<=l.length)(f:α->α):((l.take i).map f++l.drop i).length=l.length:=by simp;omega
theorem zEW{α:Type}{l:List α}{i:Nat}(h:i<l.length)(f:α->α)(e:f l[i]=l[i]):(l.take i).map f++l.drop i=(l.take (i+1)).map f++l.drop (i+1):=by
 rw[<-UJ h f,e];apply List.ext_getElem?
 grind
theorem YO(i:Nat):decide ((0:Int)<=(i:Int))=true:=Ga (by omega)
theorem CF{l:Str}(h:l.length<=big):qK l=some (lowS l):=by
 unfold qK;rw[zo (Ga (by unfold big at h;unfold maxLen;omega))];have d: ∀(k i:Nat),i+k=l.length-> ∃n,Z7 (X:=List UInt8) (R:=Str) (fun(a:Int×List UInt8)=>
   bif decide (a.1<(a.2.length:Int))then
    need (decide (0<=a.1)&&decide (a.1<(a.2.length:Int)))<|
    za a.2[a.1.toNat]? fun f=>
    za (qd (f.toNat:Int)) fun g=>
    need (decide (0<=a.1)&&decide (a.1<(a.2.length:Int)))<|
    za a.2[a.1.toNat]? fun p=>
    za (qb g) fun m=>
    some (LO.again (w64 (a.1+1),List.set a.2 a.1.toNat m))
   else
    some (LO.out a.2)) n ((i:Int),(l.take i).map Rk++l.drop i)=some (.out (lowS l)):=by
  intro k
  induction k with
  |zero=>
   intro i e;have e:i=l.length:=by omega
   subst e;refine⟨1,?_⟩;simp only[Z7,DI (ja _),ql,Ba];simp[lowS]
  |succ k o=>
   intro i e;have b:i<l.length:=by omega
   obtain⟨n,c⟩:=o (i+1) (by omega);refine⟨n+1,?_⟩;have j:=Ib l[i];simp only[Z7,DI (Nat.le_of_lt b),Zr b,Ca,YO,Lb,zF,Oa,J7 b,za,Aa,TS _ j];rw[<-zAi,zD3,zX b h];simp only[Aa,UJ b];exact c
 obtain⟨n,c⟩:=d l.length 0 (by omega);replace c:=QY c;simp only[mf,Re,Vb,Tg]at c;exact(Pi c).trans rfl
theorem kF{l:Str}(h:l.length<=big):Qj l=some (lowS l):=by
 unfold Qj;rw[zo (Ga (by unfold big at h;unfold maxLen;omega))];have d: ∀(k i:Nat),i+k=l.length-> ∃n,Z7 (X:=List UInt8) (R:=Str) (fun(a:Int×List UInt8)=>
   bif decide (a.1<(l.length:Int))then
    zP (X:=Int×List UInt8) (
      need (decide (0<=a.1)&&decide (a.1<(a.2.length:Int)))<|
      za a.2[a.1.toNat]? fun j=>
      bif bif decide (65<=(j.toNat:Int))then decide ((j.toNat:Int)<=90)else false then
       need (decide (0<=a.1)&&decide (a.1<(a.2.length:Int)))<|
       za a.2[a.1.toNat]? fun o=>
       need (decide (0<=a.1)&&decide (a.1<(a.2.length:Int)))<|
       za a.2[a.1.toNat]? fun t=>
       za (qb (ibOr IntKind.u8 (o.toNat:Int) 32)) fun q=>
       some (LX.out (a.1,List.set a.2 a.1.toNat q))
      else
       some (LX.out (a.1,a.2))) fun m=>
    some (LO.again (w64 (m.1+1),m.2))
   else
    some (LO.out a.2)) n ((i:Int),(l.take i).map Rk++l.drop i)=some (.out (lowS l)):=by
  intro k
  induction k with
  |zero=>
   intro i f;have f:i=l.length:=by omega
   subst f;refine⟨1,?_⟩;simp only[Z7,ql,Ba];simp[lowS]
  |succ k r=>
   intro i f;have b:i<l.length:=by omega
   obtain⟨n,c⟩:=r (i+1) (by omega);refine⟨n+1,?_⟩;have p:=Ib l[i];simp only[Z7,DI (Nat.le_of_lt b),Zr b,Ca,YO,Lb,zF,Oa,J7 b,za,Aa];cases g:(bif decide (65<=(l[i].toNat:Int))then decide ((l[i].toNat:Int)<=90)else false)with
   |true=> have e:=zJq _ p g;simp only[e,Ca,Aa,zk,zX b h];rw[show UInt8.ofNat (Pk l[i].toNat)=Rk l[i]from rfl,UJ b];exact c
   |false=>
    have e:Rk l[i]=l[i]:=by unfold Rk Pk;rw[Ja,Yc];rintro⟨s,u⟩;rw[Ga (by omega),Ca,Ga (by omega)]at g;cases g
    simp only[Ba,zk,zX b h];rw[zEW b Rk e];exact c
 obtain⟨n,c⟩:=d l.length 0 (by omega);replace c:=QY c;simp only[mf,Re,Vb,Tg]at c;exact(Pi c).trans rfl
def Zz(l:Str):Bool:=l.all fun b=> !(b==0)
theorem wI(c:UInt8): ∀l:Str,decide (Lib.indexByte l c>=0)=l.any fun b=>b==c
 |[]=>rfl
 |b::l=>by
  have d:=wI c l;have a:=Lib.indexByte_ge l c;rw[List.any_cons,Lib.indexByte]
  grind
theorem zHU(l:Str):(l.any fun b=>b==0)= !Zz l:=by
 unfold Zz
 grind
theorem mr(l:Str)(n:Int):strings_IndexByte (l,n)=some (Lib.indexByte l n.toNat.toUInt8):=rfl
theorem mD(l:Str):decide (Lib.indexByte l (0:Int).toNat.toUInt8>=0)= !Zz l:=(wI 0 l).trans (zHU l)
theorem Gt(n m:Nat):decide ((n:Int)>(m:Int))= !decide (n<=m):=by
 grind
theorem byte_zero(b:UInt8):((b.toNat:Int)==0)=(b==0):=by
 by_cases h:b=0
 ·subst h;rfl
 ·have a:b.toNat≠0:=fun e=>h (Cf.1 e)
  grind
theorem aK(a b:Str):(a==b)=(b==a):=by
 grind
theorem IP(n m:Nat):decide ((n:Int)<=(m:Int))=decide (n<=m):=by
 grind
theorem zxi{α:Type}(l:List α):decide ((l.length:Int)<1)=l.isEmpty:=by
 cases l with
 |nil=>rfl
 |cons a l=>grind
theorem NE{f:Option Int}{p:Bool}{i:Int}(h:f=some i)(a:decide (i>=0)=p):(za f fun y=>some (decide (y>=0)))=some p:=by
 grind
theorem zGO{α:Type}(p:α->Bool)(l:List α):(l.any fun v=> !p v)= !l.all p:=by
 grind
theorem Jp(l m:Str):strings_HasPrefix (l,m)=some (m.isPrefixOf l):=by
 have a: ∀m l:Str,m.isPrefixOf l=(decide (m.length<=l.length)&&l.take m.length==m):=by
  intro m l;rw[Ef];simp only[Hf,Da,Eb,ma];constructor
  ·rintro⟨t,rfl⟩
   grind
  ·grind
 unfold strings_HasPrefix stringslite_HasPrefix;simp_all
theorem zuq(l m:Str):strings_TrimPrefix (l,m)=some (bif m.isPrefixOf l then l.drop m.length else l):=by
 have h:stringslite_HasPrefix (l,m)=some (m.isPrefixOf l):=by
  have:=Jp l m;unfold strings_HasPrefix at this;cases hh:stringslite_HasPrefix (l,m)with
  |none=>grind
  |some b=>grind
 unfold strings_TrimPrefix stringslite_TrimPrefix;simp only[h,za,Aa];cases hp:m.isPrefixOf l with
 |false=>rfl
 |true=> have hl:=(Hf.1 hp).length_le;simp_all
theorem yK{a b:Str}(c:a.length<=big)(h2:b.length<=big):Kn (a,b)=some (lowS a==lowS b):=by unfold Kn;simp only[kF c,kF h2,za,Aa]
theorem UK{a b:Str}(c:a.length<=big)(h2:b.length<=big):qJ (a,b)=some (lowS a==lowS b):=by unfold qJ;simp only[CF c,CF h2,za,Aa]
def Ki(n:Nat):Bool:=
 !(n==0||n==9||n==10||n==12||n==13||n==32||n==34||n==39||n==40||n==41||n==44||n==58||n==59||n==91||n==93||n==95||n==123||n==125)&&
  (decide (n<128)&& !((decide (48<=n)&&decide (n<=57))||(decide (65<=n)&&decide (n<=90))||(decide (97<=n)&&decide (n<=122))))
set_option maxRecDepth 100000 in
theorem zHc: ∀n:Nat,n<256->NM 40 (n:Int)=some (Ki n):=by decide+kernel
def sD:Prop:= ∀b:UInt8,QI (b.toNat:Int)=some (Ki b.toNat)
theorem zq0:sD:=fun b=>
 zqA 40 _ _ (zHc _ (Ib b))
def digN(n:Nat):Bool:=decide (48<=n)&&decide (n<=57)
theorem zxF: ∀n:Nat,n<256->zC (n:Int)=some (digN n):=by decide+kernel
theorem VS(b:UInt8):zC (b.toNat:Int)=some (digN b.toNat):=(zxF _ (Ib b))
theorem zvc: ∀n:Nat,n<256->qI (n:Int)=some (digN n):=by decide+kernel
theorem uV(b:UInt8):qI (b.toNat:Int)=some (digN b.toNat):=(zvc _ (Ib b))
def namN(n:Nat):Bool:=digN n||(decide (65<=n)&&decide (n<=90))||(decide (97<=n)&&decide (n<=122))||n==95||n==45||decide (128<=n)
theorem zve: ∀n:Nat,n<256->il (n:Int)=some (namN n):=by decide+kernel
theorem tV(b:UInt8):il (b.toNat:Int)=some (namN b.toNat):=(zve _ (Ib b))
def Jk:Str->Bool
 |[]=>false
 |b::r=>digN b.toNat||(b==45&&(r==[]||digN (r.headD 0).toNat))
theorem Oh(b c:UInt8):((b.toNat:Int)==(c.toNat:Int))=(b==c):=by
 by_cases h:b=c
 ·subst h;simp
 ·have a:b.toNat≠c.toNat:=fun e=>h (Cf.1 e)
  grind
theorem zGW(b:UInt8):((b.toNat:Int)==45)=(b==45):=Oh b 45
theorem ztP(l:Str):Xz l=some (Jk l):=by
 unfold Xz;cases l with
 |nil=>rfl
 |cons b r=>
  have f:geti (b::r) 0=some b:=rfl;have g:(b::r==([]:Str))=false:=rfl;simp only[g,Ba,f,za,Aa,VS,Zd,zGW];cases r with
  |nil=>
   have e:(([b]:Str)==[45])=(b==45):=by show((b==45)&&true)=_;rw[Lb]
   simp only[e];unfold Jk;cases c:(b==45)with
   |false=>cases h:digN b.toNat<;>simp[c,zq,h]
   |true=>simp_all
  |cons d r=>
   have a:geti (b::d::r) 1=some d:=rfl;have e:((b::d::r:Str)==[45])=false:=by show((b==45)&&false)=_;rw[Ec]
   simp only[a,e,Zd,Aa,VS,Jk,Yf]
   grind
def numS:Str->Bool
 |[]=>false
 |b::r=>bif b==45 then !(r==[])&&digN (r.headD 0).toNat else digN b.toNat
theorem LY(l:Str):Cs l=some (numS l):=by
 unfold Cs;simp only[zuq,za,Aa];have a: ∀m:Str,((zq (!(m==[])) (geti m 0) 0).bind fun c=>(zq (!(m==[])) (qI (c.toNat:Int)) (default:Bool)).bind fun d=>some (bif !(m==[])then d else false))=some (!(m==[])&&digN (m.headD 0).toNat):=by
  intro m;cases m with
  |nil=>rfl
  |cons b r=> have f:geti (b::r) 0=some b:=rfl;have g:(b::r==([]:Str))=false:=rfl;simp only[g,Ra,zu,f,Aa,uV,Ca,Yf,aa]
 rw[a];cases l with
 |nil=>rfl
 |cons b r=>
  have e:List.isPrefixOf [45] (b::r)=(b==45):=by
   show((45==b)&&true)=_;rw[Lb];cases h:(b==45)with
   |true=>grind
   |false=>grind
  rw[e];show _=some (bif b==45 then !(r==[])&&digN (r.headD 0).toNat else digN b.toNat)
  grind
theorem zE7(l:Str):((numS l&& !(List.isPrefixOf [45,45] l))||l==[45])=Jk l:=by
 cases l with
 |nil=>rfl
 |cons b r=>
  cases a:(b==45)with
  |false=>
   have e:List.isPrefixOf [45,45] (b::r)=false:=by show((45==b)&&_)=_;rw[Ia]at a;rw[Ia.2 (Ne.symm a)];rfl
   have c:((b::r:Str)==[45])=false:=by show((b==45)&&_)=_;rw[a];rfl
   rw[e,c];unfold numS Jk;simp[a]
  |true=>
   rw[ma]at a;subst a;cases r with
   |nil=>rfl
   |cons d r=>
    have c:((45::d::r:Str)==[45])=false:=rfl;rw[c];unfold numS Jk;have e:List.isPrefixOf [45,45] (45::d::r)=(45==d):=by show((45==(45:UInt8))&&((45==d)&&true))=_;rw[Lb];rfl
    rw[e];simp only[Yf];have f:digN 45=false:=by decide
    cases h:(45==d)with
    |false=>simp[f]
    |true=>rw[ma]at h;subst h;rfl
def delS(l:Str):Bool:=match l with
 |[b]=>Ki b.toNat
 |_=>false
def rngS(x:ze):Bool:=decide (-1000000000000<=x.num)&&(decide (x.num<=1000000000000)&&(!x.flag||Int.tmod x.num 1000==0))
def Og(x:ze):Bool:=
 bif x.kind==1||x.kind==2||x.kind==3 then !(x.text==[])&&(Zz x.text&&(x.num==0&&(x.unit==[]&& !x.flag)))
 else bif x.kind==4 then !(x.text==[])&&(Zz x.text&&((x.flag||Jk x.text)&&(x.num==0&&x.unit==[])))
 else bif x.kind==5||x.kind==7 then Zz x.text&&(x.num==0&&(x.unit==[]&& !x.flag))
 else bif x.kind==9 then delS x.text&&(x.num==0&&(x.unit==[]&& !x.flag))
 else bif x.kind==10||x.kind==11||x.kind==12 then rngS x&&((!(x.unit==[])==(x.kind==12))&&(Zz x.unit&&((!(x.kind==11)|| !x.flag)&&x.text==[])))
 else(decide (13<=x.kind)&&decide (x.kind<=24))&&(x.text==[]&&(x.num==0&&(x.unit==[]&& !x.flag)))
theorem UX{l:Str}(h:l.length<=big):Dp l=some (Zz l):=by
 unfold Dp;refine(En l (fun b=>bif (!(b==0))then none else some false) () (fun i a=> ?_) ?_).trans ?_
 ·simp only[Zr a,Ca,Zb a,za,Aa,byte_zero,zX a h]
  grind
 ·grind
 ·rw[Uo];show _=some (Zz l);unfold Zz
  grind
theorem one_byte(l:Str)(p:Nat->Bool)(d:Bool)(f:Int->Option Bool)(hf: ∀b:UInt8,f (b.toNat:Int)=some (p b.toNat))(g:Bool):
  ((zq (g&&(l.length:Int)==1) (geti l 0) (0:UInt8)).bind fun y=>zq (g&&(l.length:Int)==1) (f (y.toNat:Int)) d)=some (bif g&&(l.length:Int)==1 then(match l with|[b]=>p b.toNat|_=>false)else d):=by
 cases g with
 |false=>rfl
 |true=>
  cases l with
  |nil=>rfl
  |cons b r=>
   cases r with
   |nil=> show((geti [b] 0).bind fun y=>f (y.toNat:Int))=some (p b.toNat);rw[show geti [b] 0=some b from rfl];exact hf b
   |cons c r=> have:(((b::c::r).length:Int)==1)=false:=Ia.2 (by grind);rw[this];rfl
theorem W9(a:sD)(l:Str)(g:Bool):((zq (g&&(l.length:Int)==1) (geti l 0) (0:UInt8)).bind fun y=>zq (g&&(l.length:Int)==1) (QI (y.toNat:Int)) (default:Bool))=some (bif g&&(l.length:Int)==1 then delS l else default):=
 one_byte l Ki default QI a g
theorem zEm(l:Str):(((l.length:Int)==1)&&delS l)=delS l:=by
 cases l with
 |nil=>rfl
 |cons b r=>
  cases r with
  |nil=>rfl
  |cons c r=> have:(((b::c::r).length:Int)==1)=false:=Ia.2 (by grind);rw[this];rfl
theorem ztQ(C:sD){x:ze}(v:x.text.length<=big)(h2:x.unit.length<=big):Wz x=some (Og x):=by
 have n:=W9 C x.text true;simp only[aa]at n;have q:((zq ((x.text.length:Int)==1) (geti x.text 0) (0:UInt8)).bind fun o=>(zq ((x.text.length:Int)==1) (QI (o.toNat:Int)) (default:Bool)).bind fun D=>some (bif bif (x.text.length:Int)==1 then D else false then x.kind==x.kind&&(([]:Str)==[]&&(x.num==0&&(x.unit==[]&&(x.flag==false&&true))))else false))=some (delS x.text&&(x.num==0&&(x.unit==[]&& !x.flag))):=by
  have e: ∀(k:Bool->Option Bool),((zq ((x.text.length:Int)==1) (geti x.text 0) (0:UInt8)).bind fun o=>(zq ((x.text.length:Int)==1) (QI (o.toNat:Int)) (default:Bool)).bind k)=(((zq ((x.text.length:Int)==1) (geti x.text 0) (0:UInt8)).bind fun y=>zq ((x.text.length:Int)==1) (QI (y.toNat:Int)) (default:Bool))).bind k:=by intro k;rw[Option.bind_assoc]
  rw[e,n,Aa,<-zEm x.text];simp only[Gf];cases (x.text.length:Int)==1<;>cases delS x.text<;>cases x.flag<;>rfl
 unfold Wz;simp only[za,UX v,UX h2,ztP,Zd,Aa,ge_iff_le];unfold Og rngS;by_cases B:x.kind=9
 ·simp_all
 clear n q;have E:=Ia.2 B;generalize delS x.text=J;generalize Zz x.text=p;generalize Zz x.unit=M;generalize Jk x.text=H;generalize c:(x.text==[])=i;generalize d:(x.unit==[])=j;generalize a:(x.num==0)=m;generalize b:x.flag=l;generalize decide (-1000000000000<=x.num)=N;generalize decide (x.num<=1000000000000)=L;generalize (Int.tmod x.num 1000==0)=z;by_cases r:x.kind=1
 ·simp only[r,zk,Ca,Ba,c,d,a,b,Int.reduceBEq];cases p<;>cases i<;>cases j<;>cases m<;>cases l<;>rfl
 by_cases s:x.kind=2
 ·simp only[s,zk,Ca,Ba,c,d,a,b,Int.reduceBEq];cases p<;>cases i<;>cases j<;>cases m<;>cases l<;>rfl
 by_cases t:x.kind=3
 ·simp only[t,zk,Ca,Ba,c,d,a,b,Int.reduceBEq];cases p<;>cases i<;>cases j<;>cases m<;>cases l<;>rfl
 by_cases u:x.kind=4
 ·simp only[u,zk,Ca,Ba,c,d,a,b,Int.reduceBEq]
  grind
 by_cases G:x.kind=5
 ·simp_all
 by_cases F:x.kind=7
 ·simp_all
 by_cases g:x.kind=10
 ·simp only[g,zk,Ca,Ba,c,d,a,b,Int.reduceBEq]
  grind
 by_cases h:x.kind=11
 ·simp only[h,zk,Ca,Ba,c,d,a,b,Int.reduceBEq]
  grind
 by_cases f:x.kind=12
 ·simp only[f,zk,Ca,Ba,c,d,a,b,Int.reduceBEq]
  grind
 simp only[E,Ia.2 r,Ia.2 s,Ia.2 t,Ia.2 u,Ia.2 G,Ia.2 F,Ia.2 g,Ia.2 h,Ia.2 f,zk,Ca,Ba,c,d,a,b,Gf,Ue];by_cases w:x.kind=6
 ·simp_all
 by_cases A:x.kind=8
 ·simp_all
 simp only[Ia.2 w,Ia.2 A,zk,Ca,Ba];have e:(decide (1<=x.kind)&&decide (x.kind<=24))=(decide (13<=x.kind)&&decide (x.kind<=24)):=by
  by_cases K:13<=x.kind
  ·grind
  ·grind
 rw[<-e];cases decide (1<=x.kind)<;>cases decide (x.kind<=24)<;>cases i<;>cases j<;>cases m<;>cases l<;>rfl
abbrev xw:Str:=[32,9,10,12,13,34,39,58,59,44,91,93,40,41,123,125]
theorem aF: ∀(m:Str) (c:UInt8),Lib.index m [c]=Lib.indexByte m c
 |[],c=>rfl
 |b::l,c=>by
  have h:List.isPrefixOf [c] (b::l)=(b==c):=by
   show(c==b&&List.isPrefixOf [] l)=_;rw[List.isPrefixOf,Lb];by_cases e:b=c
   ·subst e;rfl
   ·grind
  rw[Lib.index,Lib.indexByte,h,aF l c]
theorem contains_one(m:Str)(c:UInt8)(a:short m=true:=by decide):strings_Contains (m,[c])=some (m.any fun b=>b==c):=by unfold strings_Contains;simp only[Km,a,zF,za,Aa,aF,wI]
theorem zqq(c:UInt8):strings_Contains ([32,9,10,12,13,34,39,58,59,44,91,93,40,41,123,125],[c])=some (xw.any fun b=>b==c):=contains_one xw c
theorem X9: ∀n:Nat,n<256->((bif bif !(UInt8.ofNat n==0)then !namN n else false then true else UInt8.ofNat n==45)&&(!(xw.any fun b=>b==UInt8.ofNat n)))=Ki n:=by decide+kernel
theorem zEn(b:UInt8):((bif bif !(b==0)then !namN b.toNat else false then true else b==45)&&(!(xw.any fun c=>c==b)))=Ki b.toNat:=by have:=X9 b.toNat (Ib b);simp_all
theorem zvF(a b:Str):Zz (a++b)=(Zz a&&Zz b):=by unfold Zz;grind
theorem G7(n:Int):decide (n<0)= !decide (n>=0):=by
 grind
theorem zJs(g d:Bool)(b c:UInt8):(bif g then namN (bif g then b else c).toNat else d)=bif g then namN b.toNat else d:=by cases g<;>rfl
theorem zvd{x:ze}(h1:x.text.length<=big)(h2:x.unit.length<=big):Gv x=some (Og x):=by
 unfold Gv;rw[zo (zV.2 (by grind))];simp only[za,mr,Aa];have hn:decide (Lib.indexByte (x.text++x.unit) (0:Int).toNat.toUInt8<0)=(Zz x.text&&Zz x.unit):=by rw[G7,mD,zvF,Eg]
 simp only[hn,LY,Jp,Zd,Aa,ge_iff_le,bne];have hb:=zE7 x.text;unfold Og rngS;by_cases k9:x.kind=9
 ·simp only[k9,Int.reduceBEq,Ca,Ba,zk,Rc,Xb];cases ht:x.text with
  |nil=>
   have:Zz ([]:Str)=true:=rfl;simp only[this,aa];cases Zz x.unit<;>rfl
  |cons b r=>
   cases r with
   |nil=>
    have hd:=zEn b;have e1:((([b]:Str).length:Int)==1)=true:=rfl;have e2:geti [b] 0=some b:=rfl;have e3:(([b]:Str)==[45])=(b==45):=by show((b==45)&&true)=_;rw[Lb]
    have e4:Zz [b]= !(b==0):=by show((!(b==0))&&true)=_;rw[Lb]
    have e5:delS [b]=Ki b.toNat:=rfl;simp only[e1,e2,e3,e4,e5,zqq,tV,Zd,Aa,zJs,<-hd];cases hu:x.unit with
    |nil=>
     have:Zz ([]:Str)=true:=rfl;simp only[this,Lb];generalize (xw.any fun c=>c==b)=a1;cases namN b.toNat<;>cases (b==0)<;>cases (b==45)<;>cases a1<;>cases (x.num==0)<;>cases x.flag<;>rfl
    |cons c s=> simp_all
   |cons c r=>
    have e1:(((b::c::r:Str).length:Int)==1)=false:=Ia.2 (by grind);have e3:((b::c::r:Str)==[45])=false:=by show((b==45)&&false)=_;rw[Ec]
    have e5:delS (b::c::r)=false:=rfl;simp only[e1,e3,e5];simp_all
 have b9:=Ia.2 k9;have hu:(x.unit==[])=true->Zz x.unit=true:=fun h=>by rw[ma]at h;rw[h];rfl
 have htx:(x.text==[])=true->Zz x.text=true:=fun h=>by rw[ma]at h;rw[h];rfl
 rw[<-hb];generalize hl45:(x.text==[45])=a11 at*;generalize (List.isPrefixOf [45,45] x.text)=a12 at*;generalize numS x.text=a3 at*;generalize Zz x.text=a1 at*;generalize Zz x.unit=a2 at*;generalize (x.text==[])=a4 at*;generalize (x.unit==[])=a5 at*;generalize (x.num==0)=a6 at*;generalize x.flag=a7 at*;generalize decide (-1000000000000<=x.num)=a8 at*;generalize decide (x.num<=1000000000000)=a9 at*;generalize (Int.tmod x.num 1000==0)=a10 at*;clear hb hn hl45;have K: ∀k:Int,k∈[1,2,3,4,5,7,10,11,12]->x.kind=k->True:=fun _ _ _=>trivial;clear K;by_cases k1:x.kind=1
 ·simp only[k1,zk,Ca,Ba,Int.reduceBEq]
  grind
 by_cases k2:x.kind=2
 ·simp only[k2,zk,Ca,Ba,Int.reduceBEq]
  grind
 by_cases k3:x.kind=3
 ·simp only[k3,zk,Ca,Ba,Int.reduceBEq]
  grind
 by_cases k4:x.kind=4
 ·simp only[k4,zk,Ca,Ba,Int.reduceBEq]
  grind
 by_cases k5:x.kind=5
 ·simp only[k5,zk,Ca,Ba,Int.reduceBEq]
  grind
 by_cases k7:x.kind=7
 ·simp only[k7,zk,Ca,Ba,Int.reduceBEq]
  grind
 by_cases k10:x.kind=10
 ·simp only[k10,zk,Ca,Ba,Int.reduceBEq]
  grind
 by_cases k11:x.kind=11
 ·simp only[k11,zk,Ca,Ba,Int.reduceBEq]
  grind
 by_cases k12:x.kind=12
 ·simp only[k12,zk,Ca,Ba,Int.reduceBEq]
  grind
 simp only[b9,Ia.2 k1,Ia.2 k2,Ia.2 k3,Ia.2 k4,Ia.2 k5,Ia.2 k7,Ia.2 k10,Ia.2 k11,Ia.2 k12,zk,Ca,Ba,Ue];cases decide (13<=x.kind)<;>cases decide (x.kind<=24)<;>cases a4<;>cases a5<;>cases a6<;>cases a7<;>rfl
theorem pF {R:Type} {step:Int->Option (LO Int Unit R)} {k:Unit->Option R} (n:Nat) (p:Nat->Bool) (r:R)
  (c: ∀(i:Nat),i<n->step (i:Int)=some (bif p i then .again ((i+1:Nat):Int)else .ret r)) (a:step (n:Int)=some (.out ())):
  zS step 0 k=bif (List.range n).all p then k ()else some r:=by
 have e:=En (k:=k) (List.range n) (fun i=>bif p i then none else some r) () (fun i b=> ?_) (by simpa using a)
 ·rw[e,Uo]
  grind
 grind
def yl:List ze->Bool
 |[]=>false
 |s::r=>bif s.kind==13 then(match r with|u::_=>u.kind==5|[]=>false)else s.kind==5
def Ii:List ze->Bool
 |[]=>false
 |s::_=>s.kind==13
def ug(t:ze):Bool:=t.kind==2&&lowS t.text==[117,114,108]
def okAt:List ze->Bool
 |[]=>true
 |t::r=>(!(t.kind==9&&t.text==[92])||Ii r)&&(!(ug t)||yl r)
def Pp(l:List ze)(i:Nat):Bool:=Og (l.getD i default)&&okAt (l.drop i)
def gluS(l:List ze):Int:=bif decide (l.length<=1500)then(bif (List.range l.length).all (Pp l)then 0 else 8)else 4
theorem Du(l:List ze)(i:Nat)(k:Int):ZN (((i:Int),k),l)=some (match l[i]? with|some t=>t.kind==k|none=>false):=by
 unfold ZN;by_cases h:i<l.length
 ·simp only[Zr h,zu,Zb h,za,Aa,Ca,Xa h]
 ·have e:decide ((i:Int)<(l.length:Int))=false:=La (by omega);simp only[e,zU,za,Aa,Ba,List.getElem?_eq_none (Nat.le_of_not_lt h)]
theorem Gu:lowS [117,114,108]=[117,114,108]:=by decide
theorem zsC{t:ze}{r:List ze}(h:t.text.length<=big): ∃n:Int,QS (t::r)=some n/\(n==0)= !okAt (t::r):=by
 have e0:geti (t::r) 0=some t:=rfl;have p1:=Du (t::r) 1 13;have p15:=Du (t::r) 1 5;have p25:=Du (t::r) 2 5;unfold QS;simp only[e0,za,Aa,yK h (show([117,114,108]:Str).length<=big by decide),Gu,Zd];simp only[Int.natCast_one]at p1 p15;replace p25:ZN ((2,5),t::r)=_:=p25;rw[p1];unfold okAt ug;cases hd:(t.kind==9&&t.text==[92])with
 |true=>
  have hk:t.kind=9:=by rw[Da,ma]at hd;exact hd.1
  have ht:(t.text==[92])=true:=by rw[Da]at hd;exact hd.2
  simp only[hk,ht,Int.reduceBEq,Ca,Ba,Aa];cases r with
  |nil=>exact⟨_,rfl,rfl⟩
  |cons s r=>
   show∃n:Int,(bif !(s.kind==13)then some 0 else some 2)=some n/\(n==0)= !((!true||s.kind==13)&&_);cases s.kind==13
   ·simp_all
   simp_all
 |false=>
  have hc:(bif t.kind==9 then t.text==[92]else false)=false:=by
   cases h9:t.kind==9
   ·rfl
   ·grind
  simp only[hc,hd,Ba,Ra,jc,aa];cases hu:(t.kind==2&&lowS t.text==[117,114,108])with
  |false=>
   have:(bif t.kind==2 then bif t.kind==2 then lowS t.text==[117,114,108]else default else false)=false:=by
    cases h2:t.kind==2
    ·rfl
    ·grind
   rw[this]
   grind
  |true=>
   rw[Da]at hu;rw[hu.1,hu.2];simp only[Ca,Aa];cases r with
   |nil=>exact⟨0,by simp[p15],rfl⟩
   |cons s r=>
    cases hs:s.kind==13 with
    |false=>
     have e1:(match(t::s::r)[1]? with|some t=>t.kind==13|none=>false)=false:=hs;have e5:ZN ((1,5),t::s::r)=some (s.kind==5):=p15;simp only[e1,Ba,zk,e5,Aa,yl,hs];cases s.kind==5
     ·grind
     ·exact⟨2,by rfl,rfl⟩
    |true=>
     have e1:(match(t::s::r)[1]? with|some t=>t.kind==13|none=>false)=true:=hs;simp only[e1,Ca,zk,p25,Aa,yl,hs];cases r with
     |nil=>grind
     |cons u r=>
      show∃n:Int,(bif !(u.kind==5)then some 0 else some (w64 (2+1)))=some n/\(n==0)= !(!true||u.kind==5);cases u.kind==5
      ·grind
      ·exact⟨3,rfl,rfl⟩
theorem tT(l:List ze):decide ((l.length:Int)>1500)= !decide (l.length<=1500):=Gt _ 1500
theorem vV{l:List ze}(h: ∀t∈l,t.text.length<=big/\t.unit.length<=big):QR l=some (gluS l):=by
 unfold QR gluS;rw[tT];cases e:decide (l.length<=1500)with
 |false=>rfl
 |true=>
  have e:=Ub e;simp only[Ta,Ba,Ca];refine(pF l.length (Pp l) 8 (fun i a=> ?_) ?_).trans ?_
  ·obtain⟨d,j⟩:=h _ (Kb a);have b:l.getD i default=l[i]:=by simp[a]
   have c:=Cb a;obtain⟨n,f,k⟩:=zsC (t:=l[i]) (r:=l.drop (i+1)) d;rw[<-c]at f k;have g:decide ((i:Int)<=(l.length:Int))=true:=Ga (by omega);unfold Pp;simp only[Zr a,Ca,Zb a,za,Aa,zvd d j,YO,g,aa,jc,zF,Oa,f,Zd,zX a (show l.length<=big by unfold big;omega),b]
   grind
  ·grind
  grind
theorem jK{α:Type}{l:List α}{i:Nat}{s:α}{r:List α}(h:l.drop i=s::r):i<l.length/\geti l (i:Int)=some s/\l.drop (i+1)=r:=by
 have a:i<l.length:=by
  rcases ic i l.length with b|b
  ·exact b
  ·rw[Xd b]at h;cases h
 rw[Cb a]at h;injection h with d c;exact⟨a,by rw[Zb a,d],c⟩
theorem iK{α:Type}{l:List α}{i:Nat}(h:l.drop i=[])(hi:i<=l.length):i=l.length:=by have:=Vd.1 h;omega
theorem NC(n m:Int):decide (n>=m)= !decide (n<m):=by
 grind
theorem zFO{l:List ze}{i:Nat}(hi:i<l.length)(v:l.length<=1500):
  zP (X:=Int) (R:=LX Unit (LO Int Unit Int)) (za (zq (decide (((i+1:Nat):Int)<(l.length:Int))) (geti l ((i+1:Nat):Int)) (default:ze)) fun m=>bif bif decide (((i+1:Nat):Int)<(l.length:Int))then m.kind==13 else false then some (LX.out (w64 (((i+1:Nat):Int)+1)))else some (LX.out ((i+1:Nat):Int)))
   (fun a=>za (zq (!(decide (a>=(l.length:Int)))) (geti l a) (default:ze)) fun h=>bif bif decide (a>=(l.length:Int))then true else h.kind != 5 then some (LX.ret (LO.ret 8))else some (LX.out ()))=bif yl (l.drop (i+1))then some (LX.out ())else some (LX.ret (LO.ret 8)):=by
 cases f:l.drop (i+1)with
 |nil=> have k:=iK f (by omega);have o:decide (((i+1:Nat):Int)<(l.length:Int))=false:=La (by omega);have b:decide (((i+1:Nat):Int)>=(l.length:Int))=true:=Ga (by omega);simp only[o,b,zU,za,Aa,Ba,Ca,zk,Ta,yl]
 |cons s r=>
  obtain⟨c,e,d⟩:=jK f;have b:decide (((i+1:Nat):Int)>=(l.length:Int))=false:=La (by omega);have n:w64 (((i+1:Nat):Int)+1)=((i+1+1:Nat):Int):=zX c (by unfold big;omega);simp only[Zr c,zu,e,za,Aa,Ca,n,yl];cases p:s.kind==13 with
  |false=>
   simp only[Ba,zk,b,Ra,zu,e,Aa,bne]
   grind
  |true=>
   simp only[Ca,zk];cases r with
   |nil=> have k:=iK d (by omega);simp_all
   |cons u r=>
    obtain⟨t,j,q⟩:=jK d;have g:decide (((i+1+1:Nat):Int)>=(l.length:Int))=false:=La (by omega);simp only[g,Ra,zu,j,Aa,Ba,bne]
    grind
theorem zEo{l:List ze}{i:Nat}(hi:i<l.length)(d:Bool)(A B:Option (LO Int Unit Int)):
  (za (zq (!(((i+1:Nat):Int)==(l.length:Int))&&d) (geti l ((i+1:Nat):Int)) (default:ze)) fun a=>bif bif d then bif ((i+1:Nat):Int)==(l.length:Int)then true else a.kind != 13 else false then A else B)=bif !d||Ii (l.drop (i+1))then B else A:=by
 cases d with
 |false=>simp_all
 |true=>
  cases c:l.drop (i+1)with
  |nil=> have h:=iK c (by omega);have b:(((i+1:Nat):Int)==(l.length:Int))=true:=ma.2 (by omega);simp only[b,Ta,Ob,zU,za,Aa,Ca,Ii,Ue,Ba]
  |cons s r=>
   obtain⟨f,e,g⟩:=jK c;have b:(((i+1:Nat):Int)==(l.length:Int))=false:=Ia.2 (by omega);simp only[b,Ra,aa,zu,e,za,Aa,Ca,Ii,Ba,Ta,Xb,bne]
   grind
theorem zGQ(b:Bool)(t u:ze)(p:ze->Bool):(bif b then p (bif b then t else u)else false)=(b&&p t):=by cases b<;>rfl
theorem zqZ(k:sD){l:List ze}(h: ∀t∈l,t.text.length<=big/\t.unit.length<=big):Sr l=some (gluS l):=by
 unfold Sr gluS;rw[tT];cases e:decide (l.length<=1500)with
 |false=>rfl
 |true=>
  have e:=Ub e;simp only[Ta,Ba,Ca];refine(pF l.length (Pp l) 8 (fun i a=> ?_) ?_).trans ?_
  ·obtain⟨g,p⟩:=h _ (Kb a);have d:l.getD i default=l[i]:=by simp[a]
   have f:=Cb a;have q:w64 ((i:Int)+1)=((i+1:Nat):Int):=zX a (by unfold big;omega);have m:w64 (((i+1:Nat):Int)+1)=((i+2:Nat):Int):=zX (n:=i+2) (by omega) (by unfold big;omega);unfold Pp;rw[f,d];simp only[Zr a,Ca,Zb a,za,Aa,ztQ k g p,q];cases s:Og l[i]with
   |false=>rfl
   |true=>
    simp only[Ta,Ba,Zd,Aa,aa];have j:=zFO a e;have o:=zEo a (l[i].kind==9&&l[i].text==[92]) (some (LO.ret 8)) (some (LO.again ((i+1:Nat):Int)));simp only[za]at j o;have b:(bif l[i].kind==2 then bif l[i].kind==2 then lowS (bif l[i].kind==2 then l[i]else default).text==[117,114,108]else default else false)=ug l[i]:=by unfold ug;cases l[i].kind==2<;>rfl
    have r:(zq (l[i].kind==2) (qJ ((bif l[i].kind==2 then l[i]else default).text,[117,114,108])) (default:Bool))=some (bif l[i].kind==2 then lowS (bif l[i].kind==2 then l[i]else default).text==[117,114,108]else default):=by
     cases u:l[i].kind==2 with
     |false=>rfl
     |true=> show qJ (l[i].text,[117,114,108])=some (lowS l[i].text==[117,114,108]);rw[UK g (by decide),Gu]
    have c:(bif l[i].kind==9 then(bif l[i].kind==9 then l[i]else default).text==[92]else false)=(l[i].kind==9&&l[i].text==[92]):=zGQ (l[i].kind==9) l[i] default fun t=>t.text==[92];simp only[r,Aa,b,c,j,okAt];cases ug l[i]with
    |false=>
     simp only[Ba,zk,Ra,jc,Lb]
     grind
    |true=>
     simp only[Ca,Ta,Xb];cases yl (l.drop (i+1))with
     |false=>simp_all
     |true=>
      simp only[Ca,zk,Lb]
      grind
  ·grind
  grind
theorem zqY{l:List ze}(h: ∀t∈l,t.text.length<=big/\t.unit.length<=big):Sr l=some (gluS l):=zqZ zq0 h
def zL{α:Type}(f:α->List PV)(l:List α):Nat:=gp (l.map f)
theorem zKi{α:Type}(f:α->List PV):zL f []=0:=rfl
theorem Lu{α:Type}(f:α->List PV)(v:α)(l:List α):zL f (v::l)=zx (f v)+zL f l:=rfl
theorem Y4{α:Type}{f:α->List PV}{v:α}: ∀{l:List α},v∈l->zx (f v)<=zL f l
 |[],h=>by cases h
 |x::l,h=>by
  rw[Lu];rcases Rb.1 h with rfl|h
  ·omega
  ·have:=Y4 (f:=f) h;omega
theorem UO{α:Type}{f:α->List PV}(a: ∀v,1<=zx (f v)): ∀(l:List α),l.length<=zL f l
 |[]=>ja _
 |v::l=>by rw[Lu,Fa];have:=UO a l;grind
theorem zDU(x:zh):zx (Zt x)=6+x.token.text.length+x.token.unit.length+zL Zt x.list:=by rw[zqu];simp only[zx,bPV,zL];omega
mutual
/-- How large values are. -/
def szV:zh->Nat
 |⟨t,l⟩=>1+t.text.length+t.unit.length+szL l
def szL:List zh->Nat
 |[]=>0
 |v::r=>szV v+szL r
end
theorem Dj(v:zh):szV v=1+v.token.text.length+v.token.unit.length+szL v.list:=by obtain⟨t,l⟩:=v;rw[szV]
theorem Vj{v:zh}: ∀{l:List zh},v∈l->szV v<=szL l
 |[],h=>by cases h
 |x::l,h=>by
  rw[szL];rcases Rb.1 h with rfl|h
  ·omega
  ·have:=Vj h;omega
theorem wh: ∀(l:List zh),l.length<=szL l
 |[]=>ja _
 |v::r=>by rw[szL,Dj,Fa];have:=wh r;omega
theorem JD(n:Nat):decide ((n:Int)>0)=decide (0<n):=by
 grind
theorem xK(k:Int):Q3 k=some (Z6 k):=by
 unfold Q3 Z6;by_cases b:k=19
 ·subst b;rfl
 by_cases d:k=21
 ·subst d;rfl
 by_cases c:k=2
 ·subst c;rfl
 by_cases a:k=23
 ·subst a;rfl
 have g:(k==19)=false:=Ia.2 b;have h:(k==21)=false:=Ia.2 d;have e:(k==2)=false:=Ia.2 c;have f:(k==23)=false:=Ia.2 a;simp only[g,h,e,f,Ba,zk,b,d,c,a,Ud,or_self]
theorem XM(k:Int):Jn k=some (Z6 k):=by
 unfold Jn Z6;by_cases b:k=19
 ·subst b;rfl
 by_cases d:k=21
 ·subst d;rfl
 by_cases c:k=2
 ·subst c;rfl
 by_cases a:k=23
 ·subst a;rfl
 have g:(k==19)=false:=Ia.2 b;have h:(k==21)=false:=Ia.2 d;have e:(k==2)=false:=Ia.2 c;have f:(k==23)=false:=Ia.2 a;simp only[g,h,e,f,Ba,zk,b,d,c,a,Ud,or_self]
mutual
/-- The depth of values. -/
def Kk:zh->Nat
 |⟨t,l⟩=>if Z6 t.kind=0 then 0 else 1+Hg l
def Hg:List zh->Nat
 |[]=>0
 |v::r=>max (Kk v) (Hg r)
end
theorem JQ(v:zh):Kk v=if Z6 v.token.kind=0 then 0 else 1+Hg v.list:=by obtain⟨t,l⟩:=v;rw[Kk]
mutual
theorem zEl: ∀v:zh,Kk v<=szV v
 |⟨t,l⟩=>by rw[Kk,szV];have:=jq l;split<;>omega
theorem jq: ∀l:List zh,Hg l<=szL l
 |[]=>ja _
 |v::r=>by rw[Hg,szL];have:=zEl v;have:=jq r;omega
end
theorem PT(f:zh->Nat): ∀(l:List zh) (a:Nat),l.foldl (fun a v=>max a (f v)) a=max a (l.foldr (fun v a=>max (f v) a) 0)
 |[],a=>by simp
 |v::l,a=>by rw[Ah,PT f l,List.foldr_cons];omega
theorem KQ: ∀(l:List zh),Hg l=l.foldr (fun v a=>max (Kk v) a) 0
 |[]=>by rw[Hg];rfl
 |v::l=>by rw[Hg,KQ l];rfl
theorem KJ{l:List zh}(h:szL l<=big):Qd l=some (Hg l:Int):=by
 refine ZX (fun l=>szL l) (fun l=>szL l<=big) (fun l=>(Hg l:Int)) (fun S l n j=> ?_) h;unfold JG;have e:=wh l;refine(jJ l (fun i (a:Nat)=>((a:Int),(i:Int))) (fun v a=>some (.again (max a (Kk v)))) (fun a=>some (.out (a:Int))) (a:=0) rfl (fun i a b=> ?_) (fun a=> ?_) (r:= .out (Hg l:Int)) ?_)
 ·have f:=Vj (Kb b);have k:=Dj l[i];have c:=JQ l[i];have g:=jq l[i].list;simp only[Zr b,Ca,za,Zb b,Aa,xK];by_cases d:Z6 l[i].token.kind=0
  ·rw[Ka d]at c;simp[d,c,zX b (by omega)]
  ·rw[Ja d]at c;rw[j l[i].list (by omega) (by omega)];have m:w64 (1+(Hg l[i].list:Int))=((1+Hg l[i].list:Nat):Int):=by rw[w64,Zx (by omega) (by grind)];omega
   simp only[Jg.2 d,Ca,Aa,zk,zX b (by omega),m,c,Gd]
   grind
 ·grind
 ·rw[vo (fun a v=>max a (Kk v)) (fun v a=>rfl),PT,<-KQ];simp
theorem Wy{l:List zh}: ∀{i:Nat} (h:i<l.length),szL (l.take (i+1))=szL (l.take i)+szV l[i]:=by
 induction l with
 |nil=>grind
 |cons v r a=>
  intro i h;cases i with
  |zero=>simp[szL]
  |succ i=>
   simp only[Md,szL,List.getElem_cons_succ]
   grind
theorem wz(l:List zh)(i:Nat):szL (l.take i)<=szL l:=by
 induction l generalizing i with
 |nil=>simp
 |cons v r a=>
  cases i with
  |zero=>simp[szL]
  |succ i=>simp only[Md,szL];grind
mutual
/-- The tokens of values. -/
def tokV:zh->List ze
 |⟨t,l⟩=>t::if Z6 t.kind=0 then []else tokL l++[⟨Z6 t.kind,[],0,[],false⟩]
def tokL:List zh->List ze
 |[]=>[]
 |v::r=>tokV v++tokL r
end
theorem xC(v:zh):tokV v=v.token::if Z6 v.token.kind=0 then []else tokL v.list++[⟨Z6 v.token.kind,[],0,[],false⟩]:=by obtain⟨t,l⟩:=v;rw[tokV]
mutual
theorem Cy: ∀v:zh,(tokV v).length<=2*szV v
 |⟨t,l⟩=>by
  rw[tokV,szV];have:=Rq l
  grind
theorem Rq: ∀l:List zh,(tokL l).length<=2*szL l
 |[]=>ja _
 |v::r=>by rw[tokL,szL,Ea];have:=Cy v;have:=Rq r;omega
end
theorem LF: ∀(l:List zh) (a:List ze),l.foldl (fun a v=>a++tokV v) a=a++tokL l
 |[],a=>by simp[tokL]
 |v::l,a=>by rw[Ah,LF l,tokL,Na]
theorem wK{l:List zh}(h:szL l<=big):Z4 l=some (tokL l):=by
 refine ZX (fun l=>szL l) (fun l=>szL l<=big) (fun l=>tokL l) (fun S l j o=> ?_) h;unfold bG;have f:=wh l;refine(eu l (fun i (a:List ze)=>((i:Int),a)) (fun v a=>some (.again (a++tokV v))) (fun a=>some (.out a)) (fun i a=>a.length<=2*szL (l.take i)) (a:=[]) rfl (by simp) (fun i a c u=> ?_) (fun a _=> ?_) (r:= .out (tokL l)) ?_)
 ·have g:=Vj (Kb c);have t:=Dj l[i];have d:=xC l[i];have k:=Rq l[i].list;have w:=Wy c;have q:=wz l (i+1);have s:=Cy l[i];unfold big at j;have b: ∀n m:Nat,n+m<=100000000->Zj n m 56=true:=fun n m h=>oq (by omega);refine⟨?_,fun x y=> ?_⟩
  ·simp only[Zr c,Ca,za,Zb c,Aa,xK];by_cases e:Z6 l[i].token.kind=0
   ·rw[Ka e]at d;simp[e,d,zX c (by unfold big;omega),b a.length 1 (by omega)]
   ·rw[Ja e]at d;rw[o l[i].list (by unfold big;omega) (by omega)];have p:(Z6 l[i].token.kind != 0)=true:=Jg.2 e;simp[p,d,zX c (by unfold big;omega),b a.length 1 (by omega),b (a.length+1) (tokL l[i].list).length (by omega),b (a.length+((tokL l[i].list).length+1)) 1 (by omega)]
  ·grind
 ·grind
 ·rw[vo (fun a v=>a++tokV v) (fun v a=>rfl),LF];simp
mutual
/-- Whether lists are those of blocks, and have not their closers. -/
def shV:zh->Int->Bool
 |⟨t,l⟩,c=> !((Z6 t.kind==0&&decide (0<l.length))||(c != 0&&t.kind==c)||(Z6 t.kind != 0&& !(shL l (Z6 t.kind))))
def shL:List zh->Int->Bool
 |[],_=>true
 |v::r,c=>shV v c&&shL r c
end
theorem Y1(v:zh)(c:Int):shV v c= !((Z6 v.token.kind==0&&decide (0<v.list.length))||(c != 0&&v.token.kind==c)||(Z6 v.token.kind != 0&& !(shL v.list (Z6 v.token.kind)))):=by obtain⟨t,l⟩:=v;rw[shV]
theorem zAd{l:List zh}{c:Int}(h:szL l<=big):Qv (l,c)=some (shL l c):=by
 refine ZX (fun x:List zh×Int=>szL x.1) (fun x=>szL x.1<=big) (fun x=>shL x.1 x.2) (fun S x A q=> ?_) h;obtain⟨l,c⟩:=x;simp only at A q ⊢;unfold aG;have m:=wh l;have f: ∀l:List zh,si (fun v (_:Unit)=>if shV v c=true then some (.again ())else some (.ret false)) (fun _=>some (.out ())) l ()=some (if shL l c=true then .out ()else .ret false):=by
  intro l
  induction l with
  |nil=>simp[si,shL]
  |cons v r y=>
   by_cases n:shV v c=true
   ·simpa [si,shL,n] using y
   ·simp[si,shL,n]
 refine(jJ l (fun i (_:Unit)=>(i:Int)) (fun v (_:Unit)=>if shV v c=true then some (.again ())else some (.ret false)) (fun _=>some (.out ())) (a:=()) rfl (fun i a d=> ?_) (fun a=> ?_) (f l)).trans ?_
 ·have C:=Vj (Kb d);have w:=Dj l[i];have z:=Y1 l[i] c;simp only[Zr d,Ca,za,Zb d,Aa,xK];have g:szL l[i].list<=big:=by omega
  have j:szL l[i].list<szL l:=by omega
  have e: ∀b,S (l[i].list,b)=some (shL l[i].list b):=fun b=>q (l[i].list,b) g j;rw[z];have o:decide ((l[i].list.length:Int)>0)=decide (0<l[i].list.length):=JD _;have B:=zX d (by omega);simp only[bne,o];rcases Ed (Z6 l[i].token.kind==0)with k|k<;>rcases Ed (decide (0<l[i].list.length))with u|u<;>rcases Ed (c==0)with s|s<;>rcases Ed (l[i].token.kind==c)with p|p<;>rcases Ed (shL l[i].list (Z6 l[i].token.kind))with t|t<;>
   simp only[e,o,k,u,s,p,t,B,Ca,Ba,Ta,Ra,Lb,Ec,aa,Ob,Fe,Rc,jc,Xb,zu,zU,Aa,Ee,Ud,Gd,Yb]
 ·grind
 ·cases h:shL l c<;>simp
def Ho(l:List zh)(c:Int):Ze:=⟨Hg l,(tokL l).length, !(shL l c)⟩
theorem vR(c:Int): ∀(l:List zh) (a:Nat×Nat×Bool),l.foldl (fun a v=>(max a.1 (Kk v),a.2.1+(tokV v).length,a.2.2|| !(shV v c))) a=(max a.1 (Hg l),a.2.1+(tokL l).length,a.2.2|| !(shL l c))
 |[],a=>by simp[Hg,tokL,shL]
 |v::l,a=>by
  rw[Ah,vR c l,Hg,tokL,shL,Ea];simp only[Prod.mk.injEq]
  grind
theorem zG4(a b:Bool):(bif a then true else b)=(a||b):=by cases a<;>rfl
theorem zEd(a b:Bool):(bif a then b else false)=(a&&b):=by cases a<;>rfl
theorem JV{l:List zh}{c:Int}(h:szL l<=big):sj (l,c)=some (Ho l c):=by
 refine ZX (fun x:List zh×Int=>szL x.1) (fun x=>szL x.1<=big) (fun x=>Ho x.1 x.2) (fun S x C E=> ?_) h;obtain⟨l,c⟩:=x;simp only at C E ⊢;unfold oF;have B:=wh l;refine(eu l (fun i (a:Nat×Nat×Bool)=>((i:Int),(⟨(a.1:Int),(a.2.1:Int),a.2.2⟩:Ze))) (fun v a=>some (.again (max a.1 (Kk v),a.2.1+(tokV v).length,a.2.2|| !(shV v c)))) (fun a=>some (.out (⟨(a.1:Int),(a.2.1:Int),a.2.2⟩:Ze))) (fun i a=>a.2.1<=2*szL (l.take i)) (a:=(0,0,false)) rfl (by simp) (fun i a j J=> ?_) (fun a _=> ?_) (r:= .out (Ho l c)) ?_)
 ·have N:=Vj (Kb j);have H:=Dj l[i];have m:=JQ l[i];have O:=jq l[i].list;have o:=xC l[i];have P:=Rq l[i].list;have e:=Y1 l[i] c;have K:=Wy j;have G:=wz l (i+1);have Q:=Cy l[i];have w:szL l[i].list<=big:=by omega
  have y:szL l[i].list<szL l:=by omega
  have p:S (l[i].list,Z6 l[i].token.kind)=some (Ho l[i].list (Z6 l[i].token.kind)):=E (l[i].list,Z6 l[i].token.kind) w y;obtain⟨d,n,b⟩:=a;simp only at J;have D:=zX j (by omega);unfold big at C;have u:w64 ((n:Int)+1)=((n+1:Nat):Int):=by rw[w64,Zx (by omega) (by omega)];omega
  refine⟨?_,fun R T=> ?_⟩
  ·have L:decide ((l[i].list.length:Int)>0)=decide (0<l[i].list.length):=JD _;simp only[Zr j,Ca,za,Zb j,Aa,XM,Gd,u,bne,L,zG4,zEd];by_cases k:Z6 l[i].token.kind=0
   ·rw[Ka k]at m o;simp only[k,Gf,aa,Ta,Ob,Rc,bne]at e ⊢;rw[e,m,o];rcases Ed (decide (0<l[i].list.length))with F|F<;>rcases Ed (c==0)with g|g<;>rcases Ed (l[i].token.kind==c)with f|f<;>
     simp[F,g,f,D,Ca,Ba]
   ·rw[Ja k]at m o;have s:(Z6 l[i].token.kind==0)=false:=Ia.2 k;have z:w64 ((Hg l[i].list:Int)+1)=((1+Hg l[i].list:Nat):Int):=by rw[w64,Zx (by omega) (by omega)];omega
    have t:w64 (((n+1:Nat):Int)+((tokL l[i].list).length:Int))=((n+1+(tokL l[i].list).length:Nat):Int):=by rw[w64,Zx (by omega) (by omega)];omega
    have A:w64 (((n+1+(tokL l[i].list).length:Nat):Int)+1)=((n+(1+((tokL l[i].list).length+1)):Nat):Int):=by rw[w64,Zx (by omega) (by omega)];omega
    have q:(tokV l[i]).length=1+((tokL l[i].list).length+1):=by rw[o];simp;omega
    have M:(if((1+Hg l[i].list:Nat):Int)>(d:Int)then((1+Hg l[i].list:Nat):Int)else(d:Int))=((max d (1+Hg l[i].list):Nat):Int):=by split<;>omega
    rw[e,m,q];simp only[s,p,Ob,Ra,aa,Rc,Xb,Ba,bne,Aa,Ho];rcases Ed (c==0)with g|g<;>rcases Ed (l[i].token.kind==c)with f|f<;>
     simp only[g,f,D,z,t,A,M,Ca,Ba,zk,Ta,Ra,aa,Lb,Ec,Ob,Fe,Rc,jc,Xb,Eg]
  grind
 ·grind
 ·rw[vo (fun a v=>(max a.1 (Kk v),a.2.1+(tokV v).length,a.2.2|| !(shV v c))) (fun v a=>rfl),vR];simp[Ho]
theorem PI{a b:List zh}(h:a.Sublist b):szL a<=szL b:=by
 induction h with
 |slnil=>grind
 |cons v _ c=>rw[szL];omega
 |cons_cons v _ c=>rw[szL,szL];omega
theorem UL(l:List zh):l=[]\/ ∃t v,l=t++[v]:=by
 rcases List.eq_nil_or_concat l with h|⟨t,v,h⟩
 ·exact .inl h
 grind
def isSp(v:zh):Bool:=v.token.kind==13
def trimB(l:List zh):List zh:=(l.reverse.dropWhile isSp).reverse
theorem zDA:trimB []=[]:=rfl
theorem pz(t:List zh)(v:zh):trimB (t++[v])=if isSp v then trimB t else t++[v]:=by
 unfold trimB;rw[List.reverse_append];simp only[List.reverse_cons,List.reverse_nil,Vb,Bb,yc]
 grind
theorem KF(l:List zh):(trimB l).Sublist l:=by
 unfold trimB
 grind
def trimS(l:List zh):List zh:=trimB (l.dropWhile isSp)
theorem bD(p:zh->Bool): ∀(l:List zh),l.drop (l.length - (l.dropWhile p).length)=l.dropWhile p
 |[]=>rfl
 |v::r=>by
  rw[yc];split
  ·have h:=List.Sublist.length_le (Xf p (l:=r));rw[Fa,Nat.succ_sub h,List.drop_succ_cons];exact bD p r
  ·simp
theorem zxH{l:List zh}(h:szL l<=big):xA l=some (trimS l):=by
 unfold xA;refine(Pi (r:= .out (l.dropWhile isSp)) (ZI (fun s=>s.dropWhile isSp=l.dropWhile isSp) (fun s=>s.length) _ (fun s c=> ?_) rfl)).trans ?_
 ·cases s with
  |nil=>simp_all
  |cons v t=>
   have e:decide (((v::t).length:Int)>0)=true:=by rw[JD];simp
   have f:geti (v::t) 0=some v:=rfl;have n:decide ((1:Int)<=((v::t).length:Int))=true:=by simp;omega
   rw[yc]at c;cases b:isSp v with
   |true=> rw[b]at c;unfold isSp at b;simp_all
   |false=> rw[b]at c;unfold isSp at b;refine .inr (.inl ⟨v::t,?_,by rw[<-c];rfl⟩);simp only[e,f,zu,za,Aa,b,Ca,Ba]
 ·rw[zyA];have i:szL (l.dropWhile isSp)<=big:=Gc (PI (Xf _)) h;unfold trimS;generalize l.dropWhile isSp=d at i;refine(Pi (r:= .out (trimB d)) (ZI (fun s=>trimB s=trimB d/\szL s<=big) (fun s=>s.length) _ (fun s c=> ?_) ⟨rfl,i⟩)).trans ?_
  ·rcases UL s with rfl|⟨t,v,rfl⟩
   ·exact .inr (.inl ⟨[],by simp,by rw[<-c.1];rfl⟩)
   ·have g:=wh (t++[v]);have k:(t++[v]).length=t.length+1:=by simp
    have m:=c.2;unfold big at m;have e:decide (((t++[v]).length:Int)>0)=true:=by rw[JD];simp
    have j:w64 (((t++[v]).length:Int) - 1)=(t.length:Int):=by rw[w64,Zx (by omega) (by omega)];omega
    have f:geti (t++[v]) (t.length:Int)=some v:=by rw[Zb (by omega)];simp
    have n:(decide ((0:Int)<=(t.length:Int))&&decide ((t.length:Int)<=((t++[v]).length:Int)))=true:=by simp;omega
    have a:=c.1;rw[pz]at a;cases b:isSp v with
    |true=> rw[Ka b]at a;unfold isSp at b;refine .inl ⟨t,?_,⟨a,Gc (PI (List.sublist_append_left t [v])) c.2⟩,by simp⟩;simp_all
    |false=> rw[Ja (by rw[b];simp)]at a;unfold isSp at b;refine .inr (.inl ⟨t++[v],?_,by rw[<-a]⟩);simp only[e,j,f,zu,za,Aa,b,Ca,Ba]
  ·rw[zyA]
def errS(l:List zh):Int:=if 16<Hg l then 20 else if 1500<(tokL l).length then 4 else if shL l 0 then 0 else 8
theorem zC4{l:List zh}(h:szL l<=big):IA l=some (errS l):=by
 unfold IA errS;simp only[za,KJ h,wK h,zAd h,Aa]
 grind
theorem XF{l:List zh}(h:szL l<=big):uk l=some (errS l):=by
 unfold uk errS;simp only[za,JV h,Aa,Ho]
 grind
theorem zz2{l:List zh}(h:szL l<=big):az l=some (if errS l=0 then((Hg l:Int),0)else(0,errS l)):=by
 unfold az;simp only[za,XF h,JV h,Aa,Ho]
 grind
theorem sw: ∀l:List zh,szL l<=zL Zt l:=by
 have a: ∀(n:Nat) (l:List zh),zL Zt l<n->szL l<=zL Zt l:=by
  intro n
  induction n with
  |zero=>intro l h;omega
  |succ n d=>
   intro l
   induction l with
   |nil=>intro _;rw[szL];grind
   |cons v l b=>
    intro h;rw[Lu]at h ⊢;rw[szL,Dj];have c:=zDU v
    grind
 grind
theorem zEv{l:List zh}{a:List ze}(h:szL l<=big)(e:a.length+2*szL l<=4*big):Xl (l,a)=some (a++tokL l):=by
 refine ZX (fun z=>szL z.1) (fun z=>szL z.1<=big/\z.2.length+2*szL z.1<=4*big) (fun z=>z.2++tokL z.1) (fun S z q s=> ?_) (x:=(l,a)) ⟨h,e⟩;obtain⟨l,a⟩:=z;obtain⟨h,e⟩:=q;have h:szL l<=big:=h;have e:a.length+2*szL l<=4*big:=e;have j:=wh l;unfold SG;refine(eu l (fun i (b:List ze)=>((i:Int),b)) (fun v b=>some (.again (b++tokV v))) (fun b=>some (.out b)) (fun i b=>b.length<=a.length+2*szL (l.take i)) (a:=a) rfl (by simp) (fun i b d A=> ?_) (fun b _=> ?_) (r:= .out (a++tokL l)) ?_).trans rfl
 ·have o:=Vj (Kb d);have y:=Dj l[i];have f:=xC l[i];have p:=Rq l[i].list;have B:=Wy d;have u:=wz l (i+1);have w:=Cy l[i];unfold big at h e;have c: ∀n m:Nat,n+m<=100000000->Zj n m 56=true:=fun n m h=>oq (by omega);refine⟨?_,fun C k=> ?_⟩
  ·simp only[Zr d,Ca,za,Zb d,Aa,XM];by_cases g:Z6 l[i].token.kind=0
   ·rw[Ka g]at f;simp[g,f,zX d (by unfold big;omega),c b.length 1 (by omega)]
   ·rw[Ja g]at f;rw[s (l[i].list,b++[l[i].token]) ⟨by grind,by grind⟩ (by grind)];have t:(Z6 l[i].token.kind != 0)=true:=Jg.2 g;simp[t,f,zX d (by unfold big;omega),c b.length 1 (by omega),c (b.length+((tokL l[i].list).length+1)) 1 (by omega)]
  ·grind
 ·grind
 ·rw[vo (fun a v=>a++tokV v) (fun v a=>rfl),LF]
theorem BQ{l:List zh}(h:szL l<=big):Ep l=some (tokL l):=by
 have g:=wh l;unfold Ep;refine(eu l (fun i (b:List ze)=>((i:Int),b)) (fun v b=>some (.again (b++tokV v))) (fun b=>some (.out b)) (fun i b=>b.length<=2*szL (l.take i)) (a:=[]) rfl (by simp) (fun i b d u=> ?_) (fun b _=> ?_) (r:= .out (tokL l)) ?_).trans rfl
 ·have k:=Vj (Kb d);have t:=Dj l[i];have e:=xC l[i];have o:=Rq l[i].list;have w:=Wy d;have q:=wz l (i+1);have s:=Cy l[i];unfold big at h;have c: ∀n m:Nat,n+m<=100000000->Zj n m 56=true:=fun n m h=>oq (by omega);refine⟨?_,fun x j=> ?_⟩
  ·simp only[Zr d,Ca,za,Zb d,Aa,XM];by_cases f:Z6 l[i].token.kind=0
   ·rw[Ka f]at e;simp[f,e,zX d (by unfold big;omega),c b.length 1 (by omega)]
   ·rw[Ja f]at e;rw[zEv (a:=b++[l[i].token]) (show szL l[i].list<=big by unfold big;omega) (by grind)];have p:(Z6 l[i].token.kind != 0)=true:=Jg.2 f;simp[p,e,zX d (by unfold big;omega),c b.length 1 (by omega),c (b.length+((tokL l[i].list).length+1)) 1 (by omega)]
  ·grind
 ·grind
 ·rw[vo (fun a v=>a++tokV v) (fun v a=>rfl),LF];simp
theorem zvB{l:List zh}(h:szL l<=big):Dz l=some (if errS l=0 then(tokL l,0)else([],errS l)):=by
 unfold Dz;simp only[XF h,za,Aa];by_cases he:errS l=0
 ·have:(errS l != 0)=false:=by rw[he];rfl
  rw[this,Ba,BQ h,Ka he];rfl
 grind
end Go.Lv.VT

namespace Go.Lv
theorem Le.lp{S X R:Type}{step step':S->Option (LO S X R)}{s:S}{k k':X->Option R}(h: ∀s,Le (step s) (step' s))(hk: ∀x,Le (k x) (k' x)):Le (zS step s k) (zS step' s k'):=by
 intro y hy;unfold zS at hy;cases hl:Mg step s with
 |none=>rw[hl]at hy;cases hy
 |some r=>
  rw[hl]at hy;obtain⟨n,hn⟩:=fT hl;rw[Pi (QY (tJ h n s r hn))];cases r with
  |out x=>exact hk x y hy
  |ret r=>exact hy
def BC{X Y:Type}(B:(X->Option Y)->X->Option Y):Prop:= ∀S S':X->Option Y,(∀x,Le (S x) (S' x))-> ∀x,Le (B S x) (B S' x)
theorem IE {X Y:Type} {B:(X->Option Y)->X->Option Y} (hm:BC B) (μ:X->Nat) (ok:X->Prop) (R:X->Y->Prop)
  (hB: ∀(S:X->Option Y) (x:X),ok x->(∀z,ok z->μ z<μ x-> ∃y,S z=some y/\R z y)-> ∃y,B S x=some y/\R x y) {x:X} (hx:ok x): ∃y,recE B x=some y/\R x y:=by
 have step: ∀n x,Le (Ai B n x) (Ai B (n+1) x):=by
  intro n
  induction n with
  |zero=>intro x;exact Le.none
  |succ n ih=>intro x;exact hm _ _ ih x
 have up: ∀d n x,Le (Ai B n x) (Ai B (n+d) x):=by
  intro d
  induction d with
  |zero=>intro n x;exact Le.rfl
  |succ d ih=>intro n x y hy;exact step _ x y (ih n x y hy)
 have key: ∀(m:Nat) (x:X),μ x<m->ok x-> ∃y,Ai B m x=some y/\R x y:=by
  intro m
  induction m with
  |zero=>intro x h;omega
  |succ m ih=> intro x hm hok;exact hB _ x hok fun z hz hlt=>ih z (by omega) hz
 obtain⟨y,h1,h2⟩:=key (μ x+1) x (by omega) hx;refine⟨y,VI (N:=μ x+1) fun n hn=> ?_,h2⟩;obtain⟨d,rfl⟩:=Nat.le.dest hn;exact up d _ x y h1
theorem jE {A S X R:Type} {step:S->Option (LO S X R)} {k:X->Option R} (n:Nat) (st:Nat->A->S) (Inv:Nat->A->Prop) (Q:R->Prop) {s0:S} {a0:A} (h0:s0=st 0 a0) (hI:Inv 0 a0)
  (hg: ∀(i:Nat) (a:A),i<n->Inv i a->(∃a',step (st i a)=some (.again (st (i+1) a'))/\Inv (i+1) a')\/(∃r,step (st i a)=some (.ret r)/\Q r)\/(∃x,step (st i a)=some (.out x)/\ ∃r,k x=some r/\Q r))
  (hf: ∀a,Inv n a->(∃x,step (st n a)=some (.out x)/\ ∃r,k x=some r/\Q r)\/(∃r,step (st n a)=some (.ret r)/\Q r)): ∃r,zS step s0 k=some r/\Q r:=by
 have key: ∀(m i:Nat) (a:A),i+m=n->Inv i a-> ∃j x,Z7 step j (st i a)=some x/\ ∃r,LX.go x k=some r/\Q r:=by
  intro m
  induction m with
  |zero=>
   intro i a hi ha;obtain rfl:i=n:=by omega
   rcases hf a ha with⟨x,h1,r,h2,h3⟩|⟨r,h1,h2⟩
   ·exact⟨1, .out x,by simp only[Z7,h1],r,h2,h3⟩
   ·exact⟨1, .ret r,by simp only[Z7,h1],r,rfl,h2⟩
  |succ m ih=>
   intro i a hi ha;rcases hg i a (by omega) ha with⟨a',h1,h2⟩|⟨r,h1,h2⟩|⟨x,h1,r,h2,h3⟩
   ·obtain⟨j,x,g1,g2⟩:=ih (i+1) a' (by omega) h2;exact⟨j+1,x,by simp only[Z7,h1];exact g1,g2⟩
   ·exact⟨1, .ret r,by simp only[Z7,h1],r,rfl,h2⟩
   ·exact⟨1, .out x,by simp only[Z7,h1],r,h2,h3⟩
 obtain⟨j,x,h1,r,h2,h3⟩:=key n 0 a0 (by omega) hI;refine⟨r,?_,h3⟩;rw[h0,Pi (QY h1),h2]
namespace VT
def mx{α:Type}(f:α->Nat):List α->Nat
 |[]=>0
 |v::l=>max (f v) (mx f l)
theorem zEQ {α S X R:Type} {step:S->Option (LO S X R)} {k:X->Option R} (l:List α) (f:α->Nat) (st:Nat->Nat->S) (out:Nat->X) {s0:S} {a0:Nat} (h0:s0=st a0 0)
  (hg: ∀(i a:Nat) (h:i<l.length),step (st a i)=some (.again (st (max a (f l[i])) (i+1))))
  (hf: ∀a:Nat,step (st a l.length)=some (.out (out a))):zS step s0 k=k (out (max a0 (mx f l))):=by
 have key: ∀(m:List α) (i a:Nat),l.drop i=m->i<=l.length-> ∃n,Z7 step n (st a i)=some (.out (out (max a (mx f m)))):=by
  intro m
  induction m with
  |nil=>
   intro i a hd hi;have:i=l.length:=by have:=Vd.1 hd;omega
   subst this;exact⟨1,by simp only[Z7,hf,mx];rw[Nat.max_zero]⟩
  |cons v m ih=>
   intro i a hd hi;have hlt:i<l.length:=by
    rcases ic i l.length with h|h
    ·exact h
    ·rw[Xd h]at hd;cases hd
   have hv:l[i]=v:=by have:=Cb hlt;rw[hd]at this;injection this with h1 _;exact h1.symm
   have hs:=hg i a hlt;rw[hv]at hs;obtain⟨n,hn⟩:=ih (i+1) (max a (f v)) (by rw[Cb hlt]at hd;injection hd) (by omega);refine⟨n+1,?_⟩;simp only[Z7,hs];rw[hn,mx,Nat.max_assoc]
 obtain⟨n,hn⟩:=key l 0 a0 rfl (by omega);rw[h0,Pi (QY hn)];rfl
theorem kC(a b:Nat):(if(b:Int)>(a:Int)then(b:Int)else(a:Int))=((max a b:Nat):Int):=by split<;>omega
end VT
end Go.Lv

namespace Go.Lv.VT
set_option maxRecDepth 100000
theorem QF{α:Type}(l:List α):((l.length:Int)==0)=l.isEmpty:=by
 cases l with
 |nil=>rfl
 |cons a l=>exact Ia.2 (by simp only[Fa];omega)
theorem SF(v:zh):(⟨v.token,v.list⟩:zh)=v:=by cases v;rfl
def Si(x:Str):Bool:= !(x==[])&&(decide (x.length<=64)&&(Zz x&&(bif List.isPrefixOf [45,45] x then !(x==[45,45])else lowS x==x)))
theorem zsl{x:Str}(h:x.length<=big):kz x=some (Si x):=by
 have e:decide ((x.length:Int)>64)= !decide (x.length<=64):=Gt _ 64;have e1:decide (Lib.indexByte x (0:Int).toNat.toUInt8>=0)= !Zz x:=mD x;have ec:=aK x (lowS x);unfold kz Si;simp only[mr,Zd,za,Aa,Jp,kF h,e,ec];cases x==[]<;>cases decide (x.length<=64)<;>try rfl
 simp only[Ca,Ba,Ta,Ra,aa,Rc,e1];cases Zz x<;>cases List.isPrefixOf [45,45] x<;>rfl
theorem rQ(x:Str):(bif decide ((x.length:Int)>=2)then List.take 2 x==[45,45]else false)=List.isPrefixOf [45,45] x:=by
 cases x with
 |nil=>rfl
 |cons a x=>
  cases x with
  |nil=>show(bif decide _ then _ else _)=((45==a)&&false);rw[Ec];rfl
  |cons b x=> have:decide ((((a::b::x:Str)).length:Int)>=2)=true:=Ga (by simp only[Fa];omega);rw[this];show((a==45)&&((b==45)&&true))=((45==a)&&((45==b)&&true));rw[Bool.beq_comm (a:=a),Bool.beq_comm (a:=b)]
theorem sQ{x:Str}(h:List.isPrefixOf [45,45] x=true):decide ((x.length:Int)>2)= !(x==[45,45]):=by
 obtain⟨t,rfl⟩:=Hf.1 h;cases t with
 |nil=>rfl
 |cons a t=> have:decide ((([45,45]++a::t:Str).length:Int)>2)=true:=Ga (by simp only[Ea,Fa];omega);rw[this];rfl
theorem zq2{x:Str}(h:x.length<=big):EA x=some (Si x):=by
 have e:decide ((x.length:Int)>64)= !decide (x.length<=64):=Gt _ 64;have en:decide ((x.length:Int)<1)=(x==[]):=by cases x with
  |nil=>rfl
  |cons a x=>exact La (by simp only[Fa];omega)
 have ec:=aK x (lowS x);have hk:(need (decide ((2:Int)<=(x.length:Int))|| !(decide ((x.length:Int)>=2)))<|
   bif bif decide ((x.length:Int)>=2)then List.take 2 x==[45,45]else false then some (decide ((x.length:Int)>2))else za (qK x) fun y4=>some (x==y4))=some (bif List.isPrefixOf [45,45] x then !(x==[45,45])else lowS x==x):=by
  have e2:(decide ((2:Int)<=(x.length:Int))|| !(decide ((x.length:Int)>=2)))=true:=by show(decide _|| !decide ((2:Int)<=_))=true;cases decide ((2:Int)<=(x.length:Int))<;>rfl
  rw[e2,zF,rQ];cases hp:List.isPrefixOf [45,45] x with
  |true=>rw[Ca,Ca,sQ hp]
  |false=>simp only[Ba,CF h,za,Aa,ec]
 unfold EA Si;rw[hk];have hl: ∀b:Bool,zS (fun(s1:Int)=>bif decide (s1<(x.length:Int))then
    za (geti x s1) fun y2=>bif (y2.toNat:Int)==0 then some (LO.ret false)else some (LO.again (w64 (s1+1)))
   else some (LO.out ()):Int->Option (LO (Int) (Unit) _)) 0 (fun _=>some b)=some (Zz x&&b):=by
  intro b;refine(En x (fun b=>bif (!(b==0))then none else some false) () (fun i hi=> ?_) ?_).trans ?_
  ·simp only[Zr hi,Ca,Zb hi,za,Aa,byte_zero,zX hi h];cases x[i]==0<;>rfl
  ·simp only[ql,Ba]
  ·rw[Uo];unfold Zz;cases x.all (fun b=> !(b==0))<;>rfl
 rw[hl,e,en];cases x==[]<;>cases decide (x.length<=64)<;>rfl
def clK(v:zh):Bool:=v.token.kind==20||(v.token.kind==22||v.token.kind==24)
mutual
def clV:zh->Bool
 |⟨t,l⟩=>clK ⟨t,l⟩||clL l
def clL:List zh->Bool
 |[]=>false
 |v::r=>clV v||clL r
end
theorem G6(v:zh):clV v=(clK v||clL v.list):=by obtain⟨t,l⟩:=v;rw[clV]
theorem I9(l:List zh):clL l=l.any clV:=by
 induction l with
 |nil=>rw[clL];rfl
 |cons v l ih=>rw[clL,ih];rfl
theorem zoM{l:List zh}(h:szL l<=big):zI l=some (clL l):=by
 refine ZX (fun l=>szL l) (fun l=>szL l<=big) (fun l=>clL l) (fun S l hl hS=> ?_) h;have hlen:=wh l;unfold kG qV QM;have:=NE (mE (step:=fun(s1:Int)=>
   bif decide (s1<(l.length:Int))then
    za (geti l s1) fun y2=>
    za (Sw S (⟨y2.token,y2.list⟩:zh)) fun y3=>
    bif y3 then some (LO.ret s1)else some (LO.again (w64 (s1+1)))
   else some (LO.out ())) l clV (by omega) (fun i hi=> ?_) ?_) (Vy _ _)
 ·rw[this,I9];rfl
 ·have hsz:=Vj (Kb hi);have hv2:=Dj l[i];have hs:=hS l[i].list (by omega) (by omega);have:Sw S l[i]=some (clV l[i]):=by unfold Sw xh;simp only[SF,Zd,za,Aa,hs,G6,clK];cases l[i].token.kind==20<;>cases l[i].token.kind==22<;>cases l[i].token.kind==24<;>rfl
  simp only[Zr hi,Ca,Zb hi,za,Aa,SF,this]
 ·simp only[ql,Ba]
theorem znM{l:List zh}(h:szL l<=big):qU l=some (clL l):=by
 refine ZX (fun l=>szL l) (fun l=>szL l<=big) (fun l=>clL l) (fun S l hl hS=> ?_) h;have hlen:=wh l;unfold yG;refine(En l (fun v=>bif clV v then some true else none) () (fun i hi=> ?_) ?_).trans ?_
 ·have hsz:=Vj (Kb hi);have hv2:=Dj l[i];have hs:=hS l[i].list (by omega) (by omega);simp only[Zr hi,Ca,Zb hi,za,Aa,G6,clK,zX hi (show l.length<=big by omega)];cases h1:l[i].token.kind==20<;>cases h2:l[i].token.kind==22<;>cases h3:l[i].token.kind==24<;>
   first|rfl|(simp only[Ba,Ra,zu,Aa,hs,Xb];cases clL l[i].list<;>rfl)
 ·simp only[ql,Ba]
 ·rw[XJ,I9];cases l.any clV<;>rfl
def bn(l:List zh):Bool:=match l with
 |[]=>false
 |v::r=>isSp v||isSp ((v::r).getLast (by simp))
theorem V9(t:List zh)(v:zh):bn (t++[v])=((match t with|[]=>isSp v|a::_=>isSp a)||isSp v):=by
 cases t with
 |nil=>rfl
 |cons a t=> show(isSp a||isSp ((a::(t++[v])).getLast _))=_;congr 2;have:(a::(t++[v]))=(a::t)++[v]:=rfl;simp only[this,List.getLast_append_of_ne_nil,List.getLast_singleton,ne_eq,reduceCtorEq,Ri]
theorem WR(l:List zh):(trimB l).length<=l.length:=(KF l).length_le
theorem EU(l:List zh):((trimS l).length==l.length)= !bn l:=by
 rcases UL l with rfl|⟨t,v,rfl⟩
 ·rfl
 ·rw[V9];have hl:(t++[v]).length=t.length+1:=by simp
  cases t with
  |nil=>
   show((trimB (List.dropWhile isSp [v])).length==1)= !(isSp v||isSp v);cases hv:isSp v with
   |true=>simp only[yc,hv];rfl
   |false=> simp only[yc,hv];have:=pz [] v;rw[hv]at this;show((trimB [v]).length==1)=true;rw[show trimB [v]=[v]from this];rfl
  |cons a t=>
   show((trimB (List.dropWhile isSp (a::(t++[v])))).length==_)= !(isSp a||isSp v);have hb:=WR (List.dropWhile isSp (a::(t++[v])));cases ha:isSp a with
   |true=> simp only[yc,ha,Ee]at hb ⊢;have hd:=(Xf isSp (l:=t++[v])).length_le;rw[jc,Ta,Ia];rw[hl,Fa];rw[Ea,Jb]at hd;omega
   |false=>
    have e:List.dropWhile isSp (a::(t++[v]))=(a::t)++[v]:=by rw[yc,ha];rfl
    rw[e,pz];cases hv:isSp v with
    |true=> have:=WR (a::t);rw[Ka rfl,Fe,Ta,Ia,hl];omega
    |false=>simp
theorem zBo{l:List zh}(h:l.length<=big)(g:Bool)(hg:(l.isEmpty&&g)=false)(k:Bool->Option Int):
  (za (zq (decide ((l.length:Int)>0)&& !g) (geti l 0) (default:zh)) fun y7=>
   za (zq (decide ((l.length:Int)>0)&& !g) (xh ((⟨y7.token,y7.list⟩:zh),13)) (default:Bool)) fun y8=>
   za (zq (!y8&&(decide ((l.length:Int)>0)&& !g)) (geti l (w64 ((l.length:Int) - 1))) (default:zh)) fun y9=>
   za (zq (!y8&&(decide ((l.length:Int)>0)&& !g)) (xh ((⟨y9.token,y9.list⟩:zh),13)) (default:Bool)) fun y10=>
   k (bif decide ((l.length:Int)>0)then bif y8 then true else y10 else false))=(if g=true/\l≠[]then(k (bif decide ((l.length:Int)>0)then bif (default:Bool)then true else(default:Bool)else false))else k (bn l)):=by
 cases l with
 |nil=> have:decide ((([]:List zh).length:Int)>0)=false:=rfl;simp only[this,Ob,zU,za,Aa,Ec,Ba,ne_eq,not_true_eq_false,and_false,Ud,bn]
 |cons v r=>
  have e1:decide (((v::r).length:Int)>0)=true:=Ga (by simp only[Fa];omega);have e2:geti (v::r) 0=some v:=rfl;cases g with
  |true=>simp only[e1,Ta,Ec,zU,za,Aa,Ca,ne_eq,reduceCtorEq,Ri,and_self,Ee]
  |false=>
   simp only[e1,Ra,Lb,zu,za,Aa,Ca,e2,xh,false_and,Ud,reduceCtorEq];have e3:w64 (((v::r).length:Int) - 1)=(r.length:Int):=by rw[Fa]at h ⊢;rw[w64,Zx (by omega) (by unfold big at h;omega)];omega
   have e4:geti (v::r) (r.length:Int)=some ((v::r).getLast (by simp)):=by rw[Zb (by simp),List.getLast_eq_getElem];simp
   rw[e3,e4];simp only[Zd,Aa,bn,isSp];cases v.token.kind==13<;>rfl
def badV(v:zh):Bool:=v.token.kind==17||(v.token.kind==9&&v.token.text==[33])
def Yp(custom:Bool)(l:List zh):Bool:= !(l.any badV)&&(!(l.isEmpty&& !custom)&& !bn l)
def Ng(d:z8):Bool:=Si d.name&&(errS d.value==0&&(gluS (tokL d.value)==0&&(!clL d.value&&Yp (List.isPrefixOf [45,45] d.name) d.value)))
mutual
theorem zFH: ∀(v:zh) (t:ze),t∈tokV v->t.text.length<=szV v/\t.unit.length<=szV v
 |⟨t,l⟩,u,h=>by
  rw[tokV]at h;rw[szV];rcases Rb.1 h with rfl|h
  ·constructor<;>omega
  ·split at h
   ·cases h
   ·rcases Yd.1 h with h|h
    ·have:=ry l u h;omega
    ·obtain rfl:=xc.1 h;exact⟨Mc _,Mc _⟩
theorem ry: ∀(l:List zh) (t:ze),t∈tokL l->t.text.length<=szL l/\t.unit.length<=szL l
 |[],_,h=>by rw[tokL]at h;cases h
 |v::r,u,h=>by
  rw[tokL]at h;rw[szL];rcases Yd.1 h with h|h
  ·have:=zFH v u h;omega
  ·have:=ry r u h;omega
end
theorem zEA{l:List zh}(h:szL l<=big):QR (tokL l)=some (gluS (tokL l)):=
 vV fun t ht=>by have:=ry l t ht;omega
theorem zHw{l:List zh}(h:szL l<=big):Sr (tokL l)=some (gluS (tokL l)):=
 zqY fun t ht=>by have:=ry l t ht;omega
theorem zuD{l:List zh}(h:l.length<=big):ZT l=some (l.any badV):=by
 unfold ZT Qf;refine NE (mE l badV h (fun i hi=> ?_) ?_) (Vy _ _)
 ·have:XA l[i]=some (badV l[i]):=by unfold XA TF xh badV;simp only[SF,Zd,za,Aa];cases l[i].token.kind==17<;>cases l[i].token.kind==9<;>rfl
  simp only[Zr hi,Ca,Zb hi,za,Aa,SF,this]
 ·simp only[ql,Ba]
theorem AX{d:z8}(hv:szL d.value<=big)(hn:d.name.length<=big):wo d=some (bif Ng d then 0 else 8):=by
 have hlen:=wh d.value;unfold wo Ng;rw[zvB hv];simp only[za,Aa,zsl hn];cases Si d.name with
 |false=>simp only[Ra,Ca,Ta,zU,Aa,Ob,Ba]
 |true=>
  by_cases he:errS d.value=0
  ·rw[Ka he];have he':(errS d.value==0)=true:=ma.2 he;have this:((0:Int)==0)=true:=rfl;simp only[he',this,Ta,Ba,Ra,zu,zEA hv,Aa,aa,bne];cases hg:gluS (tokL d.value)==0 with
   |false=>simp only[Ra,Ca,Ta,zU,Aa,Ob,Ba]
   |true=>
    simp only[Ta,Ba,Ra,zu,zoM hv,Aa,aa];cases clL d.value with
    |true=>rfl
    |false=>
     simp only[Ba,zuD (show d.value.length<=big by omega),Aa,Yp,Ra,aa];cases d.value.any badV with
     |true=>rfl
     |false=>
      simp only[Ba,Jp,Zd,Aa,QF,Ra,aa];have hp:=zBo (l:=d.value) (by omega) (bif d.value.isEmpty then !(bif d.value.isEmpty then List.isPrefixOf [45,45] d.name else default)else false);cases hd:d.value with
      |nil=>
       cases List.isPrefixOf [45,45] d.name<;>rfl
      |cons v r=> have hp':=hp (by rw[hd];rfl) (fun b=>bif b then some 8 else some 0);rw[hd]at hp';simp only[List.isEmpty_cons,Ba,Yb,false_and,Ud]at hp';simp only[List.isEmpty_cons,Ba,Ob,Ra,aa];refine Eq.trans hp' ?_;cases bn (v::r)<;>rfl
  ·rw[Ja he];have he':(errS d.value==0)=false:=Ia.2 he;simp only[he',bne,Ta,Ba,Ra,Ca,zU,Aa,Ob,Ec]
theorem zA8{x:Str}(hn:Si x=true):OA x=some (List.isPrefixOf [45,45] x):=by
 unfold OA;have e2:(decide ((2:Int)<=(x.length:Int))|| !(decide ((x.length:Int)>2)))=true:=by
  by_cases h:2<=x.length
  ·rw[Ga (show(2:Int)<=(x.length:Int) by omega)];rfl
  ·rw[La (show¬((x.length:Int)>2) by omega)];simp
 rw[zo e2];have hp:=rQ x;cases hpp:List.isPrefixOf [45,45] x with
 |true=> rw[hpp]at hp;have h3:=sQ hpp;unfold Si at hn;rw[hpp]at hn;simp only[Ca,Da]at hn;rw[hn.2.2.2]at h3;rw[h3];have:decide ((x.length:Int)>=2)=true:=Ga (by have:=Ub h3;omega);rw[this]at hp;exact congrArg some hp
 |false=>
  rw[hpp]at hp;cases h3:decide ((x.length:Int)>2)with
  |false=>rfl
  |true=> have:decide ((x.length:Int)>=2)=true:=Ga (by have:=Ub h3;omega);rw[this]at hp;exact congrArg some hp
theorem zHJ{α:Type}(a b:List α):((a.length:Int)==(b.length:Int))=(a.length==b.length):=by rw[Ef,ma,ma];omega
theorem zpR{x:Str}{l:List zh}(h:szL l<=big)(hn:Si x=true):
  NA (x,l)=some (errS l==0&&(gluS (tokL l)==0&&(!clL l&&Yp (List.isPrefixOf [45,45] x) l))):=by
 have hlen:=wh l;unfold NA;simp only[zC4 h,wK h,za,Aa,bne,Zd];cases he:errS l==0 with
 |false=>simp only[Ra,Ca,Ta,zU,Aa,Ob,Ba]
 |true=>
  simp only[Ta,Ba,Ra,Ca,zu,zHw h,Aa,aa];cases hg:gluS (tokL l)==0 with
  |false=>simp only[Ra,Ca,Ta,zU,Aa,Ob,Ba]
  |true=>
   simp only[Ta,Ba,Ra,zu,znM h,Aa,aa];cases clL l with
   |true=>rfl
   |false=>
    simp only[Ba,zxH h,Aa,zHJ,EU,QF,Eg,Ra,aa,zA8 hn,Zd];have hl:zS (fun(s7:Int)=>
     bif decide (s7<(l.length:Int))then
      za (geti l s7) fun y8=>
      bif bif y8.token.kind==17 then true else bif y8.token.kind==9 then y8.token.text==[33]else false then
       some (LO.ret false)
      else
       some (LO.again (w64 (s7+1)))
     else
      some (LO.out ()):Int->Option (LO (Int) (Unit) _)) 0 (fun _=>some true)=some (!(l.any badV)):=by
     refine(En l (fun v=>bif badV v then some false else none) () (fun i hi=> ?_) ?_).trans ?_
     ·simp only[Zr hi,Ca,Zb hi,za,Aa,badV,zX hi (show l.length<=big by omega)];cases l[i].token.kind==17<;>cases l[i].token.kind==9<;>cases l[i].token.text==[33]<;>rfl
     ·simp only[ql,Ba]
     ·rw[XJ];cases l.any badV<;>rfl
    unfold Yp;simp only[za]at hl;rw[hl];cases bn l<;>cases l.isEmpty<;>cases List.isPrefixOf [45,45] x<;>cases l.any badV<;>rfl
theorem zq1{d:z8}(hv:szL d.value<=big)(hn:d.name.length<=big):kv d=some (bif Ng d then 0 else 8):=by
 unfold kv Ng;simp only[zq2 hn,za,Aa];cases hnd:Si d.name with
 |false=>rfl
 |true=> simp only[Ta,Ra,zu,zpR hv hnd,Aa,aa];cases (errS d.value==0&&(gluS (tokL d.value)==0&&(!clL d.value&&Yp (List.isPrefixOf [45,45] d.name) d.value)))<;>rfl
theorem zpk:BC Gw:=by intro qD ref10_Size' h_ref10_Size x;unfold Gw;exact(.lp (fun _=>(.bif (.bind .rfl fun _=>(.bind (h_ref10_Size _) fun _=> .rfl)) .rfl)) fun _=> .rfl)
theorem zpj:BC Hw:=by intro Qz ref04_Size' h_ref04_Size x;unfold Hw;exact(.lp (fun _=>(.bif (.bind .rfl fun _=>(.bind .rfl fun _=>(.bind .rfl fun _=>(.bind (h_ref04_Size _) fun _=> .rfl)))) .rfl)) fun _=> .rfl)
theorem zpl:BC Fw:=by intro ik ref10_long' h_ref10_long x;unfold Fw;exact(.bind .rfl fun _=>(.bif .rfl (.lp (fun _=>(.bif (.bind .rfl fun _=>(.bind (h_ref10_long _) fun _=>(.bif .rfl .rfl))) .rfl)) fun _=> .rfl)))
theorem zqC:BC Xv:=by intro Nj cond_look' h_cond_look x;unfold Xv;exact(.bif .rfl (.bif (.bind .rfl fun _=>(.bind .rfl fun _=> .rfl)) (.bif (.bind .rfl fun _=> .rfl) (.join (.bif .rfl (.bif .rfl .rfl)) fun _=>(.bif (.bind .rfl fun _=>(.bif .rfl (.lp (fun _=>(.bif (.bind .rfl fun _=>(.bind (h_cond_look _) fun _=>(.bif .rfl (.join (.bind .rfl fun _=>(.bif .rfl .rfl)) fun _=> .rfl)))) .rfl)) fun _=> .rfl))) .rfl)))))
end Go.Lv.VT




