/- Small functions of bytes and texts: small letters, names; the program's and the reference's are the same. -/
import Derived.Test.YtanfjibdgcalfaaGreatDoorTx
import Derived.Test.YtanfjibdgcalfaaGreatDoorMo
import Derived.Test.YtanfjibdgcalfaaGreatDoorIp
import Derived.Test.YtanfjibdgcalfaaGreatDoorLf
set_option linter.unusedSimpArgs false
set_option linter.unusedVariables false
namespace Go.Lv.VT
def Ik(n:Nat):Nat:=if 65<=n/\n<=90 then n+32 else n
def ni(b:UInt8):UInt8:=UInt8.ofNat (Ik b.toNat)
theorem zJV{n:Nat}(h:n<256):Ik n<256:=by unfold Ik;split<;>omega
theorem zHs(b:UInt8):(ni b).toNat=Ik b.toNat:=by unfold ni;rw[UInt8.toNat_ofNat'];exact Nat.mod_eq_of_lt (zJV (Ce b))
theorem zJx: ∀n:Nat,n<256->Sm (n:Int)=some ((Ik n:Nat):Int):=by decide+kernel
theorem zNT: ∀n:Nat,n<256->(bif decide (65<=(n:Int))then decide ((n:Int)<=90)else false)=true->qE (ibOr IntKind.u8 (n:Int) 32)=some (UInt8.ofNat (Ik n)):=by decide+kernel
def lowS(l:Str):Str:=l.map ni
theorem DL{α:Type}{l:List α}{i:Nat}(h:i<l.length)(f:α->α):((l.take i).map f++l.drop i).set i (f l[i])=(l.take (i+1)).map f++l.drop (i+1):=by
 apply List.ext_getElem
 ·simp;omega
 grind
theorem AU{α:Type}{l:List α}{i:Nat}(h:i<l.length)(f:α->α):((l.take i).map f++l.drop i)[i]? =some l[i]:=by
 grind
theorem fK{α:Type}{l:List α}{i:Nat}(h:i<=l.length)(f:α->α):((l.take i).map f++l.drop i).length=l.length:=by simp;omega
theorem zK9{α:Type}{l:List α}{i:Nat}(h:i<l.length)(f:α->α)(e:f l[i]=l[i]):(l.take i).map f++l.drop i=(l.take (i+1)).map f++l.drop (i+1):=by
 rw[<-DL h f,e];apply List.ext_getElem?
 grind
theorem LK(i:Nat):decide ((0:Int)<=(i:Int))=true:=Ha (by omega)
theorem Ht{l:Str}(h:l.length<=big):QK l=some (lowS l):=by
 unfold QK;rw[XE (Ha (by unfold big at h;unfold maxLen;omega))];have d: ∀(k i:Nat),i+k=l.length-> ∃n,qz (X:=List UInt8) (R:=Str) (fun(a:Int×List UInt8)=>
   bif decide (a.1<(a.2.length:Int))then
    need (decide (0<=a.1)&&decide (a.1<(a.2.length:Int)))<|
    za a.2[a.1.toNat]? fun f=>
    za (Sm (f.toNat:Int)) fun g=>
    need (decide (0<=a.1)&&decide (a.1<(a.2.length:Int)))<|
    za a.2[a.1.toNat]? fun p=>
    za (qE g) fun m=>
    some (LO.again (w64 (a.1+1),List.set a.2 a.1.toNat m))
   else
    some (LO.out a.2)) n ((i:Int),(l.take i).map ni++l.drop i)=some (.out (lowS l)):=by
  intro k
  induction k with
  |zero=>
   intro i e;have e:i=l.length:=by omega
   subst e;refine⟨1,?_⟩;simp only[qz,fK (Sa _),zV,Ca];simp[lowS]
  |succ k o=>
   intro i e;have b:i<l.length:=by omega
   obtain⟨n,c⟩:=o (i+1) (by omega);refine⟨n+1,?_⟩;have j:=Ce l[i];simp only[qz,fK (Nat.le_of_lt b),zY b,Da,LK,Yb,ZU,Lb,AU b,za,Ba,zJx _ j];rw[<-zHs,zKk,zK b h];simp only[Ba,DL b];exact c
 obtain⟨n,c⟩:=d l.length 0 (by omega);replace c:=Jh c;simp only[List.take_zero,List.map_nil,Ad,List.drop_zero]at c;exact(Wh c).trans rfl
theorem Du{l:Str}(h:l.length<=big):Bl l=some (lowS l):=by
 unfold Bl;rw[XE (Ha (by unfold big at h;unfold maxLen;omega))];have d: ∀(k i:Nat),i+k=l.length-> ∃n,qz (X:=List UInt8) (R:=Str) (fun(a:Int×List UInt8)=>
   bif decide (a.1<(l.length:Int))then
    zO (X:=Int×List UInt8) (
      need (decide (0<=a.1)&&decide (a.1<(a.2.length:Int)))<|
      za a.2[a.1.toNat]? fun j=>
      bif bif decide (65<=(j.toNat:Int))then decide ((j.toNat:Int)<=90)else false then
       need (decide (0<=a.1)&&decide (a.1<(a.2.length:Int)))<|
       za a.2[a.1.toNat]? fun o=>
       need (decide (0<=a.1)&&decide (a.1<(a.2.length:Int)))<|
       za a.2[a.1.toNat]? fun t=>
       za (qE (ibOr IntKind.u8 (o.toNat:Int) 32)) fun q=>
       some (LX.out (a.1,List.set a.2 a.1.toNat q))
      else
       some (LX.out (a.1,a.2))) fun m=>
    some (LO.again (w64 (m.1+1),m.2))
   else
    some (LO.out a.2)) n ((i:Int),(l.take i).map ni++l.drop i)=some (.out (lowS l)):=by
  intro k
  induction k with
  |zero=>
   intro i f;have f:i=l.length:=by omega
   subst f;refine⟨1,?_⟩;simp only[qz,zV,Ca];simp[lowS]
  |succ k r=>
   intro i f;have b:i<l.length:=by omega
   obtain⟨n,c⟩:=r (i+1) (by omega);refine⟨n+1,?_⟩;have p:=Ce l[i];simp only[qz,fK (Nat.le_of_lt b),zY b,Da,LK,Yb,ZU,Lb,AU b,za,Ba];cases g:(bif decide (65<=(l[i].toNat:Int))then decide ((l[i].toNat:Int)<=90)else false)with
   |true=> have e:=zNT _ p g;simp only[e,Da,Ba,zZ,zK b h];rw[show UInt8.ofNat (Ik l[i].toNat)=ni l[i]from rfl,DL b];exact c
   |false=>
    have e:ni l[i]=l[i]:=by unfold ni Ik;rw[Ab,UInt8.ofNat_toNat];rintro⟨s,u⟩;rw[Ha (by omega),Da,Ha (by omega)]at g;cases g
    simp only[Ca,zZ,zK b h];rw[zK9 b ni e];exact c
 obtain⟨n,c⟩:=d l.length 0 (by omega);replace c:=Jh c;simp only[List.take_zero,List.map_nil,Ad,List.drop_zero]at c;exact(Wh c).trans rfl
def QS(l:Str):Bool:=l.all fun b=> !(b==0)
theorem yK(c:UInt8): ∀l:Str,decide (Lib.indexByte l c>=0)=l.any fun b=>b==c
 |[]=>rfl
 |b::l=>by
  have d:=yK c l;have a:=Lib.indexByte_ge l c;rw[Xe,Lib.indexByte]
  grind
theorem zMZ(l:Str):(l.any fun b=>b==0)= !QS l:=by
 unfold QS
 grind
theorem cu(l:Str)(n:Int):strings_IndexByte (l,n)=some (Lib.indexByte l n.toNat.toUInt8):=rfl
theorem Gs(l:Str):decide (Lib.indexByte l (0:Int).toNat.toUInt8>=0)= !QS l:=(yK 0 l).trans (zMZ l)
def jf(l:Str):Bool:= !(l==[])&&(decide (l.length<=64)&&QS l)
theorem Jf(n m:Nat):decide ((n:Int)>(m:Int))= !decide (n<=m):=by
 grind
theorem byte_zero(b:UInt8):((b.toNat:Int)==0)=(b==0):=by
 by_cases h:b=0
 ·subst h;rfl
 ·have a:b.toNat≠0:=fun e=>h (UInt8.toNat_inj.1 e)
  grind
def Gi(l:Str):Bool:=jf l&&lowS l==l
theorem Fy(a b:Str):(a==b)=(b==a):=by
 grind
theorem ym(n m:Nat):decide ((n:Int)<=(m:Int))=decide (n<=m):=by
 grind
theorem Tu{α:Type}(l:List α):decide ((l.length:Int)<1)=l.isEmpty:=by
 cases l with
 |nil=>rfl
 |cons a l=>grind
theorem Oj{f:Option Int}{p:Bool}{i:Int}(h:f=some i)(a:decide (i>=0)=p):(za f fun y=>some (decide (y>=0)))=some p:=by
 grind
def rf(l:List Str):Bool:= !l.isEmpty&&(decide (l.length<=16)&&l.all jf)
theorem uo{α:Type}(p:α->Bool)(l:List α):(l.any fun v=> !p v)= !l.all p:=by
 grind
theorem UA(l m:Str):strings_HasPrefix (l,m)=some (m.isPrefixOf l):=by
 have a: ∀m l:Str,m.isPrefixOf l=(decide (m.length<=l.length)&&l.take m.length==m):=by
  intro m l;rw[Tf];simp only[List.isPrefixOf_iff_prefix,Fa,Cb,Bc];constructor
  ·rintro⟨t,rfl⟩
   grind
  ·grind
 unfold strings_HasPrefix stringslite_HasPrefix;simp_all
theorem zB0(l m:Str):strings_TrimPrefix (l,m)=some (bif m.isPrefixOf l then l.drop m.length else l):=by
 have h:stringslite_HasPrefix (l,m)=some (m.isPrefixOf l):=by
  have:=UA l m;unfold strings_HasPrefix at this;cases hh:stringslite_HasPrefix (l,m)with
  |none=>grind
  |some b=>grind
 unfold strings_TrimPrefix stringslite_TrimPrefix;simp only[h,za,Ba];cases hp:m.isPrefixOf l with
 |false=>rfl
 |true=> have hl:=(List.isPrefixOf_iff_prefix.1 hp).length_le;simp_all
theorem zHl{a b:Str}(c:a.length<=big)(h2:b.length<=big):Bz (a,b)=some (lowS a==lowS b):=by unfold Bz;simp only[Du c,Du h2,za,Ba]
theorem zJu{a b:Str}(c:a.length<=big)(h2:b.length<=big):sj (a,b)=some (lowS a==lowS b):=by unfold sj;simp only[Ht c,Ht h2,za,Ba]
def jl(n:Nat):Bool:=
 !(n==0||n==9||n==10||n==12||n==13||n==32||n==34||n==39||n==40||n==41||n==44||n==58||n==59||n==91||n==93||n==95||n==123||n==125)&&
  (decide (n<128)&& !((decide (48<=n)&&decide (n<=57))||(decide (65<=n)&&decide (n<=90))||(decide (97<=n)&&decide (n<=122))))
set_option maxRecDepth 100000 in
theorem zMn: ∀n:Nat,n<256->NH 40 (n:Int)=some (jl n):=by decide+kernel
def kw:Prop:= ∀b:UInt8,Ui (b.toNat:Int)=some (jl b.toNat)
theorem GZ:kw:=fun b=>
 wY 40 _ _ (zMn _ (Ce b))
def digN(n:Nat):Bool:=decide (48<=n)&&decide (n<=57)
theorem zFr: ∀n:Nat,n<256->ZT (n:Int)=some (digN n):=by decide+kernel
theorem rV(b:UInt8):ZT (b.toNat:Int)=some (digN b.toNat):=(zFr _ (Ce b))
theorem zDe: ∀n:Nat,n<256->Uj (n:Int)=some (digN n):=by decide+kernel
theorem zAE(b:UInt8):Uj (b.toNat:Int)=some (digN b.toNat):=(zDe _ (Ce b))
def namN(n:Nat):Bool:=digN n||(decide (65<=n)&&decide (n<=90))||(decide (97<=n)&&decide (n<=122))||n==95||n==45||decide (128<=n)
theorem zDg: ∀n:Nat,n<256->Yp (n:Int)=some (namN n):=by decide+kernel
theorem zAF(b:UInt8):Yp (b.toNat:Int)=some (namN b.toNat):=(zDg _ (Ce b))
def Sl:Str->Bool
 |[]=>false
 |b::r=>digN b.toNat||(b==45&&(r==[]||digN (r.headD 0).toNat))
theorem zL8(b c:UInt8):((b.toNat:Int)==(c.toNat:Int))=(b==c):=by
 by_cases h:b=c
 ·subst h;simp
 ·have a:b.toNat≠c.toNat:=fun e=>h (UInt8.toNat_inj.1 e)
  grind
theorem zL7(b:UInt8):((b.toNat:Int)==45)=(b==45):=zL8 b 45
theorem zBw(l:Str):Vy l=some (Sl l):=by
 unfold Vy;cases l with
 |nil=>rfl
 |cons b r=>
  have f:geti (b::r) 0=some b:=rfl;have g:(b::r==([]:Str))=false:=rfl;simp only[g,Ca,f,za,Ba,rV,zM,zL7];cases r with
  |nil=>
   have e:(([b]:Str)==[45])=(b==45):=by show((b==45)&&true)=_;rw[Yb]
   simp only[e];unfold Sl;cases c:(b==45)with
   |false=>cases h:digN b.toNat<;>simp[c,zA,h]
   |true=>simp_all
  |cons d r=>
   have a:geti (b::d::r) 1=some d:=rfl;have e:((b::d::r:Str)==[45])=false:=by show((b==45)&&false)=_;rw[Ac]
   simp only[a,e,zM,Ba,rV,Sl,List.headD_cons]
   grind
def numS:Str->Bool
 |[]=>false
 |b::r=>bif b==45 then !(r==[])&&digN (r.headD 0).toNat else digN b.toNat
theorem X8(l:Str):Wq l=some (numS l):=by
 unfold Wq;simp only[zB0,za,Ba];have a: ∀m:Str,((zA (!(m==[])) (geti m 0) 0).bind fun c=>(zA (!(m==[])) (Uj (c.toNat:Int)) (default:Bool)).bind fun d=>some (bif !(m==[])then d else false))=some (!(m==[])&&digN (m.headD 0).toNat):=by
  intro m;cases m with
  |nil=>rfl
  |cons b r=> have f:geti (b::r) 0=some b:=rfl;have g:(b::r==([]:Str))=false:=rfl;simp only[g,Ra,Zt,f,Ba,zAE,Da,List.headD_cons,Ua]
 rw[a];cases l with
 |nil=>rfl
 |cons b r=>
  have e:List.isPrefixOf [45] (b::r)=(b==45):=by
   show((45==b)&&true)=_;rw[Yb];cases h:(b==45)with
   |true=>grind
   |false=>grind
  rw[e];show _=some (bif b==45 then !(r==[])&&digN (r.headD 0).toNat else digN b.toNat)
  grind
theorem zLe(l:Str):((numS l&& !(List.isPrefixOf [45,45] l))||l==[45])=Sl l:=by
 cases l with
 |nil=>rfl
 |cons b r=>
  cases a:(b==45)with
  |false=>
   have e:List.isPrefixOf [45,45] (b::r)=false:=by show((45==b)&&_)=_;rw[Ea]at a;rw[Ea.2 (Ne.symm a)];rfl
   have c:((b::r:Str)==[45])=false:=by show((b==45)&&_)=_;rw[a];rfl
   rw[e,c];unfold numS Sl;simp[a]
  |true=>
   rw[Bc]at a;subst a;cases r with
   |nil=>rfl
   |cons d r=>
    have c:((45::d::r:Str)==[45])=false:=rfl;rw[c];unfold numS Sl;have e:List.isPrefixOf [45,45] (45::d::r)=(45==d):=by show((45==(45:UInt8))&&((45==d)&&true))=_;rw[Yb];rfl
    rw[e];simp only[List.headD_cons];have f:digN 45=false:=by decide
    cases h:(45==d)with
    |false=>simp[f]
    |true=>rw[Bc]at h;subst h;rfl
def delS(l:Str):Bool:=match l with
 |[b]=>jl b.toNat
 |_=>false
def rngS(x:zk):Bool:=decide (-1000000000000<=x.num)&&(decide (x.num<=1000000000000)&&(!x.flag||Int.tmod x.num 1000==0))
def Ir(x:zk):Bool:=
 bif x.kind==1||x.kind==2||x.kind==3 then !(x.text==[])&&(QS x.text&&(x.num==0&&(x.unit==[]&& !x.flag)))
 else bif x.kind==4 then !(x.text==[])&&(QS x.text&&((x.flag||Sl x.text)&&(x.num==0&&x.unit==[])))
 else bif x.kind==5||x.kind==7 then QS x.text&&(x.num==0&&(x.unit==[]&& !x.flag))
 else bif x.kind==9 then delS x.text&&(x.num==0&&(x.unit==[]&& !x.flag))
 else bif x.kind==10||x.kind==11||x.kind==12 then rngS x&&((!(x.unit==[])==(x.kind==12))&&(QS x.unit&&((!(x.kind==11)|| !x.flag)&&x.text==[])))
 else(decide (13<=x.kind)&&decide (x.kind<=24))&&(x.text==[]&&(x.num==0&&(x.unit==[]&& !x.flag)))
theorem nO{l:Str}(h:l.length<=big):Pm l=some (QS l):=by
 unfold Pm;refine(Z9 l (fun b=>bif (!(b==0))then none else some false) () (fun i a=> ?_) ?_).trans ?_
 ·simp only[zY a,Da,zS a,za,Ba,byte_zero,zK a h]
  grind
 ·grind
 ·rw[Pg];show _=some (QS l);unfold QS
  grind
theorem one_byte(l:Str)(p:Nat->Bool)(d:Bool)(f:Int->Option Bool)(hf: ∀b:UInt8,f (b.toNat:Int)=some (p b.toNat))(g:Bool):
  ((zA (g&&(l.length:Int)==1) (geti l 0) (0:UInt8)).bind fun y=>zA (g&&(l.length:Int)==1) (f (y.toNat:Int)) d)=some (bif g&&(l.length:Int)==1 then(match l with|[b]=>p b.toNat|_=>false)else d):=by
 cases g with
 |false=>rfl
 |true=>
  cases l with
  |nil=>rfl
  |cons b r=>
   cases r with
   |nil=> show((geti [b] 0).bind fun y=>f (y.toNat:Int))=some (p b.toNat);rw[show geti [b] 0=some b from rfl];exact hf b
   |cons c r=> have:(((b::c::r).length:Int)==1)=false:=Ea.2 (by grind);rw[this];rfl
theorem zGX(a:kw)(l:Str)(g:Bool):((zA (g&&(l.length:Int)==1) (geti l 0) (0:UInt8)).bind fun y=>zA (g&&(l.length:Int)==1) (Ui (y.toNat:Int)) (default:Bool))=some (bif g&&(l.length:Int)==1 then delS l else default):=
 one_byte l jl default Ui a g
theorem zKF(l:Str):(((l.length:Int)==1)&&delS l)=delS l:=by
 cases l with
 |nil=>rfl
 |cons b r=>
  cases r with
  |nil=>rfl
  |cons c r=> have:(((b::c::r).length:Int)==1)=false:=Ea.2 (by grind);rw[this];rfl
theorem zBx(C:kw){x:zk}(v:x.text.length<=big)(h2:x.unit.length<=big):Uy x=some (Ir x):=by
 have n:=zGX C x.text true;simp only[Ua]at n;have q:((zA ((x.text.length:Int)==1) (geti x.text 0) (0:UInt8)).bind fun o=>(zA ((x.text.length:Int)==1) (Ui (o.toNat:Int)) (default:Bool)).bind fun D=>some (bif bif (x.text.length:Int)==1 then D else false then x.kind==x.kind&&(([]:Str)==[]&&(x.num==0&&(x.unit==[]&&(x.flag==false&&true))))else false))=some (delS x.text&&(x.num==0&&(x.unit==[]&& !x.flag))):=by
  have e: ∀(k:Bool->Option Bool),((zA ((x.text.length:Int)==1) (geti x.text 0) (0:UInt8)).bind fun o=>(zA ((x.text.length:Int)==1) (Ui (o.toNat:Int)) (default:Bool)).bind k)=(((zA ((x.text.length:Int)==1) (geti x.text 0) (0:UInt8)).bind fun y=>zA ((x.text.length:Int)==1) (Ui (y.toNat:Int)) (default:Bool))).bind k:=by intro k;rw[Option.bind_assoc]
  rw[e,n,Ba,<-zKF x.text];simp only[ic];cases (x.text.length:Int)==1<;>cases delS x.text<;>cases x.flag<;>rfl
 unfold Uy;simp only[za,nO v,nO h2,zBw,zM,Ba,ge_iff_le];unfold Ir rngS;by_cases B:x.kind=9
 ·simp_all
 clear n q;have E:=Ea.2 B;generalize delS x.text=J;generalize QS x.text=p;generalize QS x.unit=M;generalize Sl x.text=H;generalize c:(x.text==[])=i;generalize d:(x.unit==[])=j;generalize a:(x.num==0)=m;generalize b:x.flag=l;generalize decide (-1000000000000<=x.num)=N;generalize decide (x.num<=1000000000000)=L;generalize (Int.tmod x.num 1000==0)=z;by_cases r:x.kind=1
 ·simp only[r,zZ,Da,Ca,c,d,a,b,Int.reduceBEq];cases p<;>cases i<;>cases j<;>cases m<;>cases l<;>rfl
 by_cases s:x.kind=2
 ·simp only[s,zZ,Da,Ca,c,d,a,b,Int.reduceBEq];cases p<;>cases i<;>cases j<;>cases m<;>cases l<;>rfl
 by_cases t:x.kind=3
 ·simp only[t,zZ,Da,Ca,c,d,a,b,Int.reduceBEq];cases p<;>cases i<;>cases j<;>cases m<;>cases l<;>rfl
 by_cases u:x.kind=4
 ·simp only[u,zZ,Da,Ca,c,d,a,b,Int.reduceBEq]
  grind
 by_cases G:x.kind=5
 ·simp_all
 by_cases F:x.kind=7
 ·simp_all
 by_cases g:x.kind=10
 ·simp only[g,zZ,Da,Ca,c,d,a,b,Int.reduceBEq]
  grind
 by_cases h:x.kind=11
 ·simp only[h,zZ,Da,Ca,c,d,a,b,Int.reduceBEq]
  grind
 by_cases f:x.kind=12
 ·simp only[f,zZ,Da,Ca,c,d,a,b,Int.reduceBEq]
  grind
 simp only[E,Ea.2 r,Ea.2 s,Ea.2 t,Ea.2 u,Ea.2 G,Ea.2 F,Ea.2 g,Ea.2 h,Ea.2 f,zZ,Da,Ca,c,d,a,b,ic,Ef];by_cases w:x.kind=6
 ·simp_all
 by_cases A:x.kind=8
 ·simp_all
 simp only[Ea.2 w,Ea.2 A,zZ,Da,Ca];have e:(decide (1<=x.kind)&&decide (x.kind<=24))=(decide (13<=x.kind)&&decide (x.kind<=24)):=by
  by_cases K:13<=x.kind
  ·grind
  ·grind
 rw[<-e];cases decide (1<=x.kind)<;>cases decide (x.kind<=24)<;>cases i<;>cases j<;>cases m<;>cases l<;>rfl
abbrev Mw:Str:=[32,9,10,12,13,34,39,58,59,44,91,93,40,41,123,125]
theorem nL: ∀(m:Str) (c:UInt8),Lib.index m [c]=Lib.indexByte m c
 |[],c=>rfl
 |b::l,c=>by
  have h:List.isPrefixOf [c] (b::l)=(b==c):=by
   show(c==b&&List.isPrefixOf [] l)=_;rw[List.isPrefixOf,Yb];by_cases e:b=c
   ·subst e;rfl
   ·grind
  rw[Lib.index,Lib.indexByte,h,nL l c]
theorem contains_one(m:Str)(c:UInt8)(a:short m=true:=by decide):strings_Contains (m,[c])=some (m.any fun b=>b==c):=by unfold strings_Contains;simp only[Dn,a,ZU,za,Ba,nL,yK]
theorem I5(c:UInt8):strings_Contains ([32,9,10,12,13,34,39,58,59,44,91,93,40,41,123,125],[c])=some (Mw.any fun b=>b==c):=contains_one Mw c
theorem zGW: ∀n:Nat,n<256->((bif bif !(UInt8.ofNat n==0)then !namN n else false then true else UInt8.ofNat n==45)&&(!(Mw.any fun b=>b==UInt8.ofNat n)))=jl n:=by decide+kernel
theorem zKG(b:UInt8):((bif bif !(b==0)then !namN b.toNat else false then true else b==45)&&(!(Mw.any fun c=>c==b)))=jl b.toNat:=by have:=zGW b.toNat (Ce b);simp_all
theorem zDA(a b:Str):QS (a++b)=(QS a&&QS b):=by unfold QS;grind
theorem PU(n:Int):decide (n<0)= !decide (n>=0):=by
 grind
theorem zNW(g d:Bool)(b c:UInt8):(bif g then namN (bif g then b else c).toNat else d)=bif g then namN b.toNat else d:=by cases g<;>rfl
theorem zDf{x:zk}(h1:x.text.length<=big)(h2:x.unit.length<=big):Np x=some (Ir x):=by
 unfold Np;rw[XE (FW.2 (by grind))];simp only[za,cu,Ba];have hn:decide (Lib.indexByte (x.text++x.unit) (0:Int).toNat.toUInt8<0)=(QS x.text&&QS x.unit):=by rw[PU,Gs,zDA,jd]
 simp only[hn,X8,UA,zM,Ba,ge_iff_le,bne];have hb:=zLe x.text;unfold Ir rngS;by_cases k9:x.kind=9
 ·simp only[k9,Int.reduceBEq,Da,Ca,zZ,Yc,Nc];cases ht:x.text with
  |nil=>
   have:QS ([]:Str)=true:=rfl;simp only[this,Ua];cases QS x.unit<;>rfl
  |cons b r=>
   cases r with
   |nil=>
    have hd:=zKG b;have e1:((([b]:Str).length:Int)==1)=true:=rfl;have e2:geti [b] 0=some b:=rfl;have e3:(([b]:Str)==[45])=(b==45):=by show((b==45)&&true)=_;rw[Yb]
    have e4:QS [b]= !(b==0):=by show((!(b==0))&&true)=_;rw[Yb]
    have e5:delS [b]=jl b.toNat:=rfl;simp only[e1,e2,e3,e4,e5,I5,zAF,zM,Ba,zNW,<-hd];cases hu:x.unit with
    |nil=>
     have:QS ([]:Str)=true:=rfl;simp only[this,Yb];generalize (Mw.any fun c=>c==b)=a1;cases namN b.toNat<;>cases (b==0)<;>cases (b==45)<;>cases a1<;>cases (x.num==0)<;>cases x.flag<;>rfl
    |cons c s=> simp_all
   |cons c r=>
    have e1:(((b::c::r:Str).length:Int)==1)=false:=Ea.2 (by grind);have e3:((b::c::r:Str)==[45])=false:=by show((b==45)&&false)=_;rw[Ac]
    have e5:delS (b::c::r)=false:=rfl;simp only[e1,e3,e5];simp_all
 have b9:=Ea.2 k9;have hu:(x.unit==[])=true->QS x.unit=true:=fun h=>by rw[Bc]at h;rw[h];rfl
 have htx:(x.text==[])=true->QS x.text=true:=fun h=>by rw[Bc]at h;rw[h];rfl
 rw[<-hb];generalize hl45:(x.text==[45])=a11 at*;generalize (List.isPrefixOf [45,45] x.text)=a12 at*;generalize numS x.text=a3 at*;generalize QS x.text=a1 at*;generalize QS x.unit=a2 at*;generalize (x.text==[])=a4 at*;generalize (x.unit==[])=a5 at*;generalize (x.num==0)=a6 at*;generalize x.flag=a7 at*;generalize decide (-1000000000000<=x.num)=a8 at*;generalize decide (x.num<=1000000000000)=a9 at*;generalize (Int.tmod x.num 1000==0)=a10 at*;clear hb hn hl45;have K: ∀k:Int,k∈[1,2,3,4,5,7,10,11,12]->x.kind=k->True:=fun _ _ _=>trivial;clear K;by_cases k1:x.kind=1
 ·simp only[k1,zZ,Da,Ca,Int.reduceBEq]
  grind
 by_cases k2:x.kind=2
 ·simp only[k2,zZ,Da,Ca,Int.reduceBEq]
  grind
 by_cases k3:x.kind=3
 ·simp only[k3,zZ,Da,Ca,Int.reduceBEq]
  grind
 by_cases k4:x.kind=4
 ·simp only[k4,zZ,Da,Ca,Int.reduceBEq]
  grind
 by_cases k5:x.kind=5
 ·simp only[k5,zZ,Da,Ca,Int.reduceBEq]
  grind
 by_cases k7:x.kind=7
 ·simp only[k7,zZ,Da,Ca,Int.reduceBEq]
  grind
 by_cases k10:x.kind=10
 ·simp only[k10,zZ,Da,Ca,Int.reduceBEq]
  grind
 by_cases k11:x.kind=11
 ·simp only[k11,zZ,Da,Ca,Int.reduceBEq]
  grind
 by_cases k12:x.kind=12
 ·simp only[k12,zZ,Da,Ca,Int.reduceBEq]
  grind
 simp only[b9,Ea.2 k1,Ea.2 k2,Ea.2 k3,Ea.2 k4,Ea.2 k5,Ea.2 k7,Ea.2 k10,Ea.2 k11,Ea.2 k12,zZ,Da,Ca,Ef];cases decide (13<=x.kind)<;>cases decide (x.kind<=24)<;>cases a4<;>cases a5<;>cases a6<;>cases a7<;>rfl
theorem Uu {R:Type} {step:Int->Option (LO Int Unit R)} {k:Unit->Option R} (n:Nat) (p:Nat->Bool) (r:R)
  (c: ∀(i:Nat),i<n->step (i:Int)=some (bif p i then .again ((i+1:Nat):Int)else .ret r)) (a:step (n:Int)=some (.out ())):
  Zc step 0 k=bif (List.range n).all p then k ()else some r:=by
 have e:=Z9 (k:=k) (List.range n) (fun i=>bif p i then none else some r) () (fun i b=> ?_) (by simpa using a)
 ·rw[e,Pg]
  grind
 grind
def lm:List zk->Bool
 |[]=>false
 |s::r=>bif s.kind==13 then(match r with|u::_=>u.kind==5|[]=>false)else s.kind==5
def iD:List zk->Bool
 |[]=>false
 |s::_=>s.kind==13
def Yv(t:zk):Bool:=t.kind==2&&lowS t.text==[117,114,108]
def okAt:List zk->Bool
 |[]=>true
 |t::r=>(!(t.kind==9&&t.text==[92])||iD r)&&(!(Yv t)||lm r)
def Nv(l:List zk)(i:Nat):Bool:=Ir (l.getD i default)&&okAt (l.drop i)
def gluS(l:List zk):Int:=bif decide (l.length<=1500)then(bif (List.range l.length).all (Nv l)then 0 else 8)else 4
theorem aK(l:List zk)(i:Nat)(k:Int):Qc (((i:Int),k),l)=some (match l[i]? with|some t=>t.kind==k|none=>false):=by
 unfold Qc;by_cases h:i<l.length
 ·simp only[zY h,Zt,zS h,za,Ba,Da,Ma h]
 ·have e:decide ((i:Int)<(l.length:Int))=false:=Oa (by omega);simp only[e,qF,za,Ba,Ca,List.getElem?_eq_none (Nat.le_of_not_lt h)]
theorem BU:lowS [117,114,108]=[117,114,108]:=by decide
theorem zAG{t:zk}{r:List zk}(h:t.text.length<=big): ∃n:Int,ay (t::r)=some n/\(n==0)= !okAt (t::r):=by
 have e0:geti (t::r) 0=some t:=rfl;have p1:=aK (t::r) 1 13;have p15:=aK (t::r) 1 5;have p25:=aK (t::r) 2 5;unfold ay;simp only[e0,za,Ba,zHl h (show([117,114,108]:Str).length<=big by decide),BU,zM];simp only[Int.natCast_one]at p1 p15;replace p25:Qc ((2,5),t::r)=_:=p25;rw[p1];unfold okAt Yv;cases hd:(t.kind==9&&t.text==[92])with
 |true=>
  have hk:t.kind=9:=by rw[Fa,Bc]at hd;exact hd.1
  have ht:(t.text==[92])=true:=by rw[Fa]at hd;exact hd.2
  simp only[hk,ht,Int.reduceBEq,Da,Ca,Ba];cases r with
  |nil=>exact⟨_,rfl,rfl⟩
  |cons s r=>
   show∃n:Int,(bif !(s.kind==13)then some 0 else some 2)=some n/\(n==0)= !((!true||s.kind==13)&&_);cases s.kind==13
   ·simp_all
   simp_all
 |false=>
  have hc:(bif t.kind==9 then t.text==[92]else false)=false:=by
   cases h9:t.kind==9
   ·rfl
   ·grind
  simp only[hc,hd,Ca,Ra,He,Ua];cases hu:(t.kind==2&&lowS t.text==[117,114,108])with
  |false=>
   have:(bif t.kind==2 then bif t.kind==2 then lowS t.text==[117,114,108]else default else false)=false:=by
    cases h2:t.kind==2
    ·rfl
    ·grind
   rw[this]
   grind
  |true=>
   rw[Fa]at hu;rw[hu.1,hu.2];simp only[Da,Ba];cases r with
   |nil=>exact⟨0,by simp[p15],rfl⟩
   |cons s r=>
    cases hs:s.kind==13 with
    |false=>
     have e1:(match(t::s::r)[1]? with|some t=>t.kind==13|none=>false)=false:=hs;have e5:Qc ((1,5),t::s::r)=some (s.kind==5):=p15;simp only[e1,Ca,zZ,e5,Ba,lm,hs];cases s.kind==5
     ·grind
     ·exact⟨2,by rfl,rfl⟩
    |true=>
     have e1:(match(t::s::r)[1]? with|some t=>t.kind==13|none=>false)=true:=hs;simp only[e1,Da,zZ,p25,Ba,lm,hs];cases r with
     |nil=>grind
     |cons u r=>
      show∃n:Int,(bif !(u.kind==5)then some 0 else some (w64 (2+1)))=some n/\(n==0)= !(!true||u.kind==5);cases u.kind==5
      ·grind
      ·exact⟨3,rfl,rfl⟩
theorem oL(l:List zk):decide ((l.length:Int)>1500)= !decide (l.length<=1500):=Jf _ 1500
theorem zAD{l:List zk}(h: ∀t∈l,t.text.length<=big/\t.unit.length<=big):Ut l=some (gluS l):=by
 unfold Ut gluS;rw[oL];cases e:decide (l.length<=1500)with
 |false=>rfl
 |true=>
  have e:=Fb e;simp only[Va,Ca,Da];refine(Uu l.length (Nv l) 8 (fun i a=> ?_) ?_).trans ?_
  ·obtain⟨d,j⟩:=h _ (Ga a);have b:l.getD i default=l[i]:=by simp[a]
   have c:=Xa a;obtain⟨n,f,k⟩:=zAG (t:=l[i]) (r:=l.drop (i+1)) d;rw[<-c]at f k;have g:decide ((i:Int)<=(l.length:Int))=true:=Ha (by omega);unfold Nv;simp only[zY a,Da,zS a,za,Ba,zDf d j,LK,g,Ua,He,ZU,Lb,f,zM,zK a (show l.length<=big by unfold big;omega),b]
   grind
  ·grind
  grind
theorem XF{α:Type}{l:List α}{i:Nat}{s:α}{r:List α}(h:l.drop i=s::r):i<l.length/\geti l (i:Int)=some s/\l.drop (i+1)=r:=by
 have a:i<l.length:=by
  rcases Fe i l.length with b|b
  ·exact b
  ·rw[List.drop_eq_nil_of_le b]at h;cases h
 rw[Xa a]at h;injection h with d c;exact⟨a,by rw[zS a,d],c⟩
theorem VF{α:Type}{l:List α}{i:Nat}(h:l.drop i=[])(hi:i<=l.length):i=l.length:=by have:=Cc.1 h;omega
theorem CE(n m:Int):decide (n>=m)= !decide (n<m):=by
 grind
theorem zLy{l:List zk}{i:Nat}(hi:i<l.length)(v:l.length<=1500):
  zO (X:=Int) (R:=LX Unit (LO Int Unit Int)) (za (zA (decide (((i+1:Nat):Int)<(l.length:Int))) (geti l ((i+1:Nat):Int)) (default:zk)) fun m=>bif bif decide (((i+1:Nat):Int)<(l.length:Int))then m.kind==13 else false then some (LX.out (w64 (((i+1:Nat):Int)+1)))else some (LX.out ((i+1:Nat):Int)))
   (fun a=>za (zA (!(decide (a>=(l.length:Int)))) (geti l a) (default:zk)) fun h=>bif bif decide (a>=(l.length:Int))then true else h.kind != 5 then some (LX.ret (LO.ret 8))else some (LX.out ()))=bif lm (l.drop (i+1))then some (LX.out ())else some (LX.ret (LO.ret 8)):=by
 cases f:l.drop (i+1)with
 |nil=> have k:=VF f (by omega);have o:decide (((i+1:Nat):Int)<(l.length:Int))=false:=Oa (by omega);have b:decide (((i+1:Nat):Int)>=(l.length:Int))=true:=Ha (by omega);simp only[o,b,qF,za,Ba,Ca,Da,zZ,Va,lm]
 |cons s r=>
  obtain⟨c,e,d⟩:=XF f;have b:decide (((i+1:Nat):Int)>=(l.length:Int))=false:=Oa (by omega);have n:w64 (((i+1:Nat):Int)+1)=((i+1+1:Nat):Int):=zK c (by unfold big;omega);simp only[zY c,Zt,e,za,Ba,Da,n,lm];cases p:s.kind==13 with
  |false=>
   simp only[Ca,zZ,b,Ra,Zt,e,Ba,bne]
   grind
  |true=>
   simp only[Da,zZ];cases r with
   |nil=> have k:=VF d (by omega);simp_all
   |cons u r=>
    obtain⟨t,j,q⟩:=XF d;have g:decide (((i+1+1:Nat):Int)>=(l.length:Int))=false:=Oa (by omega);simp only[g,Ra,Zt,j,Ba,Ca,bne]
    grind
theorem zKH{l:List zk}{i:Nat}(hi:i<l.length)(d:Bool)(A B:Option (LO Int Unit Int)):
  (za (zA (!(((i+1:Nat):Int)==(l.length:Int))&&d) (geti l ((i+1:Nat):Int)) (default:zk)) fun a=>bif bif d then bif ((i+1:Nat):Int)==(l.length:Int)then true else a.kind != 13 else false then A else B)=bif !d||iD (l.drop (i+1))then B else A:=by
 cases d with
 |false=>simp_all
 |true=>
  cases c:l.drop (i+1)with
  |nil=> have h:=VF c (by omega);have b:(((i+1:Nat):Int)==(l.length:Int))=true:=Bc.2 (by omega);simp only[b,Va,jb,qF,za,Ba,Da,iD,Ef,Ca]
  |cons s r=>
   obtain⟨f,e,g⟩:=XF c;have b:(((i+1:Nat):Int)==(l.length:Int))=false:=Ea.2 (by omega);simp only[b,Ra,Ua,Zt,e,za,Ba,Da,iD,Ca,Va,Nc,bne]
   grind
theorem zL2(b:Bool)(t u:zk)(p:zk->Bool):(bif b then p (bif b then t else u)else false)=(b&&p t):=by cases b<;>rfl
theorem HZ(k:kw){l:List zk}(h: ∀t∈l,t.text.length<=big/\t.unit.length<=big):Fq l=some (gluS l):=by
 unfold Fq gluS;rw[oL];cases e:decide (l.length<=1500)with
 |false=>rfl
 |true=>
  have e:=Fb e;simp only[Va,Ca,Da];refine(Uu l.length (Nv l) 8 (fun i a=> ?_) ?_).trans ?_
  ·obtain⟨g,p⟩:=h _ (Ga a);have d:l.getD i default=l[i]:=by simp[a]
   have f:=Xa a;have q:w64 ((i:Int)+1)=((i+1:Nat):Int):=zK a (by unfold big;omega);have m:w64 (((i+1:Nat):Int)+1)=((i+2:Nat):Int):=zK (n:=i+2) (by omega) (by unfold big;omega);unfold Nv;rw[f,d];simp only[zY a,Da,zS a,za,Ba,zBx k g p,q];cases s:Ir l[i]with
   |false=>rfl
   |true=>
    simp only[Va,Ca,zM,Ba,Ua];have j:=zLy a e;have o:=zKH a (l[i].kind==9&&l[i].text==[92]) (some (LO.ret 8)) (some (LO.again ((i+1:Nat):Int)));simp only[za]at j o;have b:(bif l[i].kind==2 then bif l[i].kind==2 then lowS (bif l[i].kind==2 then l[i]else default).text==[117,114,108]else default else false)=Yv l[i]:=by unfold Yv;cases l[i].kind==2<;>rfl
    have r:(zA (l[i].kind==2) (sj ((bif l[i].kind==2 then l[i]else default).text,[117,114,108])) (default:Bool))=some (bif l[i].kind==2 then lowS (bif l[i].kind==2 then l[i]else default).text==[117,114,108]else default):=by
     cases u:l[i].kind==2 with
     |false=>rfl
     |true=> show sj (l[i].text,[117,114,108])=some (lowS l[i].text==[117,114,108]);rw[zJu g (by decide),BU]
    have c:(bif l[i].kind==9 then(bif l[i].kind==9 then l[i]else default).text==[92]else false)=(l[i].kind==9&&l[i].text==[92]):=zL2 (l[i].kind==9) l[i] default fun t=>t.text==[92];simp only[r,Ba,b,c,j,okAt];cases Yv l[i]with
    |false=>
     simp only[Ca,zZ,Ra,He,Yb]
     grind
    |true=>
     simp only[Da,Va,Nc];cases lm (l.drop (i+1))with
     |false=>simp_all
     |true=>
      simp only[Da,zZ,Yb]
      grind
  ·grind
  grind
theorem IZ{l:List zk}(h: ∀t∈l,t.text.length<=big/\t.unit.length<=big):Fq l=some (gluS l):=HZ GZ h
def zL{α:Type}(f:α->List PV)(l:List α):Nat:=ai (l.map f)
theorem Wl{α:Type}(f:α->List PV):zL f []=0:=rfl
theorem Qx{α:Type}(f:α->List PV)(v:α)(l:List α):zL f (v::l)=zI (f v)+zL f l:=rfl
theorem ZW{α:Type}{f:α->List PV}{v:α}: ∀{l:List α},v∈l->zI (f v)<=zL f l
 |[],h=>by cases h
 |x::l,h=>by
  rw[Qx];rcases Db.1 h with rfl|h
  ·omega
  ·have:=ZW (f:=f) h;omega
theorem ZL{α:Type}{f:α->List PV}(a: ∀v,1<=zI (f v)): ∀(l:List α),l.length<=zL f l
 |[]=>Sa _
 |v::l=>by rw[Qx,Pb];have:=ZL a l;grind
theorem dJ{α:Type}{f:α->List PV}{a b:List α}(h:a.Sublist b):zL f a<=zL f b:=by
 induction h with
 |slnil=>grind
 |cons v _ c=>rw[Qx];omega
 |cons_cons v _ c=>rw[Qx,Qx];omega
theorem TS: ∀l:List UInt8,ai (l.map fun y=>[PV.at (.int .u8 ((y.toNat:Nat):Int))])=l.length
 |[]=>rfl
 |b::l=>by have:=TS l;simp only[Sb,ai,zI,bPV,Pb]at this ⊢;omega
theorem zKc(x:ze):zI (Zr x)=6+x.token.text.length+x.token.unit.length+zL Zr x.list:=by rw[BZ];simp only[zI,bPV,zL];omega
mutual
/-- How large values are. -/
def szV:ze->Nat
 |⟨t,l⟩=>1+t.text.length+t.unit.length+szL l
def szL:List ze->Nat
 |[]=>0
 |v::r=>szV v+szL r
end
theorem Dh(v:ze):szV v=1+v.token.text.length+v.token.unit.length+szL v.list:=by obtain⟨t,l⟩:=v;rw[szV]
theorem Vh{v:ze}: ∀{l:List ze},v∈l->szV v<=szL l
 |[],h=>by cases h
 |x::l,h=>by
  rw[szL];rcases Db.1 h with rfl|h
  ·omega
  ·have:=Vh h;omega
theorem ag: ∀(l:List ze),l.length<=szL l
 |[]=>Sa _
 |v::r=>by rw[szL,Dh,Pb];have:=ag r;omega
theorem FE(n:Nat):decide ((n:Int)>0)=decide (0<n):=by
 grind
theorem BG(k:Int):Tq k=some (ZP k):=by
 unfold Tq ZP;by_cases b:k=19
 ·subst b;rfl
 by_cases d:k=21
 ·subst d;rfl
 by_cases c:k=2
 ·subst c;rfl
 by_cases a:k=23
 ·subst a;rfl
 have g:(k==19)=false:=Ea.2 b;have h:(k==21)=false:=Ea.2 d;have e:(k==2)=false:=Ea.2 c;have f:(k==23)=false:=Ea.2 a;simp only[g,h,e,f,Ca,zZ,b,d,c,a,if_false,or_self]
theorem gH(k:Int):yj k=some (ZP k):=by
 unfold yj ZP;by_cases b:k=19
 ·subst b;rfl
 by_cases d:k=21
 ·subst d;rfl
 by_cases c:k=2
 ·subst c;rfl
 by_cases a:k=23
 ·subst a;rfl
 have g:(k==19)=false:=Ea.2 b;have h:(k==21)=false:=Ea.2 d;have e:(k==2)=false:=Ea.2 c;have f:(k==23)=false:=Ea.2 a;simp only[g,h,e,f,Ca,zZ,b,d,c,a,if_false,or_self]
mutual
/-- The depth of values. -/
def lh:ze->Nat
 |⟨t,l⟩=>if ZP t.kind=0 then 0 else 1+Q0 l
def Q0:List ze->Nat
 |[]=>0
 |v::r=>max (lh v) (Q0 r)
end
theorem yU(v:ze):lh v=if ZP v.token.kind=0 then 0 else 1+Q0 v.list:=by obtain⟨t,l⟩:=v;rw[lh]
mutual
theorem zKE: ∀v:ze,lh v<=szV v
 |⟨t,l⟩=>by rw[lh,szV];have:=Rj l;split<;>omega
theorem Rj: ∀l:List ze,Q0 l<=szL l
 |[]=>Sa _
 |v::r=>by rw[Q0,szL];have:=zKE v;have:=Rj r;omega
end
theorem oV(f:ze->Nat): ∀(l:List ze) (a:Nat),l.foldl (fun a v=>max a (f v)) a=max a (l.foldr (fun v a=>max (f v) a) 0)
 |[],a=>by simp
 |v::l,a=>by rw[Je,oV f l,List.foldr_cons];omega
theorem AV: ∀(l:List ze),Q0 l=l.foldr (fun v a=>max (lh v) a) 0
 |[]=>by rw[Q0];rfl
 |v::l=>by rw[Q0,AV l];rfl
theorem Gx{l:List ze}(h:szL l<=big):Qg l=some (Q0 l:Int):=by
 refine ZH (fun l=>szL l) (fun l=>szL l<=big) (fun l=>(Q0 l:Int)) (fun S l n j=> ?_) h;unfold OA;have e:=ag l;refine(Tx l (fun i (a:Nat)=>((a:Int),(i:Int))) (fun v a=>some (.again (max a (lh v)))) (fun a=>some (.out (a:Int))) (a:=0) rfl (fun i a b=> ?_) (fun a=> ?_) (r:= .out (Q0 l:Int)) ?_)
 ·have f:=Vh (Ga b);have k:=Dh l[i];have c:=yU l[i];have g:=Rj l[i].list;simp only[zY b,Da,za,zS b,Ba,BG];by_cases d:ZP l[i].token.kind=0
  ·rw[aa d]at c;simp[d,c,zK b (by omega)]
  ·rw[Ab d]at c;rw[j l[i].list (by omega) (by omega)];have m:w64 (1+(Q0 l[i].list:Int))=((1+Q0 l[i].list:Nat):Int):=by rw[w64,Z6 (by omega) (by grind)];omega
   simp only[Eg.2 d,Da,Ba,zZ,zK b (by omega),m,c,Wd]
   grind
 ·grind
 ·rw[ik (fun a v=>max a (lh v)) (fun v a=>rfl),oV,<-AV];simp
theorem Fx{l:List ze}: ∀{i:Nat} (h:i<l.length),szL (l.take (i+1))=szL (l.take i)+szV l[i]:=by
 induction l with
 |nil=>grind
 |cons v r a=>
  intro i h;cases i with
  |zero=>simp[szL]
  |succ i=>
   simp only[Ld,szL,List.getElem_cons_succ]
   grind
theorem Fz(l:List ze)(i:Nat):szL (l.take i)<=szL l:=by
 induction l generalizing i with
 |nil=>simp
 |cons v r a=>
  cases i with
  |zero=>simp[szL]
  |succ i=>simp only[Ld,szL];grind
mutual
/-- The tokens of values. -/
def tokV:ze->List zk
 |⟨t,l⟩=>t::if ZP t.kind=0 then []else tokL l++[⟨ZP t.kind,[],0,[],false⟩]
def tokL:List ze->List zk
 |[]=>[]
 |v::r=>tokV v++tokL r
end
theorem JE(v:ze):tokV v=v.token::if ZP v.token.kind=0 then []else tokL v.list++[⟨ZP v.token.kind,[],0,[],false⟩]:=by obtain⟨t,l⟩:=v;rw[tokV]
mutual
theorem Cs: ∀v:ze,(tokV v).length<=2*szV v
 |⟨t,l⟩=>by
  rw[tokV,szV];have:=Oo l
  grind
theorem Oo: ∀l:List ze,(tokL l).length<=2*szL l
 |[]=>Sa _
 |v::r=>by rw[tokL,szL,Bb];have:=Cs v;have:=Oo r;omega
end
theorem yx: ∀(l:List ze) (a:List zk),l.foldl (fun a v=>a++tokV v) a=a++tokL l
 |[],a=>by simp[tokL]
 |v::l,a=>by rw[Je,yx l,tokL,Df]
theorem JM{l:List ze}(h:szL l<=big):Qz l=some (tokL l):=by
 refine ZH (fun l=>szL l) (fun l=>szL l<=big) (fun l=>tokL l) (fun S l j o=> ?_) h;unfold LB;have f:=ag l;refine(Dp l (fun i (a:List zk)=>((i:Int),a)) (fun v a=>some (.again (a++tokV v))) (fun a=>some (.out a)) (fun i a=>a.length<=2*szL (l.take i)) (a:=[]) rfl (by simp) (fun i a c u=> ?_) (fun a _=> ?_) (r:= .out (tokL l)) ?_)
 ·have g:=Vh (Ga c);have t:=Dh l[i];have d:=JE l[i];have k:=Oo l[i].list;have w:=Fx c;have q:=Fz l (i+1);have s:=Cs l[i];unfold big at j;have b: ∀n m:Nat,n+m<=100000000->Zb n m 56=true:=fun n m h=>Nj (by omega);refine⟨?_,fun x y=> ?_⟩
  ·simp only[zY c,Da,za,zS c,Ba,BG];by_cases e:ZP l[i].token.kind=0
   ·rw[aa e]at d;simp[e,d,zK c (by unfold big;omega),b a.length 1 (by omega)]
   ·rw[Ab e]at d;rw[o l[i].list (by unfold big;omega) (by omega)];have p:(ZP l[i].token.kind != 0)=true:=Eg.2 e;simp[p,d,zK c (by unfold big;omega),b a.length 1 (by omega),b (a.length+1) (tokL l[i].list).length (by omega),b (a.length+((tokL l[i].list).length+1)) 1 (by omega)]
  ·grind
 ·grind
 ·rw[ik (fun a v=>a++tokV v) (fun v a=>rfl),yx];simp
mutual
/-- Whether lists are those of blocks, and have not their closers. -/
def shV:ze->Int->Bool
 |⟨t,l⟩,c=> !((ZP t.kind==0&&decide (0<l.length))||(c != 0&&t.kind==c)||(ZP t.kind != 0&& !(shL l (ZP t.kind))))
def shL:List ze->Int->Bool
 |[],_=>true
 |v::r,c=>shV v c&&shL r c
end
theorem aS(v:ze)(c:Int):shV v c= !((ZP v.token.kind==0&&decide (0<v.list.length))||(c != 0&&v.token.kind==c)||(ZP v.token.kind != 0&& !(shL v.list (ZP v.token.kind)))):=by obtain⟨t,l⟩:=v;rw[shV]
theorem zHo{l:List ze}{c:Int}(h:szL l<=big):Q6 (l,c)=some (shL l c):=by
 refine ZH (fun x:List ze×Int=>szL x.1) (fun x=>szL x.1<=big) (fun x=>shL x.1 x.2) (fun S x A q=> ?_) h;obtain⟨l,c⟩:=x;simp only at A q ⊢;unfold JB;have m:=ag l;have f: ∀l:List ze,Ng (fun v (_:Unit)=>if shV v c=true then some (.again ())else some (.ret false)) (fun _=>some (.out ())) l ()=some (if shL l c=true then .out ()else .ret false):=by
  intro l
  induction l with
  |nil=>simp[Ng,shL]
  |cons v r y=>
   by_cases n:shV v c=true
   ·simpa [Ng,shL,n] using y
   ·simp[Ng,shL,n]
 refine(Tx l (fun i (_:Unit)=>(i:Int)) (fun v (_:Unit)=>if shV v c=true then some (.again ())else some (.ret false)) (fun _=>some (.out ())) (a:=()) rfl (fun i a d=> ?_) (fun a=> ?_) (f l)).trans ?_
 ·have C:=Vh (Ga d);have w:=Dh l[i];have z:=aS l[i] c;simp only[zY d,Da,za,zS d,Ba,BG];have g:szL l[i].list<=big:=by omega
  have j:szL l[i].list<szL l:=by omega
  have e: ∀b,S (l[i].list,b)=some (shL l[i].list b):=fun b=>q (l[i].list,b) g j;rw[z];have o:decide ((l[i].list.length:Int)>0)=decide (0<l[i].list.length):=FE _;have B:=zK d (by omega);simp only[bne,o];rcases Ub (ZP l[i].token.kind==0)with k|k<;>rcases Ub (decide (0<l[i].list.length))with u|u<;>rcases Ub (c==0)with s|s<;>rcases Ub (l[i].token.kind==c)with p|p<;>rcases Ub (shL l[i].list (ZP l[i].token.kind))with t|t<;>
   simp only[e,o,k,u,s,p,t,B,Da,Ca,Va,Ra,Yb,Ac,Ua,jb,Bool.or_true,Yc,He,Nc,Zt,qF,Ba,jg,if_false,Wd,Gg]
 ·grind
 ·cases h:shL l c<;>simp
def Kk(l:List ze)(c:Int):zU:=⟨Q0 l,(tokL l).length, !(shL l c)⟩
theorem gV(c:Int): ∀(l:List ze) (a:Nat×Nat×Bool),l.foldl (fun a v=>(max a.1 (lh v),a.2.1+(tokV v).length,a.2.2|| !(shV v c))) a=(max a.1 (Q0 l),a.2.1+(tokL l).length,a.2.2|| !(shL l c))
 |[],a=>by simp[Q0,tokL,shL]
 |v::l,a=>by
  rw[Je,gV c l,Q0,tokL,shL,Bb];simp only[Prod.mk.injEq]
  grind
theorem zMf(a b:Bool):(bif a then true else b)=(a||b):=by cases a<;>rfl
theorem zKw(a b:Bool):(bif a then b else false)=(a&&b):=by cases a<;>rfl
theorem MN{l:List ze}{c:Int}(h:szL l<=big):Ni (l,c)=some (Kk l c):=by
 refine ZH (fun x:List ze×Int=>szL x.1) (fun x=>szL x.1<=big) (fun x=>Kk x.1 x.2) (fun S x C E=> ?_) h;obtain⟨l,c⟩:=x;simp only at C E ⊢;unfold uy;have B:=ag l;refine(Dp l (fun i (a:Nat×Nat×Bool)=>((i:Int),(⟨(a.1:Int),(a.2.1:Int),a.2.2⟩:zU))) (fun v a=>some (.again (max a.1 (lh v),a.2.1+(tokV v).length,a.2.2|| !(shV v c)))) (fun a=>some (.out (⟨(a.1:Int),(a.2.1:Int),a.2.2⟩:zU))) (fun i a=>a.2.1<=2*szL (l.take i)) (a:=(0,0,false)) rfl (by simp) (fun i a j J=> ?_) (fun a _=> ?_) (r:= .out (Kk l c)) ?_)
 ·have N:=Vh (Ga j);have H:=Dh l[i];have m:=yU l[i];have O:=Rj l[i].list;have o:=JE l[i];have P:=Oo l[i].list;have e:=aS l[i] c;have K:=Fx j;have G:=Fz l (i+1);have Q:=Cs l[i];have w:szL l[i].list<=big:=by omega
  have y:szL l[i].list<szL l:=by omega
  have p:S (l[i].list,ZP l[i].token.kind)=some (Kk l[i].list (ZP l[i].token.kind)):=E (l[i].list,ZP l[i].token.kind) w y;obtain⟨d,n,b⟩:=a;simp only at J;have D:=zK j (by omega);unfold big at C;have u:w64 ((n:Int)+1)=((n+1:Nat):Int):=by rw[w64,Z6 (by omega) (by omega)];omega
  refine⟨?_,fun R T=> ?_⟩
  ·have L:decide ((l[i].list.length:Int)>0)=decide (0<l[i].list.length):=FE _;simp only[zY j,Da,za,zS j,Ba,gH,Wd,u,bne,L,zMf,zKw];by_cases k:ZP l[i].token.kind=0
   ·rw[aa k]at m o;simp only[k,ic,Ua,Va,jb,Yc,bne]at e ⊢;rw[e,m,o];rcases Ub (decide (0<l[i].list.length))with F|F<;>rcases Ub (c==0)with g|g<;>rcases Ub (l[i].token.kind==c)with f|f<;>
     simp[F,g,f,D,Da,Ca]
   ·rw[Ab k]at m o;have s:(ZP l[i].token.kind==0)=false:=Ea.2 k;have z:w64 ((Q0 l[i].list:Int)+1)=((1+Q0 l[i].list:Nat):Int):=by rw[w64,Z6 (by omega) (by omega)];omega
    have t:w64 (((n+1:Nat):Int)+((tokL l[i].list).length:Int))=((n+1+(tokL l[i].list).length:Nat):Int):=by rw[w64,Z6 (by omega) (by omega)];omega
    have A:w64 (((n+1+(tokL l[i].list).length:Nat):Int)+1)=((n+(1+((tokL l[i].list).length+1)):Nat):Int):=by rw[w64,Z6 (by omega) (by omega)];omega
    have q:(tokV l[i]).length=1+((tokL l[i].list).length+1):=by rw[o];simp;omega
    have M:(if((1+Q0 l[i].list:Nat):Int)>(d:Int)then((1+Q0 l[i].list:Nat):Int)else(d:Int))=((max d (1+Q0 l[i].list):Nat):Int):=by split<;>omega
    rw[e,m,q];simp only[s,p,jb,Ra,Ua,Yc,Nc,Ca,bne,Ba,Kk];rcases Ub (c==0)with g|g<;>rcases Ub (l[i].token.kind==c)with f|f<;>
     simp only[g,f,D,z,t,A,M,Da,Ca,zZ,Va,Ra,Ua,Yb,Ac,jb,Bool.or_true,Yc,He,Nc,jd]
  grind
 ·grind
 ·rw[ik (fun a v=>(max a.1 (lh v),a.2.1+(tokV v).length,a.2.2|| !(shV v c))) (fun v a=>rfl),gV];simp[Kk]
theorem vT{a b:List ze}(h:a.Sublist b):szL a<=szL b:=by
 induction h with
 |slnil=>grind
 |cons v _ c=>rw[szL];omega
 |cons_cons v _ c=>rw[szL,szL];omega
theorem nM(l:List ze):l=[]\/ ∃t v,l=t++[v]:=by
 rcases List.eq_nil_or_concat l with h|⟨t,v,h⟩
 ·exact .inl h
 grind
def isSp(v:ze):Bool:=v.token.kind==13
def trimB(l:List ze):List ze:=(l.reverse.dropWhile isSp).reverse
theorem EG(t:List ze)(v:ze):trimB (t++[v])=if isSp v then trimB t else t++[v]:=by
 unfold trimB;rw[List.reverse_append];simp only[List.reverse_cons,List.reverse_nil,Ad,Gd,Te]
 grind
theorem zJ7(l:List ze):(trimB l).Sublist l:=by
 unfold trimB
 grind
def trimS(l:List ze):List ze:=trimB (l.dropWhile isSp)
theorem zFs{l:List ze}(h:szL l<=big):dA l=some (trimS l):=by
 unfold dA;refine(Wh (r:= .out (l.dropWhile isSp)) (RF (fun s=>s.dropWhile isSp=l.dropWhile isSp) (fun s=>s.length) _ (fun s c=> ?_) rfl)).trans ?_
 ·cases s with
  |nil=>simp_all
  |cons v t=>
   have e:decide (((v::t).length:Int)>0)=true:=by rw[FE];simp
   have f:geti (v::t) 0=some v:=rfl;have n:decide ((1:Int)<=((v::t).length:Int))=true:=by simp;omega
   rw[Te]at c;cases b:isSp v with
   |true=> rw[b]at c;unfold isSp at b;simp_all
   |false=> rw[b]at c;unfold isSp at b;refine .inr (.inl ⟨v::t,?_,by rw[<-c];rfl⟩);simp only[e,f,Zt,za,Ba,b,Da,Ca]
 ·rw[zIp];have i:szL (l.dropWhile isSp)<=big:=Kb (vT (List.dropWhile_sublist _)) h;unfold trimS;generalize l.dropWhile isSp=d at i;refine(Wh (r:= .out (trimB d)) (RF (fun s=>trimB s=trimB d/\szL s<=big) (fun s=>s.length) _ (fun s c=> ?_) ⟨rfl,i⟩)).trans ?_
  ·rcases nM s with rfl|⟨t,v,rfl⟩
   ·exact .inr (.inl ⟨[],by simp,by rw[<-c.1];rfl⟩)
   ·have g:=ag (t++[v]);have k:(t++[v]).length=t.length+1:=by simp
    have m:=c.2;unfold big at m;have e:decide (((t++[v]).length:Int)>0)=true:=by rw[FE];simp
    have j:w64 (((t++[v]).length:Int) - 1)=(t.length:Int):=by rw[w64,Z6 (by omega) (by omega)];omega
    have f:geti (t++[v]) (t.length:Int)=some v:=by rw[zS (by omega)];simp
    have n:(decide ((0:Int)<=(t.length:Int))&&decide ((t.length:Int)<=((t++[v]).length:Int)))=true:=by simp;omega
    have a:=c.1;rw[EG]at a;cases b:isSp v with
    |true=> rw[aa b]at a;unfold isSp at b;refine .inl ⟨t,?_,⟨a,Kb (vT (List.sublist_append_left t [v])) c.2⟩,by simp⟩;simp_all
    |false=> rw[Ab (by rw[b];simp)]at a;unfold isSp at b;refine .inr (.inl ⟨t++[v],?_,by rw[<-a]⟩);simp only[e,j,f,Zt,za,Ba,b,Da,Ca]
  ·rw[zIp]
def errS(l:List ze):Int:=if 16<Q0 l then 20 else if 1500<(tokL l).length then 4 else if shL l 0 then 0 else 8
theorem zJw{l:List ze}(h:szL l<=big):Tz l=some (errS l):=by
 unfold Tz errS;simp only[za,Gx h,JM h,zHo h,Ba]
 grind
theorem LM{l:List ze}(h:szL l<=big):Rt l=some (errS l):=by
 unfold Rt errS;simp only[za,MN h,Ba,Kk]
 grind
theorem gF{l:List ze}(h:szL l<=big):jk l=some (if errS l=0 then((Q0 l:Int),0)else(0,errS l)):=by
 unfold jk;simp only[za,LM h,MN h,Ba,Kk]
 grind
theorem Rh: ∀l:List ze,szL l<=zL Zr l:=by
 have a: ∀(n:Nat) (l:List ze),zL Zr l<n->szL l<=zL Zr l:=by
  intro n
  induction n with
  |zero=>intro l h;omega
  |succ n d=>
   intro l
   induction l with
   |nil=>intro _;rw[szL];grind
   |cons v l b=>
    intro h;rw[Qx]at h ⊢;rw[szL,Dh];have c:=zKc v
    grind
 grind
theorem zKL{l:List ze}{a:List zk}(h:szL l<=big)(e:a.length+2*szL l<=4*big):uj (l,a)=some (a++tokL l):=by
 refine ZH (fun z=>szL z.1) (fun z=>szL z.1<=big/\z.2.length+2*szL z.1<=4*big) (fun z=>z.2++tokL z.1) (fun S z q s=> ?_) (x:=(l,a)) ⟨h,e⟩;obtain⟨l,a⟩:=z;obtain⟨h,e⟩:=q;have h:szL l<=big:=h;have e:a.length+2*szL l<=4*big:=e;have j:=ag l;unfold nA;refine(Dp l (fun i (b:List zk)=>((i:Int),b)) (fun v b=>some (.again (b++tokV v))) (fun b=>some (.out b)) (fun i b=>b.length<=a.length+2*szL (l.take i)) (a:=a) rfl (by simp) (fun i b d A=> ?_) (fun b _=> ?_) (r:= .out (a++tokL l)) ?_).trans rfl
 ·have o:=Vh (Ga d);have y:=Dh l[i];have f:=JE l[i];have p:=Oo l[i].list;have B:=Fx d;have u:=Fz l (i+1);have w:=Cs l[i];unfold big at h e;have c: ∀n m:Nat,n+m<=100000000->Zb n m 56=true:=fun n m h=>Nj (by omega);refine⟨?_,fun C k=> ?_⟩
  ·simp only[zY d,Da,za,zS d,Ba,gH];by_cases g:ZP l[i].token.kind=0
   ·rw[aa g]at f;simp[g,f,zK d (by unfold big;omega),c b.length 1 (by omega)]
   ·rw[Ab g]at f;rw[s (l[i].list,b++[l[i].token]) ⟨by grind,by grind⟩ (by grind)];have t:(ZP l[i].token.kind != 0)=true:=Eg.2 g;simp[t,f,zK d (by unfold big;omega),c b.length 1 (by omega),c (b.length+((tokL l[i].list).length+1)) 1 (by omega)]
  ·grind
 ·grind
 ·rw[ik (fun a v=>a++tokV v) (fun v a=>rfl),yx]
theorem zKK{l:List ze}(h:szL l<=big):wy l=some (tokL l):=by
 have g:=ag l;unfold wy;refine(Dp l (fun i (b:List zk)=>((i:Int),b)) (fun v b=>some (.again (b++tokV v))) (fun b=>some (.out b)) (fun i b=>b.length<=2*szL (l.take i)) (a:=[]) rfl (by simp) (fun i b d u=> ?_) (fun b _=> ?_) (r:= .out (tokL l)) ?_).trans rfl
 ·have k:=Vh (Ga d);have t:=Dh l[i];have e:=JE l[i];have o:=Oo l[i].list;have w:=Fx d;have q:=Fz l (i+1);have s:=Cs l[i];unfold big at h;have c: ∀n m:Nat,n+m<=100000000->Zb n m 56=true:=fun n m h=>Nj (by omega);refine⟨?_,fun x j=> ?_⟩
  ·simp only[zY d,Da,za,zS d,Ba,gH];by_cases f:ZP l[i].token.kind=0
   ·rw[aa f]at e;simp[f,e,zK d (by unfold big;omega),c b.length 1 (by omega)]
   ·rw[Ab f]at e;rw[zKL (a:=b++[l[i].token]) (show szL l[i].list<=big by unfold big;omega) (by grind)];have p:(ZP l[i].token.kind != 0)=true:=Eg.2 f;simp[p,e,zK d (by unfold big;omega),c b.length 1 (by omega),c (b.length+((tokL l[i].list).length+1)) 1 (by omega)]
  ·grind
 ·grind
 ·rw[ik (fun a v=>a++tokV v) (fun v a=>rfl),yx];simp
theorem zDx{l:List ze}(h:szL l<=big):Jy l=some (if errS l=0 then(tokL l,0)else([],errS l)):=by
 unfold Jy;simp only[LM h,za,Ba];by_cases he:errS l=0
 ·have:(errS l != 0)=false:=by rw[he];rfl
  rw[this,Ca,zKK h,aa he];rfl
 grind
end Go.Lv.VT

namespace Go.Lv
theorem Le.lp{S X R:Type}{step step':S->Option (LO S X R)}{s:S}{k k':X->Option R}(h: ∀s,Le (step s) (step' s))(hk: ∀x,Le (k x) (k' x)):Le (Zc step s k) (Zc step' s k'):=by
 intro y hy;unfold Zc at hy;cases hl:xg step s with
 |none=>rw[hl]at hy;cases hy
 |some r=>
  rw[hl]at hy;obtain⟨n,hn⟩:=TM hl;rw[Wh (Jh (gL h n s r hn))];cases r with
  |out x=>exact hk x y hy
  |ret r=>exact hy
def bi{X Y:Type}(B:(X->Option Y)->X->Option Y):Prop:= ∀S S':X->Option Y,(∀x,Le (S x) (S' x))-> ∀x,Le (B S x) (B S' x)
theorem ak {X Y:Type} {B:(X->Option Y)->X->Option Y} (hm:bi B) (μ:X->Nat) (ok:X->Prop) (R:X->Y->Prop)
  (hB: ∀(S:X->Option Y) (x:X),ok x->(∀z,ok z->μ z<μ x-> ∃y,S z=some y/\R z y)-> ∃y,B S x=some y/\R x y) {x:X} (hx:ok x): ∃y,recE B x=some y/\R x y:=by
 have step: ∀n x,Le (Ue B n x) (Ue B (n+1) x):=by
  intro n
  induction n with
  |zero=>intro x;exact Le.none
  |succ n ih=>intro x;exact hm _ _ ih x
 have up: ∀d n x,Le (Ue B n x) (Ue B (n+d) x):=by
  intro d
  induction d with
  |zero=>intro n x;exact Le.rfl
  |succ d ih=>intro n x y hy;exact step _ x y (ih n x y hy)
 have key: ∀(m:Nat) (x:X),μ x<m->ok x-> ∃y,Ue B m x=some y/\R x y:=by
  intro m
  induction m with
  |zero=>intro x h;omega
  |succ m ih=> intro x hm hok;exact hB _ x hok fun z hz hlt=>ih z (by omega) hz
 obtain⟨y,h1,h2⟩:=key (μ x+1) x (by omega) hx;refine⟨y,WK (N:=μ x+1) fun n hn=> ?_,h2⟩;obtain⟨d,rfl⟩:=Nat.le.dest hn;exact up d _ x y h1
theorem Bt {A S X R:Type} {step:S->Option (LO S X R)} {k:X->Option R} (n:Nat) (st:Nat->A->S) (Inv:Nat->A->Prop) (Q:R->Prop) {s0:S} {a0:A} (h0:s0=st 0 a0) (hI:Inv 0 a0)
  (hg: ∀(i:Nat) (a:A),i<n->Inv i a->(∃a',step (st i a)=some (.again (st (i+1) a'))/\Inv (i+1) a')\/(∃r,step (st i a)=some (.ret r)/\Q r)\/(∃x,step (st i a)=some (.out x)/\ ∃r,k x=some r/\Q r))
  (hf: ∀a,Inv n a->(∃x,step (st n a)=some (.out x)/\ ∃r,k x=some r/\Q r)\/(∃r,step (st n a)=some (.ret r)/\Q r)): ∃r,Zc step s0 k=some r/\Q r:=by
 have key: ∀(m i:Nat) (a:A),i+m=n->Inv i a-> ∃j x,qz step j (st i a)=some x/\ ∃r,LX.go x k=some r/\Q r:=by
  intro m
  induction m with
  |zero=>
   intro i a hi ha;obtain rfl:i=n:=by omega
   rcases hf a ha with⟨x,h1,r,h2,h3⟩|⟨r,h1,h2⟩
   ·exact⟨1, .out x,by simp only[qz,h1],r,h2,h3⟩
   ·exact⟨1, .ret r,by simp only[qz,h1],r,rfl,h2⟩
  |succ m ih=>
   intro i a hi ha;rcases hg i a (by omega) ha with⟨a',h1,h2⟩|⟨r,h1,h2⟩|⟨x,h1,r,h2,h3⟩
   ·obtain⟨j,x,g1,g2⟩:=ih (i+1) a' (by omega) h2;exact⟨j+1,x,by simp only[qz,h1];exact g1,g2⟩
   ·exact⟨1, .ret r,by simp only[qz,h1],r,rfl,h2⟩
   ·exact⟨1, .out x,by simp only[qz,h1],r,h2,h3⟩
 obtain⟨j,x,h1,r,h2,h3⟩:=key n 0 a0 (by omega) hI;refine⟨r,?_,h3⟩;rw[h0,Wh (Jh h1),h2]
namespace VT
def mx{α:Type}(f:α->Nat):List α->Nat
 |[]=>0
 |v::l=>max (f v) (mx f l)
theorem Jj {α S X R:Type} {step:S->Option (LO S X R)} {k:X->Option R} (l:List α) (f:α->Nat) (st:Nat->Nat->S) (out:Nat->X) {s0:S} {a0:Nat} (h0:s0=st a0 0)
  (hg: ∀(i a:Nat) (h:i<l.length),step (st a i)=some (.again (st (max a (f l[i])) (i+1))))
  (hf: ∀a:Nat,step (st a l.length)=some (.out (out a))):Zc step s0 k=k (out (max a0 (mx f l))):=by
 have key: ∀(m:List α) (i a:Nat),l.drop i=m->i<=l.length-> ∃n,qz step n (st a i)=some (.out (out (max a (mx f m)))):=by
  intro m
  induction m with
  |nil=>
   intro i a hd hi;have:i=l.length:=by have:=Cc.1 hd;omega
   subst this;exact⟨1,by simp only[qz,hf,mx];rw[Nat.max_zero]⟩
  |cons v m ih=>
   intro i a hd hi;have hlt:i<l.length:=by
    rcases Fe i l.length with h|h
    ·exact h
    ·rw[List.drop_eq_nil_of_le h]at hd;cases hd
   have hv:l[i]=v:=by have:=Xa hlt;rw[hd]at this;injection this with h1 _;exact h1.symm
   have hs:=hg i a hlt;rw[hv]at hs;obtain⟨n,hn⟩:=ih (i+1) (max a (f v)) (by rw[Xa hlt]at hd;injection hd) (by omega);refine⟨n+1,?_⟩;simp only[qz,hs];rw[hn,mx,Nat.max_assoc]
 obtain⟨n,hn⟩:=key l 0 a0 rfl (by omega);rw[h0,Wh (Jh hn)];rfl
theorem Bh(a b:Nat):(if(b:Int)>(a:Int)then(b:Int)else(a:Int))=((max a b:Nat):Int):=by split<;>omega
end VT
end Go.Lv

namespace Go.Lv.VT
set_option maxRecDepth 100000
theorem ZJ{α:Type}(l:List α):((l.length:Int)==0)=l.isEmpty:=by
 cases l with
 |nil=>rfl
 |cons a l=>exact Ea.2 (by simp only[Pb];omega)
theorem Oy(v:ze):(⟨v.token,v.list⟩:ze)=v:=by cases v;rfl
def Lh(x:Str):Bool:= !(x==[])&&(decide (x.length<=64)&&(QS x&&(bif List.isPrefixOf [45,45] x then !(x==[45,45])else lowS x==x)))
theorem zAn{x:Str}(h:x.length<=big):iy x=some (Lh x):=by
 have e:decide ((x.length:Int)>64)= !decide (x.length<=64):=Jf _ 64;have e1:decide (Lib.indexByte x (0:Int).toNat.toUInt8>=0)= !QS x:=Gs x;have ec:=Fy x (lowS x);unfold iy Lh;simp only[cu,zM,za,Ba,UA,Du h,e,ec];cases x==[]<;>cases decide (x.length<=64)<;>try rfl
 simp only[Da,Ca,Va,Ra,Ua,Yc,e1];cases QS x<;>cases List.isPrefixOf [45,45] x<;>rfl
theorem lU(x:Str):(bif decide ((x.length:Int)>=2)then List.take 2 x==[45,45]else false)=List.isPrefixOf [45,45] x:=by
 cases x with
 |nil=>rfl
 |cons a x=>
  cases x with
  |nil=>show(bif decide _ then _ else _)=((45==a)&&false);rw[Ac];rfl
  |cons b x=> have:decide ((((a::b::x:Str)).length:Int)>=2)=true:=Ha (by simp only[Pb];omega);rw[this];show((a==45)&&((b==45)&&true))=((45==a)&&((45==b)&&true));rw[Bool.beq_comm (a:=a),Bool.beq_comm (a:=b)]
theorem mU{x:Str}(h:List.isPrefixOf [45,45] x=true):decide ((x.length:Int)>2)= !(x==[45,45]):=by
 obtain⟨t,rfl⟩:=List.isPrefixOf_iff_prefix.1 h;cases t with
 |nil=>rfl
 |cons a t=> have:decide ((([45,45]++a::t:Str).length:Int)>2)=true:=Ha (by simp only[Bb,Pb];omega);rw[this];rfl
theorem EZ{x:Str}(h:x.length<=big):Sz x=some (Lh x):=by
 have e:decide ((x.length:Int)>64)= !decide (x.length<=64):=Jf _ 64;have en:decide ((x.length:Int)<1)=(x==[]):=by cases x with
  |nil=>rfl
  |cons a x=>exact Oa (by simp only[Pb];omega)
 have ec:=Fy x (lowS x);have hk:(need (decide ((2:Int)<=(x.length:Int))|| !(decide ((x.length:Int)>=2)))<|
   bif bif decide ((x.length:Int)>=2)then List.take 2 x==[45,45]else false then some (decide ((x.length:Int)>2))else za (QK x) fun y4=>some (x==y4))=some (bif List.isPrefixOf [45,45] x then !(x==[45,45])else lowS x==x):=by
  have e2:(decide ((2:Int)<=(x.length:Int))|| !(decide ((x.length:Int)>=2)))=true:=by show(decide _|| !decide ((2:Int)<=_))=true;cases decide ((2:Int)<=(x.length:Int))<;>rfl
  rw[e2,ZU,lU];cases hp:List.isPrefixOf [45,45] x with
  |true=>rw[Da,Da,mU hp]
  |false=>simp only[Ca,Ht h,za,Ba,ec]
 unfold Sz Lh;rw[hk];have hl: ∀b:Bool,Zc (fun(s1:Int)=>bif decide (s1<(x.length:Int))then
    za (geti x s1) fun y2=>bif (y2.toNat:Int)==0 then some (LO.ret false)else some (LO.again (w64 (s1+1)))
   else some (LO.out ()):Int->Option (LO (Int) (Unit) _)) 0 (fun _=>some b)=some (QS x&&b):=by
  intro b;refine(Z9 x (fun b=>bif (!(b==0))then none else some false) () (fun i hi=> ?_) ?_).trans ?_
  ·simp only[zY hi,Da,zS hi,za,Ba,byte_zero,zK hi h];cases x[i]==0<;>rfl
  ·simp only[zV,Ca]
  ·rw[Pg];unfold QS;cases x.all (fun b=> !(b==0))<;>rfl
 rw[hl,e,en];cases x==[]<;>cases decide (x.length<=64)<;>rfl
def clK(v:ze):Bool:=v.token.kind==20||(v.token.kind==22||v.token.kind==24)
mutual
def clV:ze->Bool
 |⟨t,l⟩=>clK ⟨t,l⟩||clL l
def clL:List ze->Bool
 |[]=>false
 |v::r=>clV v||clL r
end
theorem OT(v:ze):clV v=(clK v||clL v.list):=by obtain⟨t,l⟩:=v;rw[clV]
theorem RU(l:List ze):clL l=l.any clV:=by
 induction l with
 |nil=>rw[clL];rfl
 |cons v l ih=>rw[clL,ih];rfl
theorem E8{l:List ze}(h:szL l<=big):Zn l=some (clL l):=by
 refine ZH (fun l=>szL l) (fun l=>szL l<=big) (fun l=>clL l) (fun S l hl hS=> ?_) h;have hlen:=ag l;unfold UB BJ lI;have:=Oj (Kj (step:=fun(s1:Int)=>
   bif decide (s1<(l.length:Int))then
    za (geti l s1) fun y2=>
    za (Dv S (⟨y2.token,y2.list⟩:ze)) fun y3=>
    bif y3 then some (LO.ret s1)else some (LO.again (w64 (s1+1)))
   else some (LO.out ())) l clV (by omega) (fun i hi=> ?_) ?_) (Ki _ _)
 ·rw[this,RU];rfl
 ·have hsz:=Vh (Ga hi);have hv2:=Dh l[i];have hs:=hS l[i].list (by omega) (by omega);have:Dv S l[i]=some (clV l[i]):=by unfold Dv QE;simp only[Oy,zM,za,Ba,hs,OT,clK];cases l[i].token.kind==20<;>cases l[i].token.kind==22<;>cases l[i].token.kind==24<;>rfl
  simp only[zY hi,Da,zS hi,za,Ba,Oy,this]
 ·simp only[zV,Ca]
theorem O9{l:List ze}(h:szL l<=big):Qu l=some (clL l):=by
 refine ZH (fun l=>szL l) (fun l=>szL l<=big) (fun l=>clL l) (fun S l hl hS=> ?_) h;have hlen:=ag l;unfold EC;refine(Z9 l (fun v=>bif clV v then some true else none) () (fun i hi=> ?_) ?_).trans ?_
 ·have hsz:=Vh (Ga hi);have hv2:=Dh l[i];have hs:=hS l[i].list (by omega) (by omega);simp only[zY hi,Da,zS hi,za,Ba,OT,clK,zK hi (show l.length<=big by omega)];cases h1:l[i].token.kind==20<;>cases h2:l[i].token.kind==22<;>cases h3:l[i].token.kind==24<;>
   first|rfl|(simp only[Ca,Ra,Zt,Ba,hs,Nc];cases clL l[i].list<;>rfl)
 ·simp only[zV,Ca]
 ·rw[JL,RU];cases l.any clV<;>rfl
def Vl(l:List ze):Bool:=match l with
 |[]=>false
 |v::r=>isSp v||isSp ((v::r).getLast (by simp))
theorem zGY(t:List ze)(v:ze):Vl (t++[v])=((match t with|[]=>isSp v|a::_=>isSp a)||isSp v):=by
 cases t with
 |nil=>rfl
 |cons a t=> show(isSp a||isSp ((a::(t++[v])).getLast _))=_;congr 2;have:(a::(t++[v]))=(a::t)++[v]:=rfl;simp only[this,List.getLast_append_of_ne_nil,List.getLast_singleton,ne_eq,reduceCtorEq,Bf]
theorem EW(l:List ze):(trimB l).length<=l.length:=(zJ7 l).length_le
theorem zHu(l:List ze):((trimS l).length==l.length)= !Vl l:=by
 rcases nM l with rfl|⟨t,v,rfl⟩
 ·rfl
 ·rw[zGY];have hl:(t++[v]).length=t.length+1:=by simp
  cases t with
  |nil=>
   show((trimB (List.dropWhile isSp [v])).length==1)= !(isSp v||isSp v);cases hv:isSp v with
   |true=>simp only[Te,hv];rfl
   |false=> simp only[Te,hv];have:=EG [] v;rw[hv]at this;show((trimB [v]).length==1)=true;rw[show trimB [v]=[v]from this];rfl
  |cons a t=>
   show((trimB (List.dropWhile isSp (a::(t++[v])))).length==_)= !(isSp a||isSp v);have hb:=EW (List.dropWhile isSp (a::(t++[v])));cases ha:isSp a with
   |true=> simp only[Te,ha,jg]at hb ⊢;have hd:=(List.dropWhile_sublist isSp (l:=t++[v])).length_le;rw[He,Va,Ea];rw[hl,Pb];rw[Bb,List.length_singleton]at hd;omega
   |false=>
    have e:List.dropWhile isSp (a::(t++[v]))=(a::t)++[v]:=by rw[Te,ha];rfl
    rw[e,EG];cases hv:isSp v with
    |true=> have:=EW (a::t);rw[aa rfl,Bool.or_true,Va,Ea,hl];omega
    |false=>simp
theorem zIg{l:List ze}(h:l.length<=big)(g:Bool)(hg:(l.isEmpty&&g)=false)(k:Bool->Option Int):
  (za (zA (decide ((l.length:Int)>0)&& !g) (geti l 0) (default:ze)) fun y7=>
   za (zA (decide ((l.length:Int)>0)&& !g) (QE ((⟨y7.token,y7.list⟩:ze),13)) (default:Bool)) fun y8=>
   za (zA (!y8&&(decide ((l.length:Int)>0)&& !g)) (geti l (w64 ((l.length:Int) - 1))) (default:ze)) fun y9=>
   za (zA (!y8&&(decide ((l.length:Int)>0)&& !g)) (QE ((⟨y9.token,y9.list⟩:ze),13)) (default:Bool)) fun y10=>
   k (bif decide ((l.length:Int)>0)then bif y8 then true else y10 else false))=(if g=true/\l≠[]then(k (bif decide ((l.length:Int)>0)then bif (default:Bool)then true else(default:Bool)else false))else k (Vl l)):=by
 cases l with
 |nil=> have:decide ((([]:List ze).length:Int)>0)=false:=rfl;simp only[this,jb,qF,za,Ba,Ac,Ca,ne_eq,not_true_eq_false,and_false,if_false,Vl]
 |cons v r=>
  have e1:decide (((v::r).length:Int)>0)=true:=Ha (by simp only[Pb];omega);have e2:geti (v::r) 0=some v:=rfl;cases g with
  |true=>simp only[e1,Va,Ac,qF,za,Ba,Da,ne_eq,reduceCtorEq,Bf,and_self,jg]
  |false=>
   simp only[e1,Ra,Yb,Zt,za,Ba,Da,e2,QE,false_and,if_false,reduceCtorEq];have e3:w64 (((v::r).length:Int) - 1)=(r.length:Int):=by rw[Pb]at h ⊢;rw[w64,Z6 (by omega) (by unfold big at h;omega)];omega
   have e4:geti (v::r) (r.length:Int)=some ((v::r).getLast (by simp)):=by rw[zS (by simp),List.getLast_eq_getElem];simp
   rw[e3,e4];simp only[zM,Ba,Vl,isSp];cases v.token.kind==13<;>rfl
def badV(v:ze):Bool:=v.token.kind==17||(v.token.kind==9&&v.token.text==[33])
def bv(custom:Bool)(l:List ze):Bool:= !(l.any badV)&&(!(l.isEmpty&& !custom)&& !Vl l)
def Ye(d:Za):Bool:=Lh d.name&&(errS d.value==0&&(gluS (tokL d.value)==0&&(!clL d.value&&bv (List.isPrefixOf [45,45] d.name) d.value)))
mutual
theorem zLx: ∀(v:ze) (t:zk),t∈tokV v->t.text.length<=szV v/\t.unit.length<=szV v
 |⟨t,l⟩,u,h=>by
  rw[tokV]at h;rw[szV];rcases Db.1 h with rfl|h
  ·constructor<;>omega
  ·split at h
   ·cases h
   ·rcases Bd.1 h with h|h
    ·have:=Ex l u h;omega
    ·obtain rfl:=Ec.1 h;exact⟨Rb _,Rb _⟩
theorem Ex: ∀(l:List ze) (t:zk),t∈tokL l->t.text.length<=szL l/\t.unit.length<=szL l
 |[],_,h=>by rw[tokL]at h;cases h
 |v::r,u,h=>by
  rw[tokL]at h;rw[szL];rcases Bd.1 h with h|h
  ·have:=zLx v u h;omega
  ·have:=Ex r u h;omega
end
theorem zKO{l:List ze}(h:szL l<=big):Ut (tokL l)=some (gluS (tokL l)):=
 zAD fun t ht=>by have:=Ex l t ht;omega
theorem zMH{l:List ze}(h:szL l<=big):Fq (tokL l)=some (gluS (tokL l)):=
 IZ fun t ht=>by have:=Ex l t ht;omega
theorem zB9{l:List ze}(h:l.length<=big):qJ l=some (l.any badV):=by
 unfold qJ IJ;refine Oj (Kj l badV h (fun i hi=> ?_) ?_) (Ki _ _)
 ·have:gu l[i]=some (badV l[i]):=by unfold gu Py QE badV;simp only[Oy,zM,za,Ba];cases l[i].token.kind==17<;>cases l[i].token.kind==9<;>rfl
  simp only[zY hi,Da,zS hi,za,Ba,Oy,this]
 ·simp only[zV,Ca]
theorem zAm{d:Za}(hv:szL d.value<=big)(hn:d.name.length<=big):nk d=some (bif Ye d then 0 else 8):=by
 have hlen:=ag d.value;unfold nk Ye;rw[zDx hv];simp only[za,Ba,zAn hn];cases Lh d.name with
 |false=>simp only[Ra,Da,Va,qF,Ba,jb,Ca]
 |true=>
  by_cases he:errS d.value=0
  ·rw[aa he];have he':(errS d.value==0)=true:=Bc.2 he;have this:((0:Int)==0)=true:=rfl;simp only[he',this,Va,Ca,Ra,Zt,zKO hv,Ba,Ua,bne];cases hg:gluS (tokL d.value)==0 with
   |false=>simp only[Ra,Da,Va,qF,Ba,jb,Ca]
   |true=>
    simp only[Va,Ca,Ra,Zt,E8 hv,Ba,Ua];cases clL d.value with
    |true=>rfl
    |false=>
     simp only[Ca,zB9 (show d.value.length<=big by omega),Ba,bv,Ra,Ua];cases d.value.any badV with
     |true=>rfl
     |false=>
      simp only[Ca,UA,zM,Ba,ZJ,Ra,Ua];have hp:=zIg (l:=d.value) (by omega) (bif d.value.isEmpty then !(bif d.value.isEmpty then List.isPrefixOf [45,45] d.name else default)else false);cases hd:d.value with
      |nil=>
       cases List.isPrefixOf [45,45] d.name<;>rfl
      |cons v r=> have hp':=hp (by rw[hd];rfl) (fun b=>bif b then some 8 else some 0);rw[hd]at hp';simp only[List.isEmpty_cons,Ca,Gg,false_and,if_false]at hp';simp only[List.isEmpty_cons,Ca,jb,Ra,Ua];refine Eq.trans hp' ?_;cases Vl (v::r)<;>rfl
  ·rw[Ab he];have he':(errS d.value==0)=false:=Ea.2 he;simp only[he',bne,Va,Ca,Ra,Da,qF,Ba,jb,Ac]
theorem zH8{x:Str}(hn:Lh x=true):NA x=some (List.isPrefixOf [45,45] x):=by
 unfold NA;have e2:(decide ((2:Int)<=(x.length:Int))|| !(decide ((x.length:Int)>2)))=true:=by
  by_cases h:2<=x.length
  ·rw[Ha (show(2:Int)<=(x.length:Int) by omega)];rfl
  ·rw[Oa (show¬((x.length:Int)>2) by omega)];simp
 rw[XE e2];have hp:=lU x;cases hpp:List.isPrefixOf [45,45] x with
 |true=> rw[hpp]at hp;have h3:=mU hpp;unfold Lh at hn;rw[hpp]at hn;simp only[Da,Fa]at hn;rw[hn.2.2.2]at h3;rw[h3];have:decide ((x.length:Int)>=2)=true:=Ha (by have:=Fb h3;omega);rw[this]at hp;exact congrArg some hp
 |false=>
  rw[hpp]at hp;cases h3:decide ((x.length:Int)>2)with
  |false=>rfl
  |true=> have:decide ((x.length:Int)>=2)=true:=Ha (by have:=Fb h3;omega);rw[this]at hp;exact congrArg some hp
theorem zMT{α:Type}(a b:List α):((a.length:Int)==(b.length:Int))=(a.length==b.length):=by rw[Tf,Bc,Bc];omega
theorem Y7{x:Str}{l:List ze}(h:szL l<=big)(hn:Lh x=true):
  LA (x,l)=some (errS l==0&&(gluS (tokL l)==0&&(!clL l&&bv (List.isPrefixOf [45,45] x) l))):=by
 have hlen:=ag l;unfold LA;simp only[zJw h,JM h,za,Ba,bne,zM];cases he:errS l==0 with
 |false=>simp only[Ra,Da,Va,qF,Ba,jb,Ca]
 |true=>
  simp only[Va,Ca,Ra,Da,Zt,zMH h,Ba,Ua];cases hg:gluS (tokL l)==0 with
  |false=>simp only[Ra,Da,Va,qF,Ba,jb,Ca]
  |true=>
   simp only[Va,Ca,Ra,Zt,O9 h,Ba,Ua];cases clL l with
   |true=>rfl
   |false=>
    simp only[Ca,zFs h,Ba,zMT,zHu,ZJ,jd,Ra,Ua,zH8 hn,zM];have hl:Zc (fun(s7:Int)=>
     bif decide (s7<(l.length:Int))then
      za (geti l s7) fun y8=>
      bif bif y8.token.kind==17 then true else bif y8.token.kind==9 then y8.token.text==[33]else false then
       some (LO.ret false)
      else
       some (LO.again (w64 (s7+1)))
     else
      some (LO.out ()):Int->Option (LO (Int) (Unit) _)) 0 (fun _=>some true)=some (!(l.any badV)):=by
     refine(Z9 l (fun v=>bif badV v then some false else none) () (fun i hi=> ?_) ?_).trans ?_
     ·simp only[zY hi,Da,zS hi,za,Ba,badV,zK hi (show l.length<=big by omega)];cases l[i].token.kind==17<;>cases l[i].token.kind==9<;>cases l[i].token.text==[33]<;>rfl
     ·simp only[zV,Ca]
     ·rw[JL];cases l.any badV<;>rfl
    unfold bv;simp only[za]at hl;rw[hl];cases Vl l<;>cases l.isEmpty<;>cases List.isPrefixOf [45,45] x<;>cases l.any badV<;>rfl
theorem FZ{d:Za}(hv:szL d.value<=big)(hn:d.name.length<=big):Om d=some (bif Ye d then 0 else 8):=by
 unfold Om Ye;simp only[EZ hn,za,Ba];cases hnd:Lh d.name with
 |false=>rfl
 |true=> simp only[Va,Ra,Zt,Y7 hv hnd,Ba,Ua];cases (errS d.value==0&&(gluS (tokL d.value)==0&&(!clL d.value&&bv (List.isPrefixOf [45,45] d.name) d.value)))<;>rfl
theorem R8:bi Oq:=by intro Di ref08_size' h_ref08_size x;unfold Oq;exact(.lp (fun _=>(.bif (.bind .rfl fun _=>(.lp (fun _=>(.bind .rfl fun _=>(.bif (.bind .rfl fun _=>(.bind .rfl fun _=>(.bind .rfl fun _=>(.bind .rfl fun _=>(.lp (fun _=>(.bif (.bind .rfl fun _=>(.bind .rfl fun _=>(.bind .rfl fun _=>(.bind (h_ref08_size _) fun _=> .rfl)))) .rfl)) fun _=> .rfl))))) .rfl))) fun _=> .rfl)) .rfl)) fun _=> .rfl)
theorem U8:bi Sq:=by intro Ei ref04_Size' h_ref04_Size x;unfold Sq;exact(.lp (fun _=>(.bif (.bind .rfl fun _=>(.bind .rfl fun _=>(.bind .rfl fun _=>(.bind (h_ref04_Size _) fun _=> .rfl)))) .rfl)) fun _=> .rfl)
theorem P8:bi Nq:=by intro Qh ref10_Size' h_ref10_Size x;unfold Nq;exact(.lp (fun _=>(.bif (.bind .rfl fun _=>(.bind (h_ref10_Size _) fun _=> .rfl)) .rfl)) fun _=> .rfl)
theorem O8:bi Mq:=by intro Ci ref10_long' h_ref10_long x;unfold Mq;exact(.bind .rfl fun _=>(.bif .rfl (.lp (fun _=>(.bif (.bind .rfl fun _=>(.bind (h_ref10_long _) fun _=>(.bif .rfl .rfl))) .rfl)) fun _=> .rfl)))
theorem zpU:bi lq:=by intro qH ref11_weighed' h_ref11_weighed x;unfold lq;exact(.bif .rfl (.lp (fun _=>(.bif (.bind .rfl fun _=>(.bind .rfl fun _=>(.bind .rfl fun _=>(.bind .rfl fun _=>(.bind (.cond (h_ref11_weighed _)) fun _=>(.bif .rfl (.lp (fun _=>(.bif (.bind .rfl fun _=>(.bif .rfl .rfl)) .rfl)) fun _=> .rfl))))))) .rfl)) fun _=> .rfl))
theorem M8:bi Iq:=by intro Oi sheet_told' h_sheet_told x;unfold Iq;exact(.bif (.bind .rfl fun _=> .rfl) (.bif .rfl (.lp (fun _=>(.bif (.bind .rfl fun _=>(.bind (h_sheet_told _) fun _=>(.join (.bif .rfl .rfl) fun _=> .rfl))) .rfl)) fun _=> .rfl)))
theorem vY:bi Gq:=by intro Yh cond_look' h_cond_look x;unfold Gq;exact(.bif .rfl (.bif (.bind .rfl fun _=>(.bind .rfl fun _=> .rfl)) (.bif (.bind .rfl fun _=> .rfl) (.join (.bif .rfl (.bif .rfl .rfl)) fun _=>(.bif (.bind .rfl fun _=>(.bif .rfl (.lp (fun _=>(.bif (.bind .rfl fun _=>(.bind (h_cond_look _) fun _=>(.bif .rfl (.join (.bind .rfl fun _=>(.bif .rfl .rfl)) fun _=> .rfl)))) .rfl)) fun _=> .rfl))) .rfl)))))
theorem N8:bi Jq:=by intro Pi sheet_look' h_sheet_look x;unfold Jq;exact(.lp (fun _=>(.bif (.bind .rfl fun _=>(.bind (h_sheet_look _) fun _=>(.bind .rfl fun _=>(.join (.bif (.bind .rfl fun _=>(.bind .rfl fun _=>(.bind .rfl fun _=>(.lp (fun _=>(.bif (.bind .rfl fun _=>(.bind .rfl fun _=>(.bind .rfl fun _=> .rfl))) .rfl)) fun _=> .rfl)))) (.bif (.bind .rfl fun _=>(.bind .rfl fun _=> .rfl)) (.bif (.bind .rfl fun _=>(.bind .rfl fun _=> .rfl)) (.bif (.bind .rfl fun _=> .rfl) (.bif (.bind .rfl fun _=> .rfl) .rfl))))) fun _=> .rfl)))) .rfl)) fun _=> .rfl)
theorem Qq(x:Za):zI (ZC x)=3+x.name.length+zL Zr x.value:=by simp only[ZC,zI,bPV,zL];omega
theorem xh(x:zm):zI (zH x)=4+x.name.length+zI (ZC x.decl)+zL zH x.list - 1+1:=by rw[Qq];rw[FO];simp only[zI,bPV,zL];omega
theorem Xh(x:Za):1<=zI (ZC x):=by have:=Qq x;omega
theorem Sk{α:Type}(l:List α):decide ((l.length:Int)>0)= !l.isEmpty:=by
 cases l with
 |nil=>rfl
 |cons a l=>exact Ha (by simp only[Pb];omega)
theorem ax(x:zm):1<=zI (zH x):=by have:=xh x;omega
theorem ol{a b:Nat}(h:a+b<=big):w64 ((a:Int)+(b:Int))=((a+b:Nat):Int):=by rw[w64,Z6 (by omega) (by unfold big at h;omega)];omega
theorem KE{d:Za}(h:zI (ZC d)<=big):szL d.value<=big/\d.name.length<=big:=by have:=Qq d;have:=Rh d.value;constructor<;>omega
theorem yO{d:Za}(h:zI (ZC d)<=big):nk d=some (bif Ye d then 0 else 8):=zAm (KE h).1 (KE h).2
theorem oP{d:Za}(h:zI (ZC d)<=big):Om d=some (bif Ye d then 0 else 8):=FZ (KE h).1 (KE h).2
end Go.Lv.VT
