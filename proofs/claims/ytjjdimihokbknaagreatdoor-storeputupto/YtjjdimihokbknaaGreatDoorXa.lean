/- Small functions of bytes and texts: small letters, names; the program's and the reference's are the same. -/
import Derived.Test.YtjjdimihokbknaaGreatDoorTx
import Derived.Test.YtjjdimihokbknaaGreatDoorMo
import Derived.Test.YtjjdimihokbknaaGreatDoorIp
import Derived.Test.YtjjdimihokbknaaGreatDoorLf
set_option linter.unusedSimpArgs false
set_option linter.unusedVariables false
namespace Go.Lv.VT
def Yj(n:Nat):Nat:=if 65<=n/\n<=90 then n+32 else n
def Xi(b:UInt8):UInt8:=UInt8.ofNat (Yj b.toNat)
theorem zIa{n:Nat}(h:n<256):Yj n<256:=by unfold Yj;split<;>omega
theorem zFR(b:UInt8):(Xi b).toNat=Yj b.toNat:=by unfold Xi;rw[UInt8.toNat_ofNat'];exact Nat.mod_eq_of_lt (zIa (Yd b))
theorem zHO: ∀n:Nat,n<256->Dm (n:Int)=some ((Yj n:Nat):Int):=by decide+kernel
theorem zLT: ∀n:Nat,n<256->(bif decide (65<=(n:Int))then decide ((n:Int)<=90)else false)=true->Qc (ibOr IntKind.u8 (n:Int) 32)=some (UInt8.ofNat (Yj n)):=by decide+kernel
def lowS(l:Str):Str:=l.map Xi
theorem CK{α:Type}{l:List α}{i:Nat}(h:i<l.length)(f:α->α):((l.take i).map f++l.drop i).set i (f l[i])=(l.take (i+1)).map f++l.drop (i+1):=by
 apply List.ext_getElem
 ·simp;omega
 grind
theorem WR{α:Type}{l:List α}{i:Nat}(h:i<l.length)(f:α->α):((l.take i).map f++l.drop i)[i]? =some l[i]:=by
 grind
theorem jJ{α:Type}{l:List α}{i:Nat}(h:i<=l.length)(f:α->α):((l.take i).map f++l.drop i).length=l.length:=by simp;omega
theorem zJh{α:Type}{l:List α}{i:Nat}(h:i<l.length)(f:α->α)(e:f l[i]=l[i]):(l.take i).map f++l.drop i=(l.take (i+1)).map f++l.drop (i+1):=by
 rw[<-CK h f,e];apply List.ext_getElem?
 grind
theorem oI(i:Nat):decide ((0:Int)<=(i:Int))=true:=Ma (by omega)
theorem Bt{l:Str}(h:l.length<=big):Qy l=some (lowS l):=by
 unfold Qy;rw[Nw (Ma (by unfold big at h;unfold maxLen;omega))];have d: ∀(k i:Nat),i+k=l.length-> ∃n,qj (X:=List UInt8) (R:=Str) (fun(a:Int×List UInt8)=>
   bif decide (a.1<(a.2.length:Int))then
    need (decide (0<=a.1)&&decide (a.1<(a.2.length:Int)))<|
    za a.2[a.1.toNat]? fun f=>
    za (Dm (f.toNat:Int)) fun g=>
    need (decide (0<=a.1)&&decide (a.1<(a.2.length:Int)))<|
    za a.2[a.1.toNat]? fun p=>
    za (Qc g) fun m=>
    some (LO.again (w64 (a.1+1),List.set a.2 a.1.toNat m))
   else
    some (LO.out a.2)) n ((i:Int),(l.take i).map Xi++l.drop i)=some (.out (lowS l)):=by
  intro k
  induction k with
  |zero=>
   intro i e;have e:i=l.length:=by omega
   subst e;refine⟨1,?_⟩;simp only[qj,jJ (Xa _),zR,Ca];simp[lowS]
  |succ k o=>
   intro i e;have b:i<l.length:=by omega
   obtain⟨n,c⟩:=o (i+1) (by omega);refine⟨n+1,?_⟩;have j:=Yd l[i];simp only[qj,jJ (Nat.le_of_lt b),zO b,Da,oI,Rb,Z8,ic,WR b,za,Aa,zHO _ j];rw[<-zFR,zIx,zH b h];simp only[Aa,CK b];exact c
 obtain⟨n,c⟩:=d l.length 0 (by omega);replace c:=Fh c;simp only[List.take_zero,List.map_nil,Pd,List.drop_zero]at c;exact(Ph c).trans rfl
theorem Ot{l:Str}(h:l.length<=big):Yk l=some (lowS l):=by
 unfold Yk;rw[Nw (Ma (by unfold big at h;unfold maxLen;omega))];have d: ∀(k i:Nat),i+k=l.length-> ∃n,qj (X:=List UInt8) (R:=Str) (fun(a:Int×List UInt8)=>
   bif decide (a.1<(l.length:Int))then
    zW (X:=Int×List UInt8) (
      need (decide (0<=a.1)&&decide (a.1<(a.2.length:Int)))<|
      za a.2[a.1.toNat]? fun j=>
      bif bif decide (65<=(j.toNat:Int))then decide ((j.toNat:Int)<=90)else false then
       need (decide (0<=a.1)&&decide (a.1<(a.2.length:Int)))<|
       za a.2[a.1.toNat]? fun o=>
       need (decide (0<=a.1)&&decide (a.1<(a.2.length:Int)))<|
       za a.2[a.1.toNat]? fun t=>
       za (Qc (ibOr IntKind.u8 (o.toNat:Int) 32)) fun q=>
       some (LX.out (a.1,List.set a.2 a.1.toNat q))
      else
       some (LX.out (a.1,a.2))) fun m=>
    some (LO.again (w64 (m.1+1),m.2))
   else
    some (LO.out a.2)) n ((i:Int),(l.take i).map Xi++l.drop i)=some (.out (lowS l)):=by
  intro k
  induction k with
  |zero=>
   intro i f;have f:i=l.length:=by omega
   subst f;refine⟨1,?_⟩;simp only[qj,zR,Ca];simp[lowS]
  |succ k r=>
   intro i f;have b:i<l.length:=by omega
   obtain⟨n,c⟩:=r (i+1) (by omega);refine⟨n+1,?_⟩;have p:=Yd l[i];simp only[qj,jJ (Nat.le_of_lt b),zO b,Da,oI,Rb,Z8,ic,WR b,za,Aa];cases g:(bif decide (65<=(l[i].toNat:Int))then decide ((l[i].toNat:Int)<=90)else false)with
   |true=> have e:=zLT _ p g;simp only[e,Da,Aa,zX,zH b h];rw[show UInt8.ofNat (Yj l[i].toNat)=Xi l[i]from rfl,CK b];exact c
   |false=>
    have e:Xi l[i]=l[i]:=by unfold Xi Yj;rw[ja,UInt8.ofNat_toNat];rintro⟨s,u⟩;rw[Ma (by omega),Da,Ma (by omega)]at g;cases g
    simp only[Ca,zX,zH b h];rw[zJh b Xi e];exact c
 obtain⟨n,c⟩:=d l.length 0 (by omega);replace c:=Fh c;simp only[List.take_zero,List.map_nil,Pd,List.drop_zero]at c;exact(Ph c).trans rfl
def QG(l:Str):Bool:=l.all fun b=> !(b==0)
theorem oJ(c:UInt8): ∀l:Str,decide (Lib.indexByte l c>=0)=l.any fun b=>b==c
 |[]=>rfl
 |b::l=>by
  have d:=oJ c l;have a:=Lib.indexByte_ge l c;rw[Ue,Lib.indexByte]
  grind
theorem zK1(l:Str):(l.any fun b=>b==0)= !QG l:=by
 unfold QG
 grind
theorem Ou(l:Str)(n:Int):strings_IndexByte (l,n)=some (Lib.indexByte l n.toNat.toUInt8):=rfl
theorem Nr(l:Str):decide (Lib.indexByte l (0:Int).toNat.toUInt8>=0)= !QG l:=(oJ 0 l).trans (zK1 l)
def af(l:Str):Bool:= !(l==[])&&(decide (l.length<=64)&&QG l)
theorem Df(n m:Nat):decide ((n:Int)>(m:Int))= !decide (n<=m):=by
 grind
theorem byte_zero(b:UInt8):((b.toNat:Int)==0)=(b==0):=by
 by_cases h:b=0
 ·subst h;rfl
 ·have a:b.toNat≠0:=fun e=>h (UInt8.toNat_inj.1 e)
  grind
def Di(l:Str):Bool:=af l&&lowS l==l
theorem Ey(a b:Str):(a==b)=(b==a):=by
 grind
theorem gm(n m:Nat):decide ((n:Int)<=(m:Int))=decide (n<=m):=by
 grind
theorem ut{α:Type}(l:List α):decide ((l.length:Int)<1)=l.isEmpty:=by
 cases l with
 |nil=>rfl
 |cons a l=>grind
theorem Fj{f:Option Int}{p:Bool}{i:Int}(h:f=some i)(a:decide (i>=0)=p):(za f fun y=>some (decide (y>=0)))=some p:=by
 grind
def jf(l:List Str):Bool:= !l.isEmpty&&(decide (l.length<=16)&&l.all af)
theorem Jo{α:Type}(p:α->Bool)(l:List α):(l.any fun v=> !p v)= !l.all p:=by
 grind
theorem pz(l m:Str):strings_HasPrefix (l,m)=some (m.isPrefixOf l):=by
 have a: ∀m l:Str,m.isPrefixOf l=(decide (m.length<=l.length)&&l.take m.length==m):=by
  intro m l;rw[Pf];simp only[List.isPrefixOf_iff_prefix,Fa,Eb,Cc];constructor
  ·rintro⟨t,rfl⟩
   grind
  ·grind
 unfold strings_HasPrefix stringslite_HasPrefix;simp_all
theorem zAO(l m:Str):strings_TrimPrefix (l,m)=some (bif m.isPrefixOf l then l.drop m.length else l):=by
 have h:stringslite_HasPrefix (l,m)=some (m.isPrefixOf l):=by
  have:=pz l m;unfold strings_HasPrefix at this;cases hh:stringslite_HasPrefix (l,m)with
  |none=>grind
  |some b=>grind
 unfold strings_TrimPrefix stringslite_TrimPrefix;simp only[h,za,Aa];cases hp:m.isPrefixOf l with
 |false=>rfl
 |true=> have hl:=(List.isPrefixOf_iff_prefix.1 hp).length_le;simp_all
theorem zFK{a b:Str}(c:a.length<=big)(h2:b.length<=big):ry (a,b)=some (lowS a==lowS b):=by unfold ry;simp only[Ot c,Ot h2,za,Aa]
theorem zHL{a b:Str}(c:a.length<=big)(h2:b.length<=big):Uj (a,b)=some (lowS a==lowS b):=by unfold Uj;simp only[Bt c,Bt h2,za,Aa]
def Ll(n:Nat):Bool:=
 !(n==0||n==9||n==10||n==12||n==13||n==32||n==34||n==39||n==40||n==41||n==44||n==58||n==59||n==91||n==93||n==95||n==123||n==125)&&
  (decide (n<128)&& !((decide (48<=n)&&decide (n<=57))||(decide (65<=n)&&decide (n<=90))||(decide (97<=n)&&decide (n<=122))))
set_option maxRecDepth 100000 in
theorem zKl: ∀n:Nat,n<256->fG 40 (n:Int)=some (Ll n):=by decide+kernel
def Xw:Prop:= ∀b:UInt8,Q5 (b.toNat:Int)=some (Ll b.toNat)
theorem uX:Xw:=fun b=>
 mZ 40 _ _ (zKl _ (Yd b))
def digN(n:Nat):Bool:=decide (48<=n)&&decide (n<=57)
theorem zD3: ∀n:Nat,n<256->ZQ (n:Int)=some (digN n):=by decide+kernel
theorem MU(b:UInt8):ZQ (b.toNat:Int)=some (digN b.toNat):=(zD3 _ (Yd b))
theorem zBV: ∀n:Nat,n<256->uo (n:Int)=some (digN n):=by decide+kernel
theorem DV(b:UInt8):uo (b.toNat:Int)=some (digN b.toNat):=(zBV _ (Yd b))
def namN(n:Nat):Bool:=digN n||(decide (65<=n)&&decide (n<=90))||(decide (97<=n)&&decide (n<=122))||n==95||n==45||decide (128<=n)
theorem zBX: ∀n:Nat,n<256->Ty (n:Int)=some (namN n):=by decide+kernel
theorem CV(b:UInt8):Ty (b.toNat:Int)=some (namN b.toNat):=(zBX _ (Yd b))
def Gl:Str->Bool
 |[]=>false
 |b::r=>digN b.toNat||(b==45&&(r==[]||digN (r.headD 0).toNat))
theorem zKa(b c:UInt8):((b.toNat:Int)==(c.toNat:Int))=(b==c):=by
 by_cases h:b=c
 ·subst h;simp
 ·have a:b.toNat≠c.toNat:=fun e=>h (UInt8.toNat_inj.1 e)
  grind
theorem zJ9(b:UInt8):((b.toNat:Int)==45)=(b==45):=zKa b 45
theorem zAh(l:Str):Ny l=some (Gl l):=by
 unfold Ny;cases l with
 |nil=>rfl
 |cons b r=>
  have f:geti (b::r) 0=some b:=rfl;have g:(b::r==([]:Str))=false:=rfl;simp only[g,Ca,f,za,Aa,MU,zP,zJ9];cases r with
  |nil=>
   have e:(([b]:Str)==[45])=(b==45):=by show((b==45)&&true)=_;rw[Rb]
   simp only[e];unfold Gl;cases c:(b==45)with
   |false=>cases h:digN b.toNat<;>simp[c,zA,h]
   |true=>simp_all
  |cons d r=>
   have a:geti (b::d::r) 1=some d:=rfl;have e:((b::d::r:Str)==[45])=false:=by show((b==45)&&false)=_;rw[Bc]
   simp only[a,e,zP,Aa,MU,Gl,List.headD_cons]
   grind
def numS:Str->Bool
 |[]=>false
 |b::r=>bif b==45 then !(r==[])&&digN (r.headD 0).toNat else digN b.toNat
theorem X5(l:Str):rz l=some (numS l):=by
 unfold rz;simp only[zAO,za,Aa];have a: ∀m:Str,((zA (!(m==[])) (geti m 0) 0).bind fun c=>(zA (!(m==[])) (uo (c.toNat:Int)) (default:Bool)).bind fun d=>some (bif !(m==[])then d else false))=some (!(m==[])&&digN (m.headD 0).toNat):=by
  intro m;cases m with
  |nil=>rfl
  |cons b r=> have f:geti (b::r) 0=some b:=rfl;have g:(b::r==([]:Str))=false:=rfl;simp only[g,Ra,Zm,f,Aa,DV,Da,List.headD_cons,Sa]
 rw[a];cases l with
 |nil=>rfl
 |cons b r=>
  have e:List.isPrefixOf [45] (b::r)=(b==45):=by
   show((45==b)&&true)=_;rw[Rb];cases h:(b==45)with
   |true=>grind
   |false=>grind
  rw[e];show _=some (bif b==45 then !(r==[])&&digN (r.headD 0).toNat else digN b.toNat)
  grind
theorem zJl(l:Str):((numS l&& !(List.isPrefixOf [45,45] l))||l==[45])=Gl l:=by
 cases l with
 |nil=>rfl
 |cons b r=>
  cases a:(b==45)with
  |false=>
   have e:List.isPrefixOf [45,45] (b::r)=false:=by show((45==b)&&_)=_;rw[Ea]at a;rw[Ea.2 (Ne.symm a)];rfl
   have c:((b::r:Str)==[45])=false:=by show((b==45)&&_)=_;rw[a];rfl
   rw[e,c];unfold numS Gl;simp[a]
  |true=>
   rw[Cc]at a;subst a;cases r with
   |nil=>rfl
   |cons d r=>
    have c:((45::d::r:Str)==[45])=false:=rfl;rw[c];unfold numS Gl;have e:List.isPrefixOf [45,45] (45::d::r)=(45==d):=by show((45==(45:UInt8))&&((45==d)&&true))=_;rw[Rb];rfl
    rw[e];simp only[List.headD_cons];have f:digN 45=false:=by decide
    cases h:(45==d)with
    |false=>simp[f]
    |true=>rw[Cc]at h;subst h;rfl
def delS(l:Str):Bool:=match l with
 |[b]=>Ll b.toNat
 |_=>false
def rngS(x:zk):Bool:=decide (-1000000000000<=x.num)&&(decide (x.num<=1000000000000)&&(!x.flag||Int.tmod x.num 1000==0))
def Pq(x:zk):Bool:=
 bif x.kind==1||x.kind==2||x.kind==3 then !(x.text==[])&&(QG x.text&&(x.num==0&&(x.unit==[]&& !x.flag)))
 else bif x.kind==4 then !(x.text==[])&&(QG x.text&&((x.flag||Gl x.text)&&(x.num==0&&x.unit==[])))
 else bif x.kind==5||x.kind==7 then QG x.text&&(x.num==0&&(x.unit==[]&& !x.flag))
 else bif x.kind==9 then delS x.text&&(x.num==0&&(x.unit==[]&& !x.flag))
 else bif x.kind==10||x.kind==11||x.kind==12 then rngS x&&((!(x.unit==[])==(x.kind==12))&&(QG x.unit&&((!(x.kind==11)|| !x.flag)&&x.text==[])))
 else(decide (13<=x.kind)&&decide (x.kind<=24))&&(x.text==[]&&(x.num==0&&(x.unit==[]&& !x.flag)))
theorem XN{l:Str}(h:l.length<=big):Am l=some (QG l):=by
 unfold Am;refine(ZZ l (fun b=>bif (!(b==0))then none else some false) () (fun i a=> ?_) ?_).trans ?_
 ·simp only[zO a,Da,zN a,za,Aa,byte_zero,zH a h]
  grind
 ·grind
 ·rw[Q9];show _=some (QG l);unfold QG
  grind
theorem one_byte(l:Str)(p:Nat->Bool)(d:Bool)(f:Int->Option Bool)(hf: ∀b:UInt8,f (b.toNat:Int)=some (p b.toNat))(g:Bool):
  ((zA (g&&(l.length:Int)==1) (geti l 0) (0:UInt8)).bind fun y=>zA (g&&(l.length:Int)==1) (f (y.toNat:Int)) d)=some (bif g&&(l.length:Int)==1 then(match l with|[b]=>p b.toNat|_=>false)else d):=by
 cases g with
 |false=>rfl
 |true=>
  cases l with
  |nil=>rfl
  |cons b r=>
   cases r with
   |nil=> show((geti [b] 0).bind fun y=>f (y.toNat:Int))=some (p b.toNat);rw[show geti [b] 0=some b from rfl];exact hf b
   |cons c r=> have:(((b::c::r).length:Int)==1)=false:=Ea.2 (by grind);rw[this];rfl
theorem zFm(a:Xw)(l:Str)(g:Bool):((zA (g&&(l.length:Int)==1) (geti l 0) (0:UInt8)).bind fun y=>zA (g&&(l.length:Int)==1) (Q5 (y.toNat:Int)) (default:Bool))=some (bif g&&(l.length:Int)==1 then delS l else default):=
 one_byte l Ll default Q5 a g
theorem zIR(l:Str):(((l.length:Int)==1)&&delS l)=delS l:=by
 cases l with
 |nil=>rfl
 |cons b r=>
  cases r with
  |nil=>rfl
  |cons c r=> have:(((b::c::r).length:Int)==1)=false:=Ea.2 (by grind);rw[this];rfl
theorem zAi(C:Xw){x:zk}(v:x.text.length<=big)(h2:x.unit.length<=big):Ky x=some (Pq x):=by
 have n:=zFm C x.text true;simp only[Sa]at n;have q:((zA ((x.text.length:Int)==1) (geti x.text 0) (0:UInt8)).bind fun o=>(zA ((x.text.length:Int)==1) (Q5 (o.toNat:Int)) (default:Bool)).bind fun D=>some (bif bif (x.text.length:Int)==1 then D else false then x.kind==x.kind&&(([]:Str)==[]&&(x.num==0&&(x.unit==[]&&(x.flag==false&&true))))else false))=some (delS x.text&&(x.num==0&&(x.unit==[]&& !x.flag))):=by
  have e: ∀(k:Bool->Option Bool),((zA ((x.text.length:Int)==1) (geti x.text 0) (0:UInt8)).bind fun o=>(zA ((x.text.length:Int)==1) (Q5 (o.toNat:Int)) (default:Bool)).bind k)=(((zA ((x.text.length:Int)==1) (geti x.text 0) (0:UInt8)).bind fun y=>zA ((x.text.length:Int)==1) (Q5 (y.toNat:Int)) (default:Bool))).bind k:=by intro k;rw[Option.bind_assoc]
  rw[e,n,Aa,<-zIR x.text];simp only[Ic];cases (x.text.length:Int)==1<;>cases delS x.text<;>cases x.flag<;>rfl
 unfold Ky;simp only[za,XN v,XN h2,zAh,zP,Aa,ge_iff_le];unfold Pq rngS;by_cases B:x.kind=9
 ·simp_all
 clear n q;have E:=Ea.2 B;generalize delS x.text=J;generalize QG x.text=p;generalize QG x.unit=M;generalize Gl x.text=H;generalize c:(x.text==[])=i;generalize d:(x.unit==[])=j;generalize a:(x.num==0)=m;generalize b:x.flag=l;generalize decide (-1000000000000<=x.num)=N;generalize decide (x.num<=1000000000000)=L;generalize (Int.tmod x.num 1000==0)=z;by_cases r:x.kind=1
 ·simp only[r,zX,Da,Ca,c,d,a,b,Int.reduceBEq];cases p<;>cases i<;>cases j<;>cases m<;>cases l<;>rfl
 by_cases s:x.kind=2
 ·simp only[s,zX,Da,Ca,c,d,a,b,Int.reduceBEq];cases p<;>cases i<;>cases j<;>cases m<;>cases l<;>rfl
 by_cases t:x.kind=3
 ·simp only[t,zX,Da,Ca,c,d,a,b,Int.reduceBEq];cases p<;>cases i<;>cases j<;>cases m<;>cases l<;>rfl
 by_cases u:x.kind=4
 ·simp only[u,zX,Da,Ca,c,d,a,b,Int.reduceBEq]
  grind
 by_cases G:x.kind=5
 ·simp_all
 by_cases F:x.kind=7
 ·simp_all
 by_cases g:x.kind=10
 ·simp only[g,zX,Da,Ca,c,d,a,b,Int.reduceBEq]
  grind
 by_cases h:x.kind=11
 ·simp only[h,zX,Da,Ca,c,d,a,b,Int.reduceBEq]
  grind
 by_cases f:x.kind=12
 ·simp only[f,zX,Da,Ca,c,d,a,b,Int.reduceBEq]
  grind
 simp only[E,Ea.2 r,Ea.2 s,Ea.2 t,Ea.2 u,Ea.2 G,Ea.2 F,Ea.2 g,Ea.2 h,Ea.2 f,zX,Da,Ca,c,d,a,b,Ic,xe];by_cases w:x.kind=6
 ·simp_all
 by_cases A:x.kind=8
 ·simp_all
 simp only[Ea.2 w,Ea.2 A,zX,Da,Ca];have e:(decide (1<=x.kind)&&decide (x.kind<=24))=(decide (13<=x.kind)&&decide (x.kind<=24)):=by
  by_cases K:13<=x.kind
  ·grind
  ·grind
 rw[<-e];cases decide (1<=x.kind)<;>cases decide (x.kind<=24)<;>cases i<;>cases j<;>cases m<;>cases l<;>rfl
abbrev Mv:Str:=[32,9,10,12,13,34,39,58,59,44,91,93,40,41,123,125]
theorem XK: ∀(m:Str) (c:UInt8),Lib.index m [c]=Lib.indexByte m c
 |[],c=>rfl
 |b::l,c=>by
  have h:List.isPrefixOf [c] (b::l)=(b==c):=by
   show(c==b&&List.isPrefixOf [] l)=_;rw[List.isPrefixOf,Rb];by_cases e:b=c
   ·subst e;rfl
   ·grind
  rw[Lib.index,Lib.indexByte,h,XK l c]
theorem contains_one(m:Str)(c:UInt8)(a:short m=true:=by decide):strings_Contains (m,[c])=some (m.any fun b=>b==c):=by unfold strings_Contains;simp only[om,a,Z8,za,Aa,XK,oJ]
theorem tZ(c:UInt8):strings_Contains ([32,9,10,12,13,34,39,58,59,44,91,93,40,41,123,125],[c])=some (Mv.any fun b=>b==c):=contains_one Mv c
theorem zFl: ∀n:Nat,n<256->((bif bif !(UInt8.ofNat n==0)then !namN n else false then true else UInt8.ofNat n==45)&&(!(Mv.any fun b=>b==UInt8.ofNat n)))=Ll n:=by decide+kernel
theorem zIS(b:UInt8):((bif bif !(b==0)then !namN b.toNat else false then true else b==45)&&(!(Mv.any fun c=>c==b)))=Ll b.toNat:=by have:=zFl b.toNat (Yd b);simp_all
theorem zCj(a b:Str):QG (a++b)=(QG a&&QG b):=by unfold QG;grind
theorem VR(n:Int):decide (n<0)= !decide (n>=0):=by
 grind
theorem zLW(g d:Bool)(b c:UInt8):(bif g then namN (bif g then b else c).toNat else d)=bif g then namN b.toNat else d:=by cases g<;>rfl
theorem zBW{x:zk}(h1:x.text.length<=big)(h2:x.unit.length<=big):Rs x=some (Pq x):=by
 unfold Rs;rw[Nw (GU.2 (by grind))];simp only[za,Ou,Aa];have hn:decide (Lib.indexByte (x.text++x.unit) (0:Int).toNat.toUInt8<0)=(QG x.text&&QG x.unit):=by rw[VR,Nr,zCj,Vd]
 simp only[hn,X5,pz,zP,Aa,ge_iff_le,bne];have hb:=zJl x.text;unfold Pq rngS;by_cases k9:x.kind=9
 ·simp only[k9,Int.reduceBEq,Da,Ca,zX,Xc,Oc];cases ht:x.text with
  |nil=>
   have:QG ([]:Str)=true:=rfl;simp only[this,Sa];cases QG x.unit<;>rfl
  |cons b r=>
   cases r with
   |nil=>
    have hd:=zIS b;have e1:((([b]:Str).length:Int)==1)=true:=rfl;have e2:geti [b] 0=some b:=rfl;have e3:(([b]:Str)==[45])=(b==45):=by show((b==45)&&true)=_;rw[Rb]
    have e4:QG [b]= !(b==0):=by show((!(b==0))&&true)=_;rw[Rb]
    have e5:delS [b]=Ll b.toNat:=rfl;simp only[e1,e2,e3,e4,e5,tZ,CV,zP,Aa,zLW,<-hd];cases hu:x.unit with
    |nil=>
     have:QG ([]:Str)=true:=rfl;simp only[this,Rb];generalize (Mv.any fun c=>c==b)=a1;cases namN b.toNat<;>cases (b==0)<;>cases (b==45)<;>cases a1<;>cases (x.num==0)<;>cases x.flag<;>rfl
    |cons c s=> simp_all
   |cons c r=>
    have e1:(((b::c::r:Str).length:Int)==1)=false:=Ea.2 (by grind);have e3:((b::c::r:Str)==[45])=false:=by show((b==45)&&false)=_;rw[Bc]
    have e5:delS (b::c::r)=false:=rfl;simp only[e1,e3,e5];simp_all
 have b9:=Ea.2 k9;have hu:(x.unit==[])=true->QG x.unit=true:=fun h=>by rw[Cc]at h;rw[h];rfl
 have htx:(x.text==[])=true->QG x.text=true:=fun h=>by rw[Cc]at h;rw[h];rfl
 rw[<-hb];generalize hl45:(x.text==[45])=a11 at*;generalize (List.isPrefixOf [45,45] x.text)=a12 at*;generalize numS x.text=a3 at*;generalize QG x.text=a1 at*;generalize QG x.unit=a2 at*;generalize (x.text==[])=a4 at*;generalize (x.unit==[])=a5 at*;generalize (x.num==0)=a6 at*;generalize x.flag=a7 at*;generalize decide (-1000000000000<=x.num)=a8 at*;generalize decide (x.num<=1000000000000)=a9 at*;generalize (Int.tmod x.num 1000==0)=a10 at*;clear hb hn hl45;have K: ∀k:Int,k∈[1,2,3,4,5,7,10,11,12]->x.kind=k->True:=fun _ _ _=>trivial;clear K;by_cases k1:x.kind=1
 ·simp only[k1,zX,Da,Ca,Int.reduceBEq]
  grind
 by_cases k2:x.kind=2
 ·simp only[k2,zX,Da,Ca,Int.reduceBEq]
  grind
 by_cases k3:x.kind=3
 ·simp only[k3,zX,Da,Ca,Int.reduceBEq]
  grind
 by_cases k4:x.kind=4
 ·simp only[k4,zX,Da,Ca,Int.reduceBEq]
  grind
 by_cases k5:x.kind=5
 ·simp only[k5,zX,Da,Ca,Int.reduceBEq]
  grind
 by_cases k7:x.kind=7
 ·simp only[k7,zX,Da,Ca,Int.reduceBEq]
  grind
 by_cases k10:x.kind=10
 ·simp only[k10,zX,Da,Ca,Int.reduceBEq]
  grind
 by_cases k11:x.kind=11
 ·simp only[k11,zX,Da,Ca,Int.reduceBEq]
  grind
 by_cases k12:x.kind=12
 ·simp only[k12,zX,Da,Ca,Int.reduceBEq]
  grind
 simp only[b9,Ea.2 k1,Ea.2 k2,Ea.2 k3,Ea.2 k4,Ea.2 k5,Ea.2 k7,Ea.2 k10,Ea.2 k11,Ea.2 k12,zX,Da,Ca,xe];cases decide (13<=x.kind)<;>cases decide (x.kind<=24)<;>cases a4<;>cases a5<;>cases a6<;>cases a7<;>rfl
theorem yt {R:Type} {step:Int->Option (LO Int Unit R)} {k:Unit->Option R} (n:Nat) (p:Nat->Bool) (r:R)
  (c: ∀(i:Nat),i<n->step (i:Int)=some (bif p i then .again ((i+1:Nat):Int)else .ret r)) (a:step (n:Int)=some (.out ())):
  zZ step 0 k=bif (List.range n).all p then k ()else some r:=by
 have e:=ZZ (k:=k) (List.range n) (fun i=>bif p i then none else some r) () (fun i b=> ?_) (by simpa using a)
 ·rw[e,Q9]
  grind
 grind
def Km:List zk->Bool
 |[]=>false
 |s::r=>bif s.kind==13 then(match r with|u::_=>u.kind==5|[]=>false)else s.kind==5
def aD:List zk->Bool
 |[]=>false
 |s::_=>s.kind==13
def Dv(t:zk):Bool:=t.kind==2&&lowS t.text==[117,114,108]
def okAt:List zk->Bool
 |[]=>true
 |t::r=>(!(t.kind==9&&t.text==[92])||aD r)&&(!(Dv t)||Km r)
def wu(l:List zk)(i:Nat):Bool:=Pq (l.getD i default)&&okAt (l.drop i)
def gluS(l:List zk):Int:=bif decide (l.length<=1500)then(bif (List.range l.length).all (wu l)then 0 else 8)else 4
theorem dJ(l:List zk)(i:Nat)(k:Int):qP (((i:Int),k),l)=some (match l[i]? with|some t=>t.kind==k|none=>false):=by
 unfold qP;by_cases h:i<l.length
 ·simp only[zO h,Zm,zN h,za,Aa,Da,La h]
 ·have e:decide ((i:Int)<(l.length:Int))=false:=Na (by omega);simp only[e,qi,za,Aa,Ca,List.getElem?_eq_none (Nat.le_of_not_lt h)]
theorem XR:lowS [117,114,108]=[117,114,108]:=by decide
theorem BV{t:zk}{r:List zk}(h:t.text.length<=big): ∃n:Int,Sy (t::r)=some n/\(n==0)= !okAt (t::r):=by
 have e0:geti (t::r) 0=some t:=rfl;have p1:=dJ (t::r) 1 13;have p15:=dJ (t::r) 1 5;have p25:=dJ (t::r) 2 5;unfold Sy;simp only[e0,za,Aa,zFK h (show([117,114,108]:Str).length<=big by decide),XR,zP];simp only[Int.natCast_one]at p1 p15;replace p25:qP ((2,5),t::r)=_:=p25;rw[p1];unfold okAt Dv;cases hd:(t.kind==9&&t.text==[92])with
 |true=>
  have hk:t.kind=9:=by rw[Fa,Cc]at hd;exact hd.1
  have ht:(t.text==[92])=true:=by rw[Fa]at hd;exact hd.2
  simp only[hk,ht,Int.reduceBEq,Da,Ca,Aa];cases r with
  |nil=>exact⟨_,rfl,rfl⟩
  |cons s r=>
   show∃n:Int,(bif !(s.kind==13)then some 0 else some 2)=some n/\(n==0)= !((!true||s.kind==13)&&_);cases s.kind==13
   ·simp_all
   simp_all
 |false=>
  have hc:(bif t.kind==9 then t.text==[92]else false)=false:=by
   cases h9:t.kind==9
   ·rfl
   ·grind
  simp only[hc,hd,Ca,Ra,Me,Sa];cases hu:(t.kind==2&&lowS t.text==[117,114,108])with
  |false=>
   have:(bif t.kind==2 then bif t.kind==2 then lowS t.text==[117,114,108]else default else false)=false:=by
    cases h2:t.kind==2
    ·rfl
    ·grind
   rw[this]
   grind
  |true=>
   rw[Fa]at hu;rw[hu.1,hu.2];simp only[Da,Aa];cases r with
   |nil=>exact⟨0,by simp[p15],rfl⟩
   |cons s r=>
    cases hs:s.kind==13 with
    |false=>
     have e1:(match(t::s::r)[1]? with|some t=>t.kind==13|none=>false)=false:=hs;have e5:qP ((1,5),t::s::r)=some (s.kind==5):=p15;simp only[e1,Ca,zX,e5,Aa,Km,hs];cases s.kind==5
     ·grind
     ·exact⟨2,by rfl,rfl⟩
    |true=>
     have e1:(match(t::s::r)[1]? with|some t=>t.kind==13|none=>false)=true:=hs;simp only[e1,Da,zX,p25,Aa,Km,hs];cases r with
     |nil=>grind
     |cons u r=>
      show∃n:Int,(bif !(u.kind==5)then some 0 else some (w64 (2+1)))=some n/\(n==0)= !(!true||u.kind==5);cases u.kind==5
      ·grind
      ·exact⟨3,rfl,rfl⟩
theorem jK(l:List zk):decide ((l.length:Int)>1500)= !decide (l.length<=1500):=Df _ 1500
theorem FV{l:List zk}(h: ∀t∈l,t.text.length<=big/\t.unit.length<=big):Tt l=some (gluS l):=by
 unfold Tt gluS;rw[jK];cases e:decide (l.length<=1500)with
 |false=>rfl
 |true=>
  have e:=Jb e;simp only[Ta,Ca,Da];refine(yt l.length (wu l) 8 (fun i a=> ?_) ?_).trans ?_
  ·obtain⟨d,j⟩:=h _ (Ga a);have b:l.getD i default=l[i]:=by simp[a]
   have c:=Ua a;obtain⟨n,f,k⟩:=BV (t:=l[i]) (r:=l.drop (i+1)) d;rw[<-c]at f k;have g:decide ((i:Int)<=(l.length:Int))=true:=Ma (by omega);unfold wu;simp only[zO a,Da,zN a,za,Aa,zBW d j,oI,g,Sa,Me,Z8,ic,f,zP,zH a (show l.length<=big by unfold big;omega),b]
   grind
  ·grind
  grind
theorem NF{α:Type}{l:List α}{i:Nat}{s:α}{r:List α}(h:l.drop i=s::r):i<l.length/\geti l (i:Int)=some s/\l.drop (i+1)=r:=by
 have a:i<l.length:=by
  rcases De i l.length with b|b
  ·exact b
  ·rw[List.drop_eq_nil_of_le b]at h;cases h
 rw[Ua a]at h;injection h with d c;exact⟨a,by rw[zN a,d],c⟩
theorem MF{α:Type}{l:List α}{i:Nat}(h:l.drop i=[])(hi:i<=l.length):i=l.length:=by have:=Jc.1 h;omega
theorem eD(n m:Int):decide (n>=m)= !decide (n<m):=by
 grind
theorem zJz{l:List zk}{i:Nat}(hi:i<l.length)(v:l.length<=1500):
  zW (X:=Int) (R:=LX Unit (LO Int Unit Int)) (za (zA (decide (((i+1:Nat):Int)<(l.length:Int))) (geti l ((i+1:Nat):Int)) (default:zk)) fun m=>bif bif decide (((i+1:Nat):Int)<(l.length:Int))then m.kind==13 else false then some (LX.out (w64 (((i+1:Nat):Int)+1)))else some (LX.out ((i+1:Nat):Int)))
   (fun a=>za (zA (!(decide (a>=(l.length:Int)))) (geti l a) (default:zk)) fun h=>bif bif decide (a>=(l.length:Int))then true else h.kind != 5 then some (LX.ret (LO.ret 8))else some (LX.out ()))=bif Km (l.drop (i+1))then some (LX.out ())else some (LX.ret (LO.ret 8)):=by
 cases f:l.drop (i+1)with
 |nil=> have k:=MF f (by omega);have o:decide (((i+1:Nat):Int)<(l.length:Int))=false:=Na (by omega);have b:decide (((i+1:Nat):Int)>=(l.length:Int))=true:=Ma (by omega);simp only[o,b,qi,za,Aa,Ca,Da,zX,Ta,Km]
 |cons s r=>
  obtain⟨c,e,d⟩:=NF f;have b:decide (((i+1:Nat):Int)>=(l.length:Int))=false:=Na (by omega);have n:w64 (((i+1:Nat):Int)+1)=((i+1+1:Nat):Int):=zH c (by unfold big;omega);simp only[zO c,Zm,e,za,Aa,Da,n,Km];cases p:s.kind==13 with
  |false=>
   simp only[Ca,zX,b,Ra,Zm,e,Aa,bne]
   grind
  |true=>
   simp only[Da,zX];cases r with
   |nil=> have k:=MF d (by omega);simp_all
   |cons u r=>
    obtain⟨t,j,q⟩:=NF d;have g:decide (((i+1+1:Nat):Int)>=(l.length:Int))=false:=Na (by omega);simp only[g,Ra,Zm,j,Aa,Ca,bne]
    grind
theorem zIT{l:List zk}{i:Nat}(hi:i<l.length)(d:Bool)(A B:Option (LO Int Unit Int)):
  (za (zA (!(((i+1:Nat):Int)==(l.length:Int))&&d) (geti l ((i+1:Nat):Int)) (default:zk)) fun a=>bif bif d then bif ((i+1:Nat):Int)==(l.length:Int)then true else a.kind != 13 else false then A else B)=bif !d||aD (l.drop (i+1))then B else A:=by
 cases d with
 |false=>simp_all
 |true=>
  cases c:l.drop (i+1)with
  |nil=> have h:=MF c (by omega);have b:(((i+1:Nat):Int)==(l.length:Int))=true:=Cc.2 (by omega);simp only[b,Ta,Ac,qi,za,Aa,Da,aD,xe,Ca]
  |cons s r=>
   obtain⟨f,e,g⟩:=NF c;have b:(((i+1:Nat):Int)==(l.length:Int))=false:=Ea.2 (by omega);simp only[b,Ra,Sa,Zm,e,za,Aa,Da,aD,Ca,Ta,Oc,bne]
   grind
theorem zJ4(b:Bool)(t u:zk)(p:zk->Bool):(bif b then p (bif b then t else u)else false)=(b&&p t):=by cases b<;>rfl
theorem vX(k:Xw){l:List zk}(h: ∀t∈l,t.text.length<=big/\t.unit.length<=big):Jp l=some (gluS l):=by
 unfold Jp gluS;rw[jK];cases e:decide (l.length<=1500)with
 |false=>rfl
 |true=>
  have e:=Jb e;simp only[Ta,Ca,Da];refine(yt l.length (wu l) 8 (fun i a=> ?_) ?_).trans ?_
  ·obtain⟨g,p⟩:=h _ (Ga a);have d:l.getD i default=l[i]:=by simp[a]
   have f:=Ua a;have q:w64 ((i:Int)+1)=((i+1:Nat):Int):=zH a (by unfold big;omega);have m:w64 (((i+1:Nat):Int)+1)=((i+2:Nat):Int):=zH (n:=i+2) (by omega) (by unfold big;omega);unfold wu;rw[f,d];simp only[zO a,Da,zN a,za,Aa,zAi k g p,q];cases s:Pq l[i]with
   |false=>rfl
   |true=>
    simp only[Ta,Ca,zP,Aa,Sa];have j:=zJz a e;have o:=zIT a (l[i].kind==9&&l[i].text==[92]) (some (LO.ret 8)) (some (LO.again ((i+1:Nat):Int)));simp only[za]at j o;have b:(bif l[i].kind==2 then bif l[i].kind==2 then lowS (bif l[i].kind==2 then l[i]else default).text==[117,114,108]else default else false)=Dv l[i]:=by unfold Dv;cases l[i].kind==2<;>rfl
    have r:(zA (l[i].kind==2) (Uj ((bif l[i].kind==2 then l[i]else default).text,[117,114,108])) (default:Bool))=some (bif l[i].kind==2 then lowS (bif l[i].kind==2 then l[i]else default).text==[117,114,108]else default):=by
     cases u:l[i].kind==2 with
     |false=>rfl
     |true=> show Uj (l[i].text,[117,114,108])=some (lowS l[i].text==[117,114,108]);rw[zHL g (by decide),XR]
    have c:(bif l[i].kind==9 then(bif l[i].kind==9 then l[i]else default).text==[92]else false)=(l[i].kind==9&&l[i].text==[92]):=zJ4 (l[i].kind==9) l[i] default fun t=>t.text==[92];simp only[r,Aa,b,c,j,okAt];cases Dv l[i]with
    |false=>
     simp only[Ca,zX,Ra,Me,Rb]
     grind
    |true=>
     simp only[Da,Ta,Oc];cases Km (l.drop (i+1))with
     |false=>simp_all
     |true=>
      simp only[Da,zX,Rb]
      grind
  ·grind
  grind
theorem wX{l:List zk}(h: ∀t∈l,t.text.length<=big/\t.unit.length<=big):Jp l=some (gluS l):=vX uX h
def zL{α:Type}(f:α->List PV)(l:List α):Nat:=Vi (l.map f)
theorem fQ{α:Type}(f:α->List PV):zL f []=0:=rfl
theorem rf{α:Type}(f:α->List PV)(v:α)(l:List α):zL f (v::l)=zG (f v)+zL f l:=rfl
theorem ZF{α:Type}{f:α->List PV}{v:α}: ∀{l:List α},v∈l->zG (f v)<=zL f l
 |[],h=>by cases h
 |x::l,h=>by
  rw[rf];rcases ma.1 h with rfl|h
  ·omega
  ·have:=ZF (f:=f) h;omega
theorem Zy{α:Type}{f:α->List PV}(a: ∀v,1<=zG (f v)): ∀(l:List α),l.length<=zL f l
 |[]=>Xa _
 |v::l=>by rw[rf,Db];have:=Zy a l;grind
theorem gQ: ∀l:List UInt8,Vi (l.map fun y=>[PV.at (.int .u8 ((y.toNat:Nat):Int))])=l.length
 |[]=>rfl
 |b::l=>by have:=gQ l;simp only[Ub,Vi,zG,bPV,Db]at this ⊢;omega
theorem zIo(x:ze):zG (Zp x)=6+x.token.text.length+x.token.unit.length+zL Zp x.list:=by rw[sZ];simp only[zG,bPV,zL];omega
mutual
/-- How large values are. -/
def szV:ze->Nat
 |⟨t,l⟩=>1+t.text.length+t.unit.length+szL l
def szL:List ze->Nat
 |[]=>0
 |v::r=>szV v+szL r
end
theorem Ah(v:ze):szV v=1+v.token.text.length+v.token.unit.length+szL v.list:=by obtain⟨t,l⟩:=v;rw[szV]
theorem Oh{v:ze}: ∀{l:List ze},v∈l->szV v<=szL l
 |[],h=>by cases h
 |x::l,h=>by
  rw[szL];rcases ma.1 h with rfl|h
  ·omega
  ·have:=Oh h;omega
theorem Xg: ∀(l:List ze),l.length<=szL l
 |[]=>Xa _
 |v::r=>by rw[szL,Ah,Db];have:=Xg r;omega
theorem lD(n:Nat):decide ((n:Int)>0)=decide (0<n):=by
 grind
theorem TF(k:Int):Rp k=some (ZK k):=by
 unfold Rp ZK;by_cases b:k=19
 ·subst b;rfl
 by_cases d:k=21
 ·subst d;rfl
 by_cases c:k=2
 ·subst c;rfl
 by_cases a:k=23
 ·subst a;rfl
 have g:(k==19)=false:=Ea.2 b;have h:(k==21)=false:=Ea.2 d;have e:(k==2)=false:=Ea.2 c;have f:(k==23)=false:=Ea.2 a;simp only[g,h,e,f,Ca,zX,b,d,c,a,if_false,or_self]
theorem EH(k:Int):Pj k=some (ZK k):=by
 unfold Pj ZK;by_cases b:k=19
 ·subst b;rfl
 by_cases d:k=21
 ·subst d;rfl
 by_cases c:k=2
 ·subst c;rfl
 by_cases a:k=23
 ·subst a;rfl
 have g:(k==19)=false:=Ea.2 b;have h:(k==21)=false:=Ea.2 d;have e:(k==2)=false:=Ea.2 c;have f:(k==23)=false:=Ea.2 a;simp only[g,h,e,f,Ca,zX,b,d,c,a,if_false,or_self]
mutual
/-- The depth of values. -/
def ah:ze->Nat
 |⟨t,l⟩=>if ZK t.kind=0 then 0 else 1+QL l
def QL:List ze->Nat
 |[]=>0
 |v::r=>max (ah v) (QL r)
end
theorem YS(v:ze):ah v=if ZK v.token.kind=0 then 0 else 1+QL v.list:=by obtain⟨t,l⟩:=v;rw[ah]
mutual
theorem zIQ: ∀v:ze,ah v<=szV v
 |⟨t,l⟩=>by rw[ah,szV];have:=Ij l;split<;>omega
theorem Ij: ∀l:List ze,QL l<=szL l
 |[]=>Xa _
 |v::r=>by rw[QL,szL];have:=zIQ v;have:=Ij r;omega
end
theorem aU(f:ze->Nat): ∀(l:List ze) (a:Nat),l.foldl (fun a v=>max a (f v)) a=max a (l.foldr (fun v a=>max (f v) a) 0)
 |[],a=>by simp
 |v::l,a=>by rw[He,aU f l,List.foldr_cons];omega
theorem aS: ∀(l:List ze),QL l=l.foldr (fun v a=>max (ah v) a) 0
 |[]=>by rw[QL];rfl
 |v::l=>by rw[QL,aS l];rfl
theorem jw{l:List ze}(h:szL l<=big):qV l=some (QL l:Int):=by
 refine Zx (fun l=>szL l) (fun l=>szL l<=big) (fun l=>(QL l:Int)) (fun S l n j=> ?_) h;unfold gz;have e:=Xg l;refine(Dk l (fun i (a:Nat)=>((a:Int),(i:Int))) (fun v a=>some (.again (max a (ah v)))) (fun a=>some (.out (a:Int))) (a:=0) rfl (fun i a b=> ?_) (fun a=> ?_) (r:= .out (QL l:Int)) ?_)
 ·have f:=Oh (Ga b);have k:=Ah l[i];have c:=YS l[i];have g:=Ij l[i].list;simp only[zO b,Da,za,zN b,Aa,TF];by_cases d:ZK l[i].token.kind=0
  ·rw[Ya d]at c;simp[d,c,zH b (by omega)]
  ·rw[ja d]at c;rw[j l[i].list (by omega) (by omega)];have m:w64 (1+(QL l[i].list:Int))=((1+QL l[i].list:Nat):Int):=by rw[w64,qz (by omega) (by grind)];omega
   simp only[Ef.2 d,Da,Aa,zX,zH b (by omega),m,c,Ee]
   grind
 ·grind
 ·rw[Lj (fun a v=>max a (ah v)) (fun v a=>rfl),aU,<-aS];simp
theorem iw{l:List ze}: ∀{i:Nat} (h:i<l.length),szL (l.take (i+1))=szL (l.take i)+szV l[i]:=by
 induction l with
 |nil=>grind
 |cons v r a=>
  intro i h;cases i with
  |zero=>simp[szL]
  |succ i=>
   simp only[yc,szL,List.getElem_cons_succ]
   grind
theorem gy(l:List ze)(i:Nat):szL (l.take i)<=szL l:=by
 induction l generalizing i with
 |nil=>simp
 |cons v r a=>
  cases i with
  |zero=>simp[szL]
  |succ i=>simp only[yc,szL];grind
mutual
/-- The tokens of values. -/
def tokV:ze->List zk
 |⟨t,l⟩=>t::if ZK t.kind=0 then []else tokL l++[⟨ZK t.kind,[],0,[],false⟩]
def tokL:List ze->List zk
 |[]=>[]
 |v::r=>tokV v++tokL r
end
theorem rD(v:ze):tokV v=v.token::if ZK v.token.kind=0 then []else tokL v.list++[⟨ZK v.token.kind,[],0,[],false⟩]:=by obtain⟨t,l⟩:=v;rw[tokV]
mutual
theorem Kr: ∀v:ze,(tokV v).length<=2*szV v
 |⟨t,l⟩=>by
  rw[tokV,szV];have:=Eo l
  grind
theorem Eo: ∀l:List ze,(tokL l).length<=2*szL l
 |[]=>Xa _
 |v::r=>by rw[tokL,szL,Ab];have:=Kr v;have:=Eo r;omega
end
theorem Ox: ∀(l:List ze) (a:List zk),l.foldl (fun a v=>a++tokV v) a=a++tokL l
 |[],a=>by simp[tokL]
 |v::l,a=>by rw[He,Ox l,tokL,List.append_assoc]
theorem LK{l:List ze}(h:szL l<=big):Ql l=some (tokL l):=by
 refine Zx (fun l=>szL l) (fun l=>szL l<=big) (fun l=>tokL l) (fun S l j o=> ?_) h;unfold BB;have f:=Xg l;refine(Po l (fun i (a:List zk)=>((i:Int),a)) (fun v a=>some (.again (a++tokV v))) (fun a=>some (.out a)) (fun i a=>a.length<=2*szL (l.take i)) (a:=[]) rfl (by simp) (fun i a c u=> ?_) (fun a _=> ?_) (r:= .out (tokL l)) ?_)
 ·have g:=Oh (Ga c);have t:=Ah l[i];have d:=rD l[i];have k:=Eo l[i].list;have w:=iw c;have q:=gy l (i+1);have s:=Kr l[i];unfold big at j;have b: ∀n m:Nat,n+m<=100000000->Zo n m 56=true:=fun n m h=>Dj (by omega);refine⟨?_,fun x y=> ?_⟩
  ·simp only[zO c,Da,za,zN c,Aa,TF];by_cases e:ZK l[i].token.kind=0
   ·rw[Ya e]at d;simp[e,d,zH c (by unfold big;omega),b a.length 1 (by omega)]
   ·rw[ja e]at d;rw[o l[i].list (by unfold big;omega) (by omega)];have p:(ZK l[i].token.kind != 0)=true:=Ef.2 e;simp[p,d,zH c (by unfold big;omega),b a.length 1 (by omega),b (a.length+1) (tokL l[i].list).length (by omega),b (a.length+((tokL l[i].list).length+1)) 1 (by omega)]
  ·grind
 ·grind
 ·rw[Lj (fun a v=>a++tokV v) (fun v a=>rfl),Ox];simp
mutual
/-- Whether lists are those of blocks, and have not their closers. -/
def shV:ze->Int->Bool
 |⟨t,l⟩,c=> !((ZK t.kind==0&&decide (0<l.length))||(c != 0&&t.kind==c)||(ZK t.kind != 0&& !(shL l (ZK t.kind))))
def shL:List ze->Int->Bool
 |[],_=>true
 |v::r,c=>shV v c&&shL r c
end
theorem lQ(v:ze)(c:Int):shV v c= !((ZK v.token.kind==0&&decide (0<v.list.length))||(c != 0&&v.token.kind==c)||(ZK v.token.kind != 0&& !(shL v.list (ZK v.token.kind)))):=by obtain⟨t,l⟩:=v;rw[shV]
theorem zFN{l:List ze}{c:Int}(h:szL l<=big):QQ (l,c)=some (shL l c):=by
 refine Zx (fun x:List ze×Int=>szL x.1) (fun x=>szL x.1<=big) (fun x=>shL x.1 x.2) (fun S x A q=> ?_) h;obtain⟨l,c⟩:=x;simp only at A q ⊢;unfold AB;have m:=Xg l;have f: ∀l:List ze,Mf (fun v (_:Unit)=>if shV v c=true then some (.again ())else some (.ret false)) (fun _=>some (.out ())) l ()=some (if shL l c=true then .out ()else .ret false):=by
  intro l
  induction l with
  |nil=>simp[Mf,shL]
  |cons v r y=>
   by_cases n:shV v c=true
   ·simpa [Mf,shL,n] using y
   ·simp[Mf,shL,n]
 refine(Dk l (fun i (_:Unit)=>(i:Int)) (fun v (_:Unit)=>if shV v c=true then some (.again ())else some (.ret false)) (fun _=>some (.out ())) (a:=()) rfl (fun i a d=> ?_) (fun a=> ?_) (f l)).trans ?_
 ·have C:=Oh (Ga d);have w:=Ah l[i];have z:=lQ l[i] c;simp only[zO d,Da,za,zN d,Aa,TF];have g:szL l[i].list<=big:=by omega
  have j:szL l[i].list<szL l:=by omega
  have e: ∀b,S (l[i].list,b)=some (shL l[i].list b):=fun b=>q (l[i].list,b) g j;rw[z];have o:decide ((l[i].list.length:Int)>0)=decide (0<l[i].list.length):=lD _;have B:=zH d (by omega);simp only[bne,o];rcases Vb (ZK l[i].token.kind==0)with k|k<;>rcases Vb (decide (0<l[i].list.length))with u|u<;>rcases Vb (c==0)with s|s<;>rcases Vb (l[i].token.kind==c)with p|p<;>rcases Vb (shL l[i].list (ZK l[i].token.kind))with t|t<;>
   simp only[e,o,k,u,s,p,t,B,Da,Ca,Ta,Ra,Rb,Bc,Sa,Ac,Bool.or_true,Xc,Me,Oc,Zm,qi,Aa,if_true,if_false,Ee,Dg]
 ·grind
 ·cases h:shL l c<;>simp
def sj(l:List ze)(c:Int):zS:=⟨QL l,(tokL l).length, !(shL l c)⟩
theorem DU(c:Int): ∀(l:List ze) (a:Nat×Nat×Bool),l.foldl (fun a v=>(max a.1 (ah v),a.2.1+(tokV v).length,a.2.2|| !(shV v c))) a=(max a.1 (QL l),a.2.1+(tokL l).length,a.2.2|| !(shL l c))
 |[],a=>by simp[QL,tokL,shL]
 |v::l,a=>by
  rw[He,DU c l,QL,tokL,shL,Ab];simp only[Prod.mk.injEq]
  grind
theorem zKe(a b:Bool):(bif a then true else b)=(a||b):=by cases a<;>rfl
theorem zIH(a b:Bool):(bif a then b else false)=(a&&b):=by cases a<;>rfl
theorem yL{l:List ze}{c:Int}(h:szL l<=big):Li (l,c)=some (sj l c):=by
 refine Zx (fun x:List ze×Int=>szL x.1) (fun x=>szL x.1<=big) (fun x=>sj x.1 x.2) (fun S x C E=> ?_) h;obtain⟨l,c⟩:=x;simp only at C E ⊢;unfold iy;have B:=Xg l;refine(Po l (fun i (a:Nat×Nat×Bool)=>((i:Int),(⟨(a.1:Int),(a.2.1:Int),a.2.2⟩:zS))) (fun v a=>some (.again (max a.1 (ah v),a.2.1+(tokV v).length,a.2.2|| !(shV v c)))) (fun a=>some (.out (⟨(a.1:Int),(a.2.1:Int),a.2.2⟩:zS))) (fun i a=>a.2.1<=2*szL (l.take i)) (a:=(0,0,false)) rfl (by simp) (fun i a j J=> ?_) (fun a _=> ?_) (r:= .out (sj l c)) ?_)
 ·have N:=Oh (Ga j);have H:=Ah l[i];have m:=YS l[i];have O:=Ij l[i].list;have o:=rD l[i];have P:=Eo l[i].list;have e:=lQ l[i] c;have K:=iw j;have G:=gy l (i+1);have Q:=Kr l[i];have w:szL l[i].list<=big:=by omega
  have y:szL l[i].list<szL l:=by omega
  have p:S (l[i].list,ZK l[i].token.kind)=some (sj l[i].list (ZK l[i].token.kind)):=E (l[i].list,ZK l[i].token.kind) w y;obtain⟨d,n,b⟩:=a;simp only at J;have D:=zH j (by omega);unfold big at C;have u:w64 ((n:Int)+1)=((n+1:Nat):Int):=by rw[w64,qz (by omega) (by omega)];omega
  refine⟨?_,fun R T=> ?_⟩
  ·have L:decide ((l[i].list.length:Int)>0)=decide (0<l[i].list.length):=lD _;simp only[zO j,Da,za,zN j,Aa,EH,Ee,u,bne,L,zKe,zIH];by_cases k:ZK l[i].token.kind=0
   ·rw[Ya k]at m o;simp only[k,Ic,Sa,Ta,Ac,Xc,bne]at e ⊢;rw[e,m,o];rcases Vb (decide (0<l[i].list.length))with F|F<;>rcases Vb (c==0)with g|g<;>rcases Vb (l[i].token.kind==c)with f|f<;>
     simp[F,g,f,D,Da,Ca]
   ·rw[ja k]at m o;have s:(ZK l[i].token.kind==0)=false:=Ea.2 k;have z:w64 ((QL l[i].list:Int)+1)=((1+QL l[i].list:Nat):Int):=by rw[w64,qz (by omega) (by omega)];omega
    have t:w64 (((n+1:Nat):Int)+((tokL l[i].list).length:Int))=((n+1+(tokL l[i].list).length:Nat):Int):=by rw[w64,qz (by omega) (by omega)];omega
    have A:w64 (((n+1+(tokL l[i].list).length:Nat):Int)+1)=((n+(1+((tokL l[i].list).length+1)):Nat):Int):=by rw[w64,qz (by omega) (by omega)];omega
    have q:(tokV l[i]).length=1+((tokL l[i].list).length+1):=by rw[o];simp;omega
    have M:(if((1+QL l[i].list:Nat):Int)>(d:Int)then((1+QL l[i].list:Nat):Int)else(d:Int))=((max d (1+QL l[i].list):Nat):Int):=by split<;>omega
    rw[e,m,q];simp only[s,p,Ac,Ra,Sa,Xc,Oc,Ca,bne,Aa,sj];rcases Vb (c==0)with g|g<;>rcases Vb (l[i].token.kind==c)with f|f<;>
     simp only[g,f,D,z,t,A,M,Da,Ca,zX,Ta,Ra,Sa,Rb,Bc,Ac,Bool.or_true,Xc,Me,Oc,Vd]
  grind
 ·grind
 ·rw[Lj (fun a v=>(max a.1 (ah v),a.2.1+(tokV v).length,a.2.2|| !(shV v c))) (fun v a=>rfl),DU];simp[sj]
theorem FR{a b:List ze}(h:a.Sublist b):szL a<=szL b:=by
 induction h with
 |slnil=>grind
 |cons v _ c=>rw[szL];omega
 |cons_cons v _ c=>rw[szL,szL];omega
theorem FL(l:List ze):l=[]\/ ∃t v,l=t++[v]:=by
 rcases List.eq_nil_or_concat l with h|⟨t,v,h⟩
 ·exact .inl h
 grind
def isSp(v:ze):Bool:=v.token.kind==13
def trimB(l:List ze):List ze:=(l.reverse.dropWhile isSp).reverse
theorem bF(t:List ze)(v:ze):trimB (t++[v])=if isSp v then trimB t else t++[v]:=by
 unfold trimB;rw[List.reverse_append];simp only[List.reverse_cons,List.reverse_nil,Pd,Ae,Pe]
 grind
theorem zIk(l:List ze):(trimB l).Sublist l:=by
 unfold trimB
 grind
def trimS(l:List ze):List ze:=trimB (l.dropWhile isSp)
theorem zD4{l:List ze}(h:szL l<=big):YA l=some (trimS l):=by
 unfold YA;refine(Ph (r:= .out (l.dropWhile isSp)) (jE (fun s=>s.dropWhile isSp=l.dropWhile isSp) (fun s=>s.length) _ (fun s c=> ?_) rfl)).trans ?_
 ·cases s with
  |nil=>simp_all
  |cons v t=>
   have e:decide (((v::t).length:Int)>0)=true:=by rw[lD];simp
   have f:geti (v::t) 0=some v:=rfl;have n:decide ((1:Int)<=((v::t).length:Int))=true:=by simp;omega
   rw[Pe]at c;cases b:isSp v with
   |true=> rw[b]at c;unfold isSp at b;simp_all
   |false=> rw[b]at c;unfold isSp at b;refine .inr (.inl ⟨v::t,?_,by rw[<-c];rfl⟩);simp only[e,f,Zm,za,Aa,b,Da,Ca]
 ·rw[zGK];have i:szL (l.dropWhile isSp)<=big:=Kb (FR (List.dropWhile_sublist _)) h;unfold trimS;generalize l.dropWhile isSp=d at i;refine(Ph (r:= .out (trimB d)) (jE (fun s=>trimB s=trimB d/\szL s<=big) (fun s=>s.length) _ (fun s c=> ?_) ⟨rfl,i⟩)).trans ?_
  ·rcases FL s with rfl|⟨t,v,rfl⟩
   ·exact .inr (.inl ⟨[],by simp,by rw[<-c.1];rfl⟩)
   ·have g:=Xg (t++[v]);have k:(t++[v]).length=t.length+1:=by simp
    have m:=c.2;unfold big at m;have e:decide (((t++[v]).length:Int)>0)=true:=by rw[lD];simp
    have j:w64 (((t++[v]).length:Int) - 1)=(t.length:Int):=by rw[w64,qz (by omega) (by omega)];omega
    have f:geti (t++[v]) (t.length:Int)=some v:=by rw[zN (by omega)];simp
    have n:(decide ((0:Int)<=(t.length:Int))&&decide ((t.length:Int)<=((t++[v]).length:Int)))=true:=by simp;omega
    have a:=c.1;rw[bF]at a;cases b:isSp v with
    |true=> rw[Ya b]at a;unfold isSp at b;refine .inl ⟨t,?_,⟨a,Kb (FR (List.sublist_append_left t [v])) c.2⟩,by simp⟩;simp_all
    |false=> rw[ja (by rw[b];simp)]at a;unfold isSp at b;refine .inr (.inl ⟨t++[v],?_,by rw[<-a]⟩);simp only[e,j,f,Zm,za,Aa,b,Da,Ca]
  ·rw[zGK]
def errS(l:List ze):Int:=if 16<QL l then 20 else if 1500<(tokL l).length then 4 else if shL l 0 then 0 else 8
theorem zHN{l:List ze}(h:szL l<=big):Nz l=some (errS l):=by
 unfold Nz errS;simp only[za,jw h,LK h,zFN h,Aa]
 grind
theorem NK{l:List ze}(h:szL l<=big):Pt l=some (errS l):=by
 unfold Pt errS;simp only[za,yL h,Aa,sj]
 grind
theorem YF{l:List ze}(h:szL l<=big):Nk l=some (if errS l=0 then((QL l:Int),0)else(0,errS l)):=by
 unfold Nk;simp only[za,NK h,yL h,Aa,sj]
 grind
theorem Mh: ∀l:List ze,szL l<=zL Zp l:=by
 have a: ∀(n:Nat) (l:List ze),zL Zp l<n->szL l<=zL Zp l:=by
  intro n
  induction n with
  |zero=>intro l h;omega
  |succ n d=>
   intro l
   induction l with
   |nil=>intro _;rw[szL];grind
   |cons v l b=>
    intro h;rw[rf]at h ⊢;rw[szL,Ah];have c:=zIo v
    grind
 grind
theorem zIY{l:List ze}{a:List zk}(h:szL l<=big)(e:a.length+2*szL l<=4*big):Oj (l,a)=some (a++tokL l):=by
 refine Zx (fun z=>szL z.1) (fun z=>szL z.1<=big/\z.2.length+2*szL z.1<=4*big) (fun z=>z.2++tokL z.1) (fun S z q s=> ?_) (x:=(l,a)) ⟨h,e⟩;obtain⟨l,a⟩:=z;obtain⟨h,e⟩:=q;have h:szL l<=big:=h;have e:a.length+2*szL l<=4*big:=e;have j:=Xg l;unfold fA;refine(Po l (fun i (b:List zk)=>((i:Int),b)) (fun v b=>some (.again (b++tokV v))) (fun b=>some (.out b)) (fun i b=>b.length<=a.length+2*szL (l.take i)) (a:=a) rfl (by simp) (fun i b d A=> ?_) (fun b _=> ?_) (r:= .out (a++tokL l)) ?_).trans rfl
 ·have o:=Oh (Ga d);have y:=Ah l[i];have f:=rD l[i];have p:=Eo l[i].list;have B:=iw d;have u:=gy l (i+1);have w:=Kr l[i];unfold big at h e;have c: ∀n m:Nat,n+m<=100000000->Zo n m 56=true:=fun n m h=>Dj (by omega);refine⟨?_,fun C k=> ?_⟩
  ·simp only[zO d,Da,za,zN d,Aa,EH];by_cases g:ZK l[i].token.kind=0
   ·rw[Ya g]at f;simp[g,f,zH d (by unfold big;omega),c b.length 1 (by omega)]
   ·rw[ja g]at f;rw[s (l[i].list,b++[l[i].token]) ⟨by grind,by grind⟩ (by grind)];have t:(ZK l[i].token.kind != 0)=true:=Ef.2 g;simp[t,f,zH d (by unfold big;omega),c b.length 1 (by omega),c (b.length+((tokL l[i].list).length+1)) 1 (by omega)]
  ·grind
 ·grind
 ·rw[Lj (fun a v=>a++tokV v) (fun v a=>rfl),Ox]
theorem zIX{l:List ze}(h:szL l<=big):jy l=some (tokL l):=by
 have g:=Xg l;unfold jy;refine(Po l (fun i (b:List zk)=>((i:Int),b)) (fun v b=>some (.again (b++tokV v))) (fun b=>some (.out b)) (fun i b=>b.length<=2*szL (l.take i)) (a:=[]) rfl (by simp) (fun i b d u=> ?_) (fun b _=> ?_) (r:= .out (tokL l)) ?_).trans rfl
 ·have k:=Oh (Ga d);have t:=Ah l[i];have e:=rD l[i];have o:=Eo l[i].list;have w:=iw d;have q:=gy l (i+1);have s:=Kr l[i];unfold big at h;have c: ∀n m:Nat,n+m<=100000000->Zo n m 56=true:=fun n m h=>Dj (by omega);refine⟨?_,fun x j=> ?_⟩
  ·simp only[zO d,Da,za,zN d,Aa,EH];by_cases f:ZK l[i].token.kind=0
   ·rw[Ya f]at e;simp[f,e,zH d (by unfold big;omega),c b.length 1 (by omega)]
   ·rw[ja f]at e;rw[zIY (a:=b++[l[i].token]) (show szL l[i].list<=big by unfold big;omega) (by grind)];have p:(ZK l[i].token.kind != 0)=true:=Ef.2 f;simp[p,e,zH d (by unfold big;omega),c b.length 1 (by omega),c (b.length+((tokL l[i].list).length+1)) 1 (by omega)]
  ·grind
 ·grind
 ·rw[Lj (fun a v=>a++tokV v) (fun v a=>rfl),Ox];simp
theorem zCg{l:List ze}(h:szL l<=big):dx l=some (if errS l=0 then(tokL l,0)else([],errS l)):=by
 unfold dx;simp only[NK h,za,Aa];by_cases he:errS l=0
 ·have:(errS l != 0)=false:=by rw[he];rfl
  rw[this,Ca,zIX h,Ya he];rfl
 grind
end Go.Lv.VT

namespace Go.Lv
theorem Le.lp{S X R:Type}{step step':S->Option (LO S X R)}{s:S}{k k':X->Option R}(h: ∀s,Le (step s) (step' s))(hk: ∀x,Le (k x) (k' x)):Le (zZ step s k) (zZ step' s k'):=by
 intro y hy;unfold zZ at hy;cases hl:pg step s with
 |none=>rw[hl]at hy;cases hy
 |some r=>
  rw[hl]at hy;obtain⟨n,hn⟩:=UK hl;rw[Ph (Fh (FE h n s r hn))];cases r with
  |out x=>exact hk x y hy
  |ret r=>exact hy
def Wi{X Y:Type}(B:(X->Option Y)->X->Option Y):Prop:= ∀S S':X->Option Y,(∀x,Le (S x) (S' x))-> ∀x,Le (B S x) (B S' x)
theorem Ck {X Y:Type} {B:(X->Option Y)->X->Option Y} (hm:Wi B) (μ:X->Nat) (ok:X->Prop) (R:X->Y->Prop)
  (hB: ∀(S:X->Option Y) (x:X),ok x->(∀z,ok z->μ z<μ x-> ∃y,S z=some y/\R z y)-> ∃y,B S x=some y/\R x y) {x:X} (hx:ok x): ∃y,recE B x=some y/\R x y:=by
 have step: ∀n x,Le (Re B n x) (Re B (n+1) x):=by
  intro n
  induction n with
  |zero=>intro x;exact Le.none
  |succ n ih=>intro x;exact hm _ _ ih x
 have up: ∀d n x,Le (Re B n x) (Re B (n+d) x):=by
  intro d
  induction d with
  |zero=>intro n x;exact Le.rfl
  |succ d ih=>intro n x y hy;exact step _ x y (ih n x y hy)
 have key: ∀(m:Nat) (x:X),μ x<m->ok x-> ∃y,Re B m x=some y/\R x y:=by
  intro m
  induction m with
  |zero=>intro x h;omega
  |succ m ih=> intro x hm hok;exact hB _ x hok fun z hz hlt=>ih z (by omega) hz
 obtain⟨y,h1,h2⟩:=key (μ x+1) x (by omega) hx;refine⟨y,vJ (N:=μ x+1) fun n hn=> ?_,h2⟩;obtain⟨d,rfl⟩:=Nat.le.dest hn;exact up d _ x y h1
theorem Ls {A S X R:Type} {step:S->Option (LO S X R)} {k:X->Option R} (n:Nat) (st:Nat->A->S) (Inv:Nat->A->Prop) (Q:R->Prop) {s0:S} {a0:A} (h0:s0=st 0 a0) (hI:Inv 0 a0)
  (hg: ∀(i:Nat) (a:A),i<n->Inv i a->(∃a',step (st i a)=some (.again (st (i+1) a'))/\Inv (i+1) a')\/(∃r,step (st i a)=some (.ret r)/\Q r)\/(∃x,step (st i a)=some (.out x)/\ ∃r,k x=some r/\Q r))
  (hf: ∀a,Inv n a->(∃x,step (st n a)=some (.out x)/\ ∃r,k x=some r/\Q r)\/(∃r,step (st n a)=some (.ret r)/\Q r)): ∃r,zZ step s0 k=some r/\Q r:=by
 have key: ∀(m i:Nat) (a:A),i+m=n->Inv i a-> ∃j x,qj step j (st i a)=some x/\ ∃r,LX.go x k=some r/\Q r:=by
  intro m
  induction m with
  |zero=>
   intro i a hi ha;obtain rfl:i=n:=by omega
   rcases hf a ha with⟨x,h1,r,h2,h3⟩|⟨r,h1,h2⟩
   ·exact⟨1, .out x,by simp only[qj,h1],r,h2,h3⟩
   ·exact⟨1, .ret r,by simp only[qj,h1],r,rfl,h2⟩
  |succ m ih=>
   intro i a hi ha;rcases hg i a (by omega) ha with⟨a',h1,h2⟩|⟨r,h1,h2⟩|⟨x,h1,r,h2,h3⟩
   ·obtain⟨j,x,g1,g2⟩:=ih (i+1) a' (by omega) h2;exact⟨j+1,x,by simp only[qj,h1];exact g1,g2⟩
   ·exact⟨1, .ret r,by simp only[qj,h1],r,rfl,h2⟩
   ·exact⟨1, .out x,by simp only[qj,h1],r,h2,h3⟩
 obtain⟨j,x,h1,r,h2,h3⟩:=key n 0 a0 (by omega) hI;refine⟨r,?_,h3⟩;rw[h0,Ph (Fh h1),h2]
namespace VT
def mx{α:Type}(f:α->Nat):List α->Nat
 |[]=>0
 |v::l=>max (f v) (mx f l)
theorem Ej {α S X R:Type} {step:S->Option (LO S X R)} {k:X->Option R} (l:List α) (f:α->Nat) (st:Nat->Nat->S) (out:Nat->X) {s0:S} {a0:Nat} (h0:s0=st a0 0)
  (hg: ∀(i a:Nat) (h:i<l.length),step (st a i)=some (.again (st (max a (f l[i])) (i+1))))
  (hf: ∀a:Nat,step (st a l.length)=some (.out (out a))):zZ step s0 k=k (out (max a0 (mx f l))):=by
 have key: ∀(m:List α) (i a:Nat),l.drop i=m->i<=l.length-> ∃n,qj step n (st a i)=some (.out (out (max a (mx f m)))):=by
  intro m
  induction m with
  |nil=>
   intro i a hd hi;have:i=l.length:=by have:=Jc.1 hd;omega
   subst this;exact⟨1,by simp only[qj,hf,mx];rw[Nat.max_zero]⟩
  |cons v m ih=>
   intro i a hd hi;have hlt:i<l.length:=by
    rcases De i l.length with h|h
    ·exact h
    ·rw[List.drop_eq_nil_of_le h]at hd;cases hd
   have hv:l[i]=v:=by have:=Ua hlt;rw[hd]at this;injection this with h1 _;exact h1.symm
   have hs:=hg i a hlt;rw[hv]at hs;obtain⟨n,hn⟩:=ih (i+1) (max a (f v)) (by rw[Ua hlt]at hd;injection hd) (by omega);refine⟨n+1,?_⟩;simp only[qj,hs];rw[hn,mx,Nat.max_assoc]
 obtain⟨n,hn⟩:=key l 0 a0 rfl (by omega);rw[h0,Ph (Fh hn)];rfl
theorem yg(a b:Nat):(if(b:Int)>(a:Int)then(b:Int)else(a:Int))=((max a b:Nat):Int):=by split<;>omega
end VT
end Go.Lv

namespace Go.Lv.VT
set_option maxRecDepth 100000
theorem ZE{α:Type}(l:List α):((l.length:Int)==0)=l.isEmpty:=by
 cases l with
 |nil=>rfl
 |cons a l=>exact Ea.2 (by simp only[Db];omega)
theorem Dy(v:ze):(⟨v.token,v.list⟩:ze)=v:=by cases v;rfl
def Gh(x:Str):Bool:= !(x==[])&&(decide (x.length<=64)&&(QG x&&(bif List.isPrefixOf [45,45] x then !(x==[45,45])else lowS x==x)))
theorem IX{x:Str}(h:x.length<=big):Uy x=some (Gh x):=by
 have e:decide ((x.length:Int)>64)= !decide (x.length<=64):=Df _ 64;have e1:decide (Lib.indexByte x (0:Int).toNat.toUInt8>=0)= !QG x:=Nr x;have ec:=Ey x (lowS x);unfold Uy Gh;simp only[Ou,zP,za,Aa,pz,Ot h,e,ec];cases x==[]<;>cases decide (x.length<=64)<;>try rfl
 simp only[Da,Ca,Ta,Ra,Sa,Xc,e1];cases QG x<;>cases List.isPrefixOf [45,45] x<;>rfl
theorem wS(x:Str):(bif decide ((x.length:Int)>=2)then List.take 2 x==[45,45]else false)=List.isPrefixOf [45,45] x:=by
 cases x with
 |nil=>rfl
 |cons a x=>
  cases x with
  |nil=>show(bif decide _ then _ else _)=((45==a)&&false);rw[Bc];rfl
  |cons b x=> have:decide ((((a::b::x:Str)).length:Int)>=2)=true:=Ma (by simp only[Db];omega);rw[this];show((a==45)&&((b==45)&&true))=((45==a)&&((45==b)&&true));rw[Bool.beq_comm (a:=a),Bool.beq_comm (a:=b)]
theorem xS{x:Str}(h:List.isPrefixOf [45,45] x=true):decide ((x.length:Int)>2)= !(x==[45,45]):=by
 obtain⟨t,rfl⟩:=List.isPrefixOf_iff_prefix.1 h;cases t with
 |nil=>rfl
 |cons a t=> have:decide ((([45,45]++a::t:Str).length:Int)>2)=true:=Ma (by simp only[Ab,Db];omega);rw[this];rfl
theorem rX{x:Str}(h:x.length<=big):Kz x=some (Gh x):=by
 have e:decide ((x.length:Int)>64)= !decide (x.length<=64):=Df _ 64;have en:decide ((x.length:Int)<1)=(x==[]):=by cases x with
  |nil=>rfl
  |cons a x=>exact Na (by simp only[Db];omega)
 have ec:=Ey x (lowS x);have hk:(need (decide ((2:Int)<=(x.length:Int))|| !(decide ((x.length:Int)>=2)))<|
   bif bif decide ((x.length:Int)>=2)then List.take 2 x==[45,45]else false then some (decide ((x.length:Int)>2))else za (Qy x) fun y4=>some (x==y4))=some (bif List.isPrefixOf [45,45] x then !(x==[45,45])else lowS x==x):=by
  have e2:(decide ((2:Int)<=(x.length:Int))|| !(decide ((x.length:Int)>=2)))=true:=by show(decide _|| !decide ((2:Int)<=_))=true;cases decide ((2:Int)<=(x.length:Int))<;>rfl
  rw[e2,Z8,wS];cases hp:List.isPrefixOf [45,45] x with
  |true=>rw[Da,Da,xS hp]
  |false=>simp only[Ca,Bt h,za,Aa,ec]
 unfold Kz Gh;rw[hk];have hl: ∀b:Bool,zZ (fun(s1:Int)=>bif decide (s1<(x.length:Int))then
    za (geti x s1) fun y2=>bif (y2.toNat:Int)==0 then some (LO.ret false)else some (LO.again (w64 (s1+1)))
   else some (LO.out ()):Int->Option (LO (Int) (Unit) _)) 0 (fun _=>some b)=some (QG x&&b):=by
  intro b;refine(ZZ x (fun b=>bif (!(b==0))then none else some false) () (fun i hi=> ?_) ?_).trans ?_
  ·simp only[zO hi,Da,zN hi,za,Aa,byte_zero,zH hi h];cases x[i]==0<;>rfl
  ·simp only[zR,Ca]
  ·rw[Q9];unfold QG;cases x.all (fun b=> !(b==0))<;>rfl
 rw[hl,e,en];cases x==[]<;>cases decide (x.length<=64)<;>rfl
def clK(v:ze):Bool:=v.token.kind==20||(v.token.kind==22||v.token.kind==24)
mutual
def clV:ze->Bool
 |⟨t,l⟩=>clK ⟨t,l⟩||clL l
def clL:List ze->Bool
 |[]=>false
 |v::r=>clV v||clL r
end
theorem BR(v:ze):clV v=(clK v||clL v.list):=by obtain⟨t,l⟩:=v;rw[clV]
theorem yR(l:List ze):clL l=l.any clV:=by
 induction l with
 |nil=>rw[clL];rfl
 |cons v l ih=>rw[clL,ih];rfl
theorem N8{l:List ze}(h:szL l<=big):Zi l=some (clL l):=by
 refine Zx (fun l=>szL l) (fun l=>szL l<=big) (fun l=>clL l) (fun S l hl hS=> ?_) h;have hlen:=Xg l;unfold MB Q7 PI;have:=Fj (Gi (step:=fun(s1:Int)=>
   bif decide (s1<(l.length:Int))then
    za (geti l s1) fun y2=>
    za (ou S (⟨y2.token,y2.list⟩:ze)) fun y3=>
    bif y3 then some (LO.ret s1)else some (LO.again (w64 (s1+1)))
   else some (LO.out ())) l clV (by omega) (fun i hi=> ?_) ?_) (Ii _ _)
 ·rw[this,yR];rfl
 ·have hsz:=Oh (Ga hi);have hv2:=Ah l[i];have hs:=hS l[i].list (by omega) (by omega);have:ou S l[i]=some (clV l[i]):=by unfold ou Qs;simp only[Dy,zP,za,Aa,hs,BR,clK];cases l[i].token.kind==20<;>cases l[i].token.kind==22<;>cases l[i].token.kind==24<;>rfl
  simp only[zO hi,Da,zN hi,za,Aa,Dy,this]
 ·simp only[zR,Ca]
theorem w9{l:List ze}(h:szL l<=big):Qi l=some (clL l):=by
 refine Zx (fun l=>szL l) (fun l=>szL l<=big) (fun l=>clL l) (fun S l hl hS=> ?_) h;have hlen:=Xg l;unfold dB;refine(ZZ l (fun v=>bif clV v then some true else none) () (fun i hi=> ?_) ?_).trans ?_
 ·have hsz:=Oh (Ga hi);have hv2:=Ah l[i];have hs:=hS l[i].list (by omega) (by omega);simp only[zO hi,Da,zN hi,za,Aa,BR,clK,zH hi (show l.length<=big by omega)];cases h1:l[i].token.kind==20<;>cases h2:l[i].token.kind==22<;>cases h3:l[i].token.kind==24<;>
   first|rfl|(simp only[Ca,Ra,Zm,Aa,hs,Oc];cases clL l[i].list<;>rfl)
 ·simp only[zR,Ca]
 ·rw[NE,yR];cases l.any clV<;>rfl
def Al(l:List ze):Bool:=match l with
 |[]=>false
 |v::r=>isSp v||isSp ((v::r).getLast (by simp))
theorem zFn(t:List ze)(v:ze):Al (t++[v])=((match t with|[]=>isSp v|a::_=>isSp a)||isSp v):=by
 cases t with
 |nil=>rfl
 |cons a t=> show(isSp a||isSp ((a::(t++[v])).getLast _))=_;congr 2;have:(a::(t++[v]))=(a::t)++[v]:=rfl;simp only[this,List.getLast_append_of_ne_nil,List.getLast_singleton,ne_eq,reduceCtorEq,ve]
theorem FU(l:List ze):(trimB l).length<=l.length:=(zIk l).length_le
theorem zFT(l:List ze):((trimS l).length==l.length)= !Al l:=by
 rcases FL l with rfl|⟨t,v,rfl⟩
 ·rfl
 ·rw[zFn];have hl:(t++[v]).length=t.length+1:=by simp
  cases t with
  |nil=>
   show((trimB (List.dropWhile isSp [v])).length==1)= !(isSp v||isSp v);cases hv:isSp v with
   |true=>simp only[Pe,hv];rfl
   |false=> simp only[Pe,hv];have:=bF [] v;rw[hv]at this;show((trimB [v]).length==1)=true;rw[show trimB [v]=[v]from this];rfl
  |cons a t=>
   show((trimB (List.dropWhile isSp (a::(t++[v])))).length==_)= !(isSp a||isSp v);have hb:=FU (List.dropWhile isSp (a::(t++[v])));cases ha:isSp a with
   |true=> simp only[Pe,ha,if_true]at hb ⊢;have hd:=(List.dropWhile_sublist isSp (l:=t++[v])).length_le;rw[Me,Ta,Ea];rw[hl,Db];rw[Ab,List.length_singleton]at hd;omega
   |false=>
    have e:List.dropWhile isSp (a::(t++[v]))=(a::t)++[v]:=by rw[Pe,ha];rfl
    rw[e,bF];cases hv:isSp v with
    |true=> have:=FU (a::t);rw[Ya rfl,Bool.or_true,Ta,Ea,hl];omega
    |false=>simp
theorem zGC{l:List ze}(h:l.length<=big)(g:Bool)(hg:(l.isEmpty&&g)=false)(k:Bool->Option Int):
  (za (zA (decide ((l.length:Int)>0)&& !g) (geti l 0) (default:ze)) fun y7=>
   za (zA (decide ((l.length:Int)>0)&& !g) (Qs ((⟨y7.token,y7.list⟩:ze),13)) (default:Bool)) fun y8=>
   za (zA (!y8&&(decide ((l.length:Int)>0)&& !g)) (geti l (w64 ((l.length:Int) - 1))) (default:ze)) fun y9=>
   za (zA (!y8&&(decide ((l.length:Int)>0)&& !g)) (Qs ((⟨y9.token,y9.list⟩:ze),13)) (default:Bool)) fun y10=>
   k (bif decide ((l.length:Int)>0)then bif y8 then true else y10 else false))=(if g=true/\l≠[]then(k (bif decide ((l.length:Int)>0)then bif (default:Bool)then true else(default:Bool)else false))else k (Al l)):=by
 cases l with
 |nil=> have:decide ((([]:List ze).length:Int)>0)=false:=rfl;simp only[this,Ac,qi,za,Aa,Bc,Ca,ne_eq,not_true_eq_false,and_false,if_false,Al]
 |cons v r=>
  have e1:decide (((v::r).length:Int)>0)=true:=Ma (by simp only[Db];omega);have e2:geti (v::r) 0=some v:=rfl;cases g with
  |true=>simp only[e1,Ta,Bc,qi,za,Aa,Da,ne_eq,reduceCtorEq,ve,and_self,if_true]
  |false=>
   simp only[e1,Ra,Rb,Zm,za,Aa,Da,e2,Qs,false_and,if_false,reduceCtorEq];have e3:w64 (((v::r).length:Int) - 1)=(r.length:Int):=by rw[Db]at h ⊢;rw[w64,qz (by omega) (by unfold big at h;omega)];omega
   have e4:geti (v::r) (r.length:Int)=some ((v::r).getLast (by simp)):=by rw[zN (by simp),List.getLast_eq_getElem];simp
   rw[e3,e4];simp only[zP,Aa,Al,isSp];cases v.token.kind==13<;>rfl
def badV(v:ze):Bool:=v.token.kind==17||(v.token.kind==9&&v.token.text==[33])
def Gv(custom:Bool)(l:List ze):Bool:= !(l.any badV)&&(!(l.isEmpty&& !custom)&& !Al l)
def Ve(d:Zd):Bool:=Gh d.name&&(errS d.value==0&&(gluS (tokL d.value)==0&&(!clL d.value&&Gv (List.isPrefixOf [45,45] d.name) d.value)))
mutual
theorem zJy: ∀(v:ze) (t:zk),t∈tokV v->t.text.length<=szV v/\t.unit.length<=szV v
 |⟨t,l⟩,u,h=>by
  rw[tokV]at h;rw[szV];rcases ma.1 h with rfl|h
  ·constructor<;>omega
  ·split at h
   ·cases h
   ·rcases jc.1 h with h|h
    ·have:=fw l u h;omega
    ·obtain rfl:=Rc.1 h;exact⟨Sb _,Sb _⟩
theorem fw: ∀(l:List ze) (t:zk),t∈tokL l->t.text.length<=szL l/\t.unit.length<=szL l
 |[],_,h=>by rw[tokL]at h;cases h
 |v::r,u,h=>by
  rw[tokL]at h;rw[szL];rcases jc.1 h with h|h
  ·have:=zJy v u h;omega
  ·have:=fw r u h;omega
end
theorem zI0{l:List ze}(h:szL l<=big):Tt (tokL l)=some (gluS (tokL l)):=
 FV fun t ht=>by have:=fw l t ht;omega
theorem zKJ{l:List ze}(h:szL l<=big):Jp (tokL l)=some (gluS (tokL l)):=
 wX fun t ht=>by have:=fw l t ht;omega
theorem zAW{l:List ze}(h:l.length<=big):qy l=some (l.any badV):=by
 unfold qy GI;refine Fj (Gi l badV h (fun i hi=> ?_) ?_) (Ii _ _)
 ·have:Su l[i]=some (badV l[i]):=by unfold Su Tx Qs badV;simp only[Dy,zP,za,Aa];cases l[i].token.kind==17<;>cases l[i].token.kind==9<;>rfl
  simp only[zO hi,Da,zN hi,za,Aa,Dy,this]
 ·simp only[zR,Ca]
theorem JX{d:Zd}(hv:szL d.value<=big)(hn:d.name.length<=big):Pk d=some (bif Ve d then 0 else 8):=by
 have hlen:=Xg d.value;unfold Pk Ve;rw[zCg hv];simp only[za,Aa,IX hn];cases Gh d.name with
 |false=>simp only[Ra,Da,Ta,qi,Aa,Ac,Ca]
 |true=>
  by_cases he:errS d.value=0
  ·rw[Ya he];have he':(errS d.value==0)=true:=Cc.2 he;have this:((0:Int)==0)=true:=rfl;simp only[he',this,Ta,Ca,Ra,Zm,zI0 hv,Aa,Sa,bne];cases hg:gluS (tokL d.value)==0 with
   |false=>simp only[Ra,Da,Ta,qi,Aa,Ac,Ca]
   |true=>
    simp only[Ta,Ca,Ra,Zm,N8 hv,Aa,Sa];cases clL d.value with
    |true=>rfl
    |false=>
     simp only[Ca,zAW (show d.value.length<=big by omega),Aa,Gv,Ra,Sa];cases d.value.any badV with
     |true=>rfl
     |false=>
      simp only[Ca,pz,zP,Aa,ZE,Ra,Sa];have hp:=zGC (l:=d.value) (by omega) (bif d.value.isEmpty then !(bif d.value.isEmpty then List.isPrefixOf [45,45] d.name else default)else false);cases hd:d.value with
      |nil=>
       cases List.isPrefixOf [45,45] d.name<;>rfl
      |cons v r=> have hp':=hp (by rw[hd];rfl) (fun b=>bif b then some 8 else some 0);rw[hd]at hp';simp only[List.isEmpty_cons,Ca,Dg,false_and,if_false]at hp';simp only[List.isEmpty_cons,Ca,Ac,Ra,Sa];refine Eq.trans hp' ?_;cases Al (v::r)<;>rfl
  ·rw[ja he];have he':(errS d.value==0)=false:=Ea.2 he;simp only[he',bne,Ta,Ca,Ra,Da,qi,Aa,Ac,Bc]
theorem zGu{x:Str}(hn:Gh x=true):dz x=some (List.isPrefixOf [45,45] x):=by
 unfold dz;have e2:(decide ((2:Int)<=(x.length:Int))|| !(decide ((x.length:Int)>2)))=true:=by
  by_cases h:2<=x.length
  ·rw[Ma (show(2:Int)<=(x.length:Int) by omega)];rfl
  ·rw[Na (show¬((x.length:Int)>2) by omega)];simp
 rw[Nw e2];have hp:=wS x;cases hpp:List.isPrefixOf [45,45] x with
 |true=> rw[hpp]at hp;have h3:=xS hpp;unfold Gh at hn;rw[hpp]at hn;simp only[Da,Fa]at hn;rw[hn.2.2.2]at h3;rw[h3];have:decide ((x.length:Int)>=2)=true:=Ma (by have:=Jb h3;omega);rw[this]at hp;exact congrArg some hp
 |false=>
  rw[hpp]at hp;cases h3:decide ((x.length:Int)>2)with
  |false=>rfl
  |true=> have:decide ((x.length:Int)>=2)=true:=Ma (by have:=Jb h3;omega);rw[this]at hp;exact congrArg some hp
theorem zKU{α:Type}(a b:List α):((a.length:Int)==(b.length:Int))=(a.length==b.length):=by rw[Pf,Cc,Cc];omega
theorem M4{x:Str}{l:List ze}(h:szL l<=big)(hn:Gh x=true):
  cz (x,l)=some (errS l==0&&(gluS (tokL l)==0&&(!clL l&&Gv (List.isPrefixOf [45,45] x) l))):=by
 have hlen:=Xg l;unfold cz;simp only[zHN h,LK h,za,Aa,bne,zP];cases he:errS l==0 with
 |false=>simp only[Ra,Da,Ta,qi,Aa,Ac,Ca]
 |true=>
  simp only[Ta,Ca,Ra,Da,Zm,zKJ h,Aa,Sa];cases hg:gluS (tokL l)==0 with
  |false=>simp only[Ra,Da,Ta,qi,Aa,Ac,Ca]
  |true=>
   simp only[Ta,Ca,Ra,Zm,w9 h,Aa,Sa];cases clL l with
   |true=>rfl
   |false=>
    simp only[Ca,zD4 h,Aa,zKU,zFT,ZE,Vd,Ra,Sa,zGu hn,zP];have hl:zZ (fun(s7:Int)=>
     bif decide (s7<(l.length:Int))then
      za (geti l s7) fun y8=>
      bif bif y8.token.kind==17 then true else bif y8.token.kind==9 then y8.token.text==[33]else false then
       some (LO.ret false)
      else
       some (LO.again (w64 (s7+1)))
     else
      some (LO.out ()):Int->Option (LO (Int) (Unit) _)) 0 (fun _=>some true)=some (!(l.any badV)):=by
     refine(ZZ l (fun v=>bif badV v then some false else none) () (fun i hi=> ?_) ?_).trans ?_
     ·simp only[zO hi,Da,zN hi,za,Aa,badV,zH hi (show l.length<=big by omega)];cases l[i].token.kind==17<;>cases l[i].token.kind==9<;>cases l[i].token.text==[33]<;>rfl
     ·simp only[zR,Ca]
     ·rw[NE];cases l.any badV<;>rfl
    unfold Gv;simp only[za]at hl;rw[hl];cases Al l<;>cases l.isEmpty<;>cases List.isPrefixOf [45,45] x<;>cases l.any badV<;>rfl
theorem tX{d:Zd}(hv:szL d.value<=big)(hn:d.name.length<=big):yl d=some (bif Ve d then 0 else 8):=by
 unfold yl Ve;simp only[rX hn,za,Aa];cases hnd:Gh d.name with
 |false=>rfl
 |true=> simp only[Ta,Ra,Zm,M4 hv hnd,Aa,Sa];cases (errS d.value==0&&(gluS (tokL d.value)==0&&(!clL d.value&&Gv (List.isPrefixOf [45,45] d.name) d.value)))<;>rfl
theorem R5:Wi Bq:=by intro Bi ref08_size' h_ref08_size x;unfold Bq;exact(.lp (fun _=>(.bif (.bind .rfl fun _=>(.lp (fun _=>(.bind .rfl fun _=>(.bif (.bind .rfl fun _=>(.bind .rfl fun _=>(.bind .rfl fun _=>(.bind .rfl fun _=>(.lp (fun _=>(.bif (.bind .rfl fun _=>(.bind .rfl fun _=>(.bind .rfl fun _=>(.bind (h_ref08_size _) fun _=> .rfl)))) .rfl)) fun _=> .rfl))))) .rfl))) fun _=> .rfl)) .rfl)) fun _=> .rfl)
theorem U5:Wi Pp:=by intro Ci ref04_Size' h_ref04_Size x;unfold Pp;exact(.lp (fun _=>(.bif (.bind .rfl fun _=>(.bind .rfl fun _=>(.bind .rfl fun _=>(.bind (h_ref04_Size _) fun _=> .rfl)))) .rfl)) fun _=> .rfl)
theorem P5:Wi Aq:=by intro qW ref10_Size' h_ref10_Size x;unfold Aq;exact(.lp (fun _=>(.bif (.bind .rfl fun _=>(.bind (h_ref10_Size _) fun _=> .rfl)) .rfl)) fun _=> .rfl)
theorem O5:Wi gp:=by intro Ai ref10_long' h_ref10_long x;unfold gp;exact(.bind .rfl fun _=>(.bif .rfl (.lp (fun _=>(.bif (.bind .rfl fun _=>(.bind (h_ref10_long _) fun _=>(.bif .rfl .rfl))) .rfl)) fun _=> .rfl)))
theorem zoM:Wi Gq:=by intro qw ref11_weighed' h_ref11_weighed x;unfold Gq;exact(.bif .rfl (.lp (fun _=>(.bif (.bind .rfl fun _=>(.bind .rfl fun _=>(.bind .rfl fun _=>(.bind .rfl fun _=>(.bind (.cond (h_ref11_weighed _)) fun _=>(.bif .rfl (.lp (fun _=>(.bif (.bind .rfl fun _=>(.bif .rfl .rfl)) .rfl)) fun _=> .rfl))))))) .rfl)) fun _=> .rfl))
theorem K5:Wi Wp:=by intro Mi sheet_told' h_sheet_told x;unfold Wp;exact(.bif (.bind .rfl fun _=> .rfl) (.bif .rfl (.lp (fun _=>(.bif (.bind .rfl fun _=>(.bind (h_sheet_told _) fun _=>(.join (.bif .rfl .rfl) fun _=> .rfl))) .rfl)) fun _=> .rfl)))
theorem lZ:Wi Bp:=by intro Uh cond_look' h_cond_look x;unfold Bp;exact(.bif .rfl (.bif (.bind .rfl fun _=>(.bind .rfl fun _=> .rfl)) (.bif (.bind .rfl fun _=> .rfl) (.join (.bif .rfl (.bif .rfl .rfl)) fun _=>(.bif (.bind .rfl fun _=>(.bif .rfl (.lp (fun _=>(.bif (.bind .rfl fun _=>(.bind (h_cond_look _) fun _=>(.bif .rfl (.join (.bind .rfl fun _=>(.bif .rfl .rfl)) fun _=> .rfl)))) .rfl)) fun _=> .rfl))) .rfl)))))
theorem M5:Wi Xp:=by intro Ni sheet_look' h_sheet_look x;unfold Xp;exact(.lp (fun _=>(.bif (.bind .rfl fun _=>(.bind (h_sheet_look _) fun _=>(.bind .rfl fun _=>(.join (.bif (.bind .rfl fun _=>(.bind .rfl fun _=>(.bind .rfl fun _=>(.lp (fun _=>(.bif (.bind .rfl fun _=>(.bind .rfl fun _=>(.bind .rfl fun _=> .rfl))) .rfl)) fun _=> .rfl)))) (.bif (.bind .rfl fun _=>(.bind .rfl fun _=> .rfl)) (.bif (.bind .rfl fun _=>(.bind .rfl fun _=> .rfl)) (.bif (.bind .rfl fun _=> .rfl) (.bif (.bind .rfl fun _=> .rfl) .rfl))))) fun _=> .rfl)))) .rfl)) fun _=> .rfl)
end Go.Lv.VT




