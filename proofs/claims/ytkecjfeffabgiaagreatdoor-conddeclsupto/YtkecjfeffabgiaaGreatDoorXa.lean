/- Small functions of bytes and texts: small letters, names; the program's and the reference's are the same. -/
import Derived.Test.YtkecjfeffabgiaaGreatDoorTx
import Derived.Test.YtkecjfeffabgiaaGreatDoorMo
import Derived.Test.YtkecjfeffabgiaaGreatDoorIp
import Derived.Test.YtkecjfeffabgiaaGreatDoorLf
set_option linter.unusedSimpArgs false
set_option linter.unusedVariables false
namespace Go.Lv.VT
def Cj(n:Nat):Nat:=if 65<=n/\n<=90 then n+32 else n
def Ii(b:UInt8):UInt8:=UInt8.ofNat (Cj b.toNat)
theorem lS{n:Nat}(h:n<256):Cj n<256:=by unfold Cj;split<;>omega
theorem PW(b:UInt8):(Ii b).toNat=Cj b.toNat:=by unfold Ii;rw[UInt8.toNat_ofNat'];exact Nat.mod_eq_of_lt (lS (Be b))
theorem KU: ∀n:Nat,n<256->Q5 (n:Int)=some ((Cj n:Nat):Int):=by decide+kernel
theorem zCA: ∀n:Nat,n<256->(bif decide (65<=(n:Int))then decide ((n:Int)<=90)else false)=true->ZQ (ibOr IntKind.u8 (n:Int) 32)=some (UInt8.ofNat (Cj n)):=by decide+kernel
def lowS(l:Str):Str:=l.map Ii
theorem uC{α:Type}{l:List α}{i:Nat}(h:i<l.length)(f:α->α):((l.take i).map f++l.drop i).set i (f l[i])=(l.take (i+1)).map f++l.drop (i+1):=by
 apply List.ext_getElem
 ·simp;omega
 grind
theorem UI{α:Type}{l:List α}{i:Nat}(h:i<l.length)(f:α->α):((l.take i).map f++l.drop i)[i]? =some l[i]:=by
 grind
theorem NC{α:Type}{l:List α}{i:Nat}(h:i<=l.length)(f:α->α):((l.take i).map f++l.drop i).length=l.length:=by simp;omega
theorem zAe{α:Type}{l:List α}{i:Nat}(h:i<l.length)(f:α->α)(e:f l[i]=l[i]):(l.take i).map f++l.drop i=(l.take (i+1)).map f++l.drop (i+1):=by
 rw[<-uC h f,e];apply List.ext_getElem?
 grind
theorem uA(i:Nat):decide ((0:Int)<=(i:Int))=true:=Xa (by omega)
theorem fD{l:Str}(h:l.length<=big):Qs l=some (lowS l):=by
 unfold Qs;rw[jw (Xa (by unfold big at h;unfold maxLen;omega))];have d: ∀(k i:Nat),i+k=l.length-> ∃n,qD (X:=List UInt8) (R:=Str) (fun(a:Int×List UInt8)=>
   bif decide (a.1<(a.2.length:Int))then
    need (decide (0<=a.1)&&decide (a.1<(a.2.length:Int)))<|
    zb a.2[a.1.toNat]? fun f=>
    zb (Q5 (f.toNat:Int)) fun g=>
    need (decide (0<=a.1)&&decide (a.1<(a.2.length:Int)))<|
    zb a.2[a.1.toNat]? fun p=>
    zb (ZQ g) fun m=>
    some (LO.again (w64 (a.1+1),List.set a.2 a.1.toNat m))
   else
    some (LO.out a.2)) n ((i:Int),(l.take i).map Ii++l.drop i)=some (.out (lowS l)):=by
  intro k
  induction k with
  |zero=>
   intro i e;have e:i=l.length:=by omega
   subst e;refine⟨1,?_⟩;simp only[qD,NC (La _),Qc,Da];simp[lowS]
  |succ k o=>
   intro i e;have b:i<l.length:=by omega
   obtain⟨n,c⟩:=o (i+1) (by omega);refine⟨n+1,?_⟩;have j:=Be l[i];simp only[qD,NC (Nat.le_of_lt b),Zl b,Ea,uA,Vb,Qo,Ec,UI b,zb,Ba,KU _ j];rw[<-PW,zzB,Zb b h];simp only[Ba,uC b];exact c
 obtain⟨n,c⟩:=d l.length 0 (by omega);replace c:=Fh c;simp only[List.take_zero,List.map_nil,Uc,List.drop_zero]at c;exact(lg c).trans rfl
theorem Yy{l:Str}(h:l.length<=big):ZH l=some (lowS l):=by
 unfold ZH;rw[jw (Xa (by unfold big at h;unfold maxLen;omega))];have d: ∀(k i:Nat),i+k=l.length-> ∃n,qD (X:=List UInt8) (R:=Str) (fun(a:Int×List UInt8)=>
   bif decide (a.1<(l.length:Int))then
    zD (X:=Int×List UInt8) (
      need (decide (0<=a.1)&&decide (a.1<(a.2.length:Int)))<|
      zb a.2[a.1.toNat]? fun j=>
      bif bif decide (65<=(j.toNat:Int))then decide ((j.toNat:Int)<=90)else false then
       need (decide (0<=a.1)&&decide (a.1<(a.2.length:Int)))<|
       zb a.2[a.1.toNat]? fun o=>
       need (decide (0<=a.1)&&decide (a.1<(a.2.length:Int)))<|
       zb a.2[a.1.toNat]? fun t=>
       zb (ZQ (ibOr IntKind.u8 (o.toNat:Int) 32)) fun q=>
       some (LX.out (a.1,List.set a.2 a.1.toNat q))
      else
       some (LX.out (a.1,a.2))) fun m=>
    some (LO.again (w64 (m.1+1),m.2))
   else
    some (LO.out a.2)) n ((i:Int),(l.take i).map Ii++l.drop i)=some (.out (lowS l)):=by
  intro k
  induction k with
  |zero=>
   intro i f;have f:i=l.length:=by omega
   subst f;refine⟨1,?_⟩;simp only[qD,Qc,Da];simp[lowS]
  |succ k r=>
   intro i f;have b:i<l.length:=by omega
   obtain⟨n,c⟩:=r (i+1) (by omega);refine⟨n+1,?_⟩;have p:=Be l[i];simp only[qD,NC (Nat.le_of_lt b),Zl b,Ea,uA,Vb,Qo,Ec,UI b,zb,Ba];cases g:(bif decide (65<=(l[i].toNat:Int))then decide ((l[i].toNat:Int)<=90)else false)with
   |true=> have e:=zCA _ p g;simp only[e,Ea,Ba,zQ,Zb b h];rw[show UInt8.ofNat (Cj l[i].toNat)=Ii l[i]from rfl,uC b];exact c
   |false=>
    have e:Ii l[i]=l[i]:=by unfold Ii Cj;rw[Oa,UInt8.ofNat_toNat];rintro⟨s,u⟩;rw[Xa (by omega),Ea,Xa (by omega)]at g;cases g
    simp only[Da,zQ,Zb b h];rw[zAe b Ii e];exact c
 obtain⟨n,c⟩:=d l.length 0 (by omega);replace c:=Fh c;simp only[List.take_zero,List.map_nil,Uc,List.drop_zero]at c;exact(lg c).trans rfl
def Oe(l:Str):Bool:=l.all fun b=> !(b==0)
theorem XC(c:UInt8): ∀l:Str,decide (Lib.indexByte l c>=0)=l.any fun b=>b==c
 |[]=>rfl
 |b::l=>by
  have d:=XC c l;have a:=Lib.indexByte_ge l c;rw[List.any_cons,Lib.indexByte]
  grind
theorem zBR(l:Str):(l.any fun b=>b==0)= !Oe l:=by
 unfold Oe
 grind
theorem KF(l:Str)(n:Int):strings_IndexByte (l,n)=some (Lib.indexByte l n.toNat.toUInt8):=rfl
theorem WC(l:Str):decide (Lib.indexByte l (0:Int).toNat.toUInt8>=0)= !Oe l:=(XC 0 l).trans (zBR l)
theorem Iw(n m:Nat):decide ((n:Int)>(m:Int))= !decide (n<=m):=by
 grind
theorem byte_zero(b:UInt8):((b.toNat:Int)==0)=(b==0):=by
 by_cases h:b=0
 ·subst h;rfl
 ·have a:b.toNat≠0:=fun e=>h (UInt8.toNat_inj.1 e)
  grind
theorem oK(a b:Str):(a==b)=(b==a):=by
 grind
theorem BB(n m:Nat):decide ((n:Int)<=(m:Int))=decide (n<=m):=by
 grind
theorem ax{f:Option Int}{p:Bool}{i:Int}(h:f=some i)(a:decide (i>=0)=p):(zb f fun y=>some (decide (y>=0)))=some p:=by
 grind
theorem zA4{α:Type}(p:α->Bool)(l:List α):(l.any fun v=> !p v)= !l.all p:=by
 grind
theorem Gz(l m:Str):strings_HasPrefix (l,m)=some (m.isPrefixOf l):=by
 have a: ∀m l:Str,m.isPrefixOf l=(decide (m.length<=l.length)&&l.take m.length==m):=by
  intro m l;rw[Bool.eq_iff_iff];simp only[List.isPrefixOf_iff_prefix,Ca,ma,Sb];constructor
  ·rintro⟨t,rfl⟩
   grind
  ·grind
 unfold strings_HasPrefix stringslite_HasPrefix;simp_all
theorem xX(l m:Str):strings_TrimPrefix (l,m)=some (bif m.isPrefixOf l then l.drop m.length else l):=by
 have h:stringslite_HasPrefix (l,m)=some (m.isPrefixOf l):=by
  have:=Gz l m;unfold strings_HasPrefix at this;cases hh:stringslite_HasPrefix (l,m)with
  |none=>grind
  |some b=>grind
 unfold strings_TrimPrefix stringslite_TrimPrefix;simp only[h,zb,Ba];cases hp:m.isPrefixOf l with
 |false=>rfl
 |true=> have hl:=(List.isPrefixOf_iff_prefix.1 hp).length_le;simp_all
theorem rV{a b:Str}(c:a.length<=big)(h2:b.length<=big):ZU (a,b)=some (lowS a==lowS b):=by unfold ZU;simp only[Yy c,Yy h2,zb,Ba]
theorem MU{a b:Str}(c:a.length<=big)(h2:b.length<=big):Qr (a,b)=some (lowS a==lowS b):=by unfold Qr;simp only[fD c,fD h2,zb,Ba]
def Aj(n:Nat):Bool:=
 !(n==0||n==9||n==10||n==12||n==13||n==32||n==34||n==39||n==40||n==41||n==44||n==58||n==59||n==91||n==93||n==95||n==123||n==125)&&
  (decide (n<128)&& !((decide (48<=n)&&decide (n<=57))||(decide (65<=n)&&decide (n<=90))||(decide (97<=n)&&decide (n<=122))))
set_option maxRecDepth 100000 in
theorem zBn: ∀n:Nat,n<256->SF 40 (n:Int)=some (Aj n):=by decide+kernel
def Dx:Prop:= ∀b:UInt8,Qt (b.toNat:Int)=some (Aj b.toNat)
theorem O3:Dx:=fun b=>
 oZ 40 _ _ (zBn _ (Be b))
def digN(n:Nat):Bool:=decide (48<=n)&&decide (n<=57)
theorem XW: ∀n:Nat,n<256->zZ (n:Int)=some (digN n):=by decide+kernel
theorem PK(b:UInt8):zZ (b.toNat:Int)=some (digN b.toNat):=(XW _ (Be b))
theorem UY: ∀n:Nat,n<256->qf (n:Int)=some (digN n):=by decide+kernel
theorem pY(b:UInt8):qf (b.toNat:Int)=some (digN b.toNat):=(UY _ (Be b))
def namN(n:Nat):Bool:=digN n||(decide (65<=n)&&decide (n<=90))||(decide (97<=n)&&decide (n<=122))||n==95||n==45||decide (128<=n)
theorem SX: ∀n:Nat,n<256->Yh (n:Int)=some (namN n):=by decide+kernel
theorem nY(b:UInt8):Yh (b.toNat:Int)=some (namN b.toNat):=(SX _ (Be b))
def Di:Str->Bool
 |[]=>false
 |b::r=>digN b.toNat||(b==45&&(r==[]||digN (r.headD 0).toNat))
theorem zBa(b c:UInt8):((b.toNat:Int)==(c.toNat:Int))=(b==c):=by
 by_cases h:b=c
 ·subst h;simp
 ·have a:b.toNat≠c.toNat:=fun e=>h (UInt8.toNat_inj.1 e)
  grind
theorem zA9(b:UInt8):((b.toNat:Int)==45)=(b==45):=zBa b 45
theorem OY(l:Str):Xt l=some (Di l):=by
 unfold Xt;cases l with
 |nil=>rfl
 |cons b r=>
  have f:geti (b::r) 0=some b:=rfl;have g:(b::r==([]:Str))=false:=rfl;simp only[g,Da,f,zb,Ba,PK,Zd,zA9];cases r with
  |nil=>
   have e:(([b]:Str)==[45])=(b==45):=by show((b==45)&&true)=_;rw[Vb]
   simp only[e];unfold Di;cases c:(b==45)with
   |false=>cases h:digN b.toNat<;>simp[c,zo,h]
   |true=>simp_all
  |cons d r=>
   have a:geti (b::d::r) 1=some d:=rfl;have e:((b::d::r:Str)==[45])=false:=by show((b==45)&&false)=_;rw[Tc]
   simp only[a,e,Zd,Ba,PK,Di,List.headD_cons]
   grind
def numS:Str->Bool
 |[]=>false
 |b::r=>bif b==45 then !(r==[])&&digN (r.headD 0).toNat else digN b.toNat
theorem P5(l:Str):Yj l=some (numS l):=by
 unfold Yj;simp only[xX,zb,Ba];have a: ∀m:Str,((zo (!(m==[])) (geti m 0) 0).bind fun c=>(zo (!(m==[])) (qf (c.toNat:Int)) (default:Bool)).bind fun d=>some (bif !(m==[])then d else false))=some (!(m==[])&&digN (m.headD 0).toNat):=by
  intro m;cases m with
  |nil=>rfl
  |cons b r=> have f:geti (b::r) 0=some b:=rfl;have g:(b::r==([]:Str))=false:=rfl;simp only[g,Ya,zY,f,Ba,pY,Ea,List.headD_cons,aa]
 rw[a];cases l with
 |nil=>rfl
 |cons b r=>
  have e:List.isPrefixOf [45] (b::r)=(b==45):=by
   show((45==b)&&true)=_;rw[Vb];cases h:(b==45)with
   |true=>grind
   |false=>grind
  rw[e];show _=some (bif b==45 then !(r==[])&&digN (r.headD 0).toNat else digN b.toNat)
  grind
theorem zAl(l:Str):((numS l&& !(List.isPrefixOf [45,45] l))||l==[45])=Di l:=by
 cases l with
 |nil=>rfl
 |cons b r=>
  cases a:(b==45)with
  |false=>
   have e:List.isPrefixOf [45,45] (b::r)=false:=by show((45==b)&&_)=_;rw[Ja]at a;rw[Ja.2 (Ne.symm a)];rfl
   have c:((b::r:Str)==[45])=false:=by show((b==45)&&_)=_;rw[a];rfl
   rw[e,c];unfold numS Di;simp[a]
  |true=>
   rw[Sb]at a;subst a;cases r with
   |nil=>rfl
   |cons d r=>
    have c:((45::d::r:Str)==[45])=false:=rfl;rw[c];unfold numS Di;have e:List.isPrefixOf [45,45] (45::d::r)=(45==d):=by show((45==(45:UInt8))&&((45==d)&&true))=_;rw[Vb];rfl
    rw[e];simp only[List.headD_cons];have f:digN 45=false:=by decide
    cases h:(45==d)with
    |false=>simp[f]
    |true=>rw[Sb]at h;subst h;rfl
def delS(l:Str):Bool:=match l with
 |[b]=>Aj b.toNat
 |_=>false
def rngS(x:zf):Bool:=decide (-1000000000000<=x.num)&&(decide (x.num<=1000000000000)&&(!x.flag||Int.tmod x.num 1000==0))
def Ik(x:zf):Bool:=
 bif x.kind==1||x.kind==2||x.kind==3 then !(x.text==[])&&(Oe x.text&&(x.num==0&&(x.unit==[]&& !x.flag)))
 else bif x.kind==4 then !(x.text==[])&&(Oe x.text&&((x.flag||Di x.text)&&(x.num==0&&x.unit==[])))
 else bif x.kind==5||x.kind==7 then Oe x.text&&(x.num==0&&(x.unit==[]&& !x.flag))
 else bif x.kind==9 then delS x.text&&(x.num==0&&(x.unit==[]&& !x.flag))
 else bif x.kind==10||x.kind==11||x.kind==12 then rngS x&&((!(x.unit==[])==(x.kind==12))&&(Oe x.unit&&((!(x.kind==11)|| !x.flag)&&x.text==[])))
 else(decide (13<=x.kind)&&decide (x.kind<=24))&&(x.text==[]&&(x.num==0&&(x.unit==[]&& !x.flag)))
theorem sO{l:Str}(h:l.length<=big):Tj l=some (Oe l):=by
 unfold Tj;refine(Nl l (fun b=>bif (!(b==0))then none else some false) () (fun i a=> ?_) ?_).trans ?_
 ·simp only[Zl a,Ea,Zo a,zb,Ba,byte_zero,Zb a h]
  grind
 ·grind
 ·rw[Ko];show _=some (Oe l);unfold Oe
  grind
theorem one_byte(l:Str)(p:Nat->Bool)(d:Bool)(f:Int->Option Bool)(hf: ∀b:UInt8,f (b.toNat:Int)=some (p b.toNat))(g:Bool):
  ((zo (g&&(l.length:Int)==1) (geti l 0) (0:UInt8)).bind fun y=>zo (g&&(l.length:Int)==1) (f (y.toNat:Int)) d)=some (bif g&&(l.length:Int)==1 then(match l with|[b]=>p b.toNat|_=>false)else d):=by
 cases g with
 |false=>rfl
 |true=>
  cases l with
  |nil=>rfl
  |cons b r=>
   cases r with
   |nil=> show((geti [b] 0).bind fun y=>f (y.toNat:Int))=some (p b.toNat);rw[show geti [b] 0=some b from rfl];exact hf b
   |cons c r=> have:(((b::c::r).length:Int)==1)=false:=Ja.2 (by grind);rw[this];rfl
theorem bV(a:Dx)(l:Str)(g:Bool):((zo (g&&(l.length:Int)==1) (geti l 0) (0:UInt8)).bind fun y=>zo (g&&(l.length:Int)==1) (Qt (y.toNat:Int)) (default:Bool))=some (bif g&&(l.length:Int)==1 then delS l else default):=
 one_byte l Aj default Qt a g
theorem NT(l:Str):(((l.length:Int)==1)&&delS l)=delS l:=by
 cases l with
 |nil=>rfl
 |cons b r=>
  cases r with
  |nil=>rfl
  |cons c r=> have:(((b::c::r).length:Int)==1)=false:=Ja.2 (by grind);rw[this];rfl
theorem NY(C:Dx){x:zf}(v:x.text.length<=big)(h2:x.unit.length<=big):Wt x=some (Ik x):=by
 have n:=bV C x.text true;simp only[aa]at n;have q:((zo ((x.text.length:Int)==1) (geti x.text 0) (0:UInt8)).bind fun o=>(zo ((x.text.length:Int)==1) (Qt (o.toNat:Int)) (default:Bool)).bind fun D=>some (bif bif (x.text.length:Int)==1 then D else false then x.kind==x.kind&&(([]:Str)==[]&&(x.num==0&&(x.unit==[]&&(x.flag==false&&true))))else false))=some (delS x.text&&(x.num==0&&(x.unit==[]&& !x.flag))):=by
  have e: ∀(k:Bool->Option Bool),((zo ((x.text.length:Int)==1) (geti x.text 0) (0:UInt8)).bind fun o=>(zo ((x.text.length:Int)==1) (Qt (o.toNat:Int)) (default:Bool)).bind k)=(((zo ((x.text.length:Int)==1) (geti x.text 0) (0:UInt8)).bind fun y=>zo ((x.text.length:Int)==1) (Qt (y.toNat:Int)) (default:Bool))).bind k:=by intro k;rw[Option.bind_assoc]
  rw[e,n,Ba,<-NT x.text];simp only[Ef];cases (x.text.length:Int)==1<;>cases delS x.text<;>cases x.flag<;>rfl
 unfold Wt;simp only[zb,sO v,sO h2,OY,Zd,Ba,ge_iff_le];unfold Ik rngS;by_cases B:x.kind=9
 ·simp_all
 clear n q;have E:=Ja.2 B;generalize delS x.text=J;generalize Oe x.text=p;generalize Oe x.unit=M;generalize Di x.text=H;generalize c:(x.text==[])=i;generalize d:(x.unit==[])=j;generalize a:(x.num==0)=m;generalize b:x.flag=l;generalize decide (-1000000000000<=x.num)=N;generalize decide (x.num<=1000000000000)=L;generalize (Int.tmod x.num 1000==0)=z;by_cases r:x.kind=1
 ·simp only[r,zQ,Ea,Da,c,d,a,b,Int.reduceBEq];cases p<;>cases i<;>cases j<;>cases m<;>cases l<;>rfl
 by_cases s:x.kind=2
 ·simp only[s,zQ,Ea,Da,c,d,a,b,Int.reduceBEq];cases p<;>cases i<;>cases j<;>cases m<;>cases l<;>rfl
 by_cases t:x.kind=3
 ·simp only[t,zQ,Ea,Da,c,d,a,b,Int.reduceBEq];cases p<;>cases i<;>cases j<;>cases m<;>cases l<;>rfl
 by_cases u:x.kind=4
 ·simp only[u,zQ,Ea,Da,c,d,a,b,Int.reduceBEq]
  grind
 by_cases G:x.kind=5
 ·simp_all
 by_cases F:x.kind=7
 ·simp_all
 by_cases g:x.kind=10
 ·simp only[g,zQ,Ea,Da,c,d,a,b,Int.reduceBEq]
  grind
 by_cases h:x.kind=11
 ·simp only[h,zQ,Ea,Da,c,d,a,b,Int.reduceBEq]
  grind
 by_cases f:x.kind=12
 ·simp only[f,zQ,Ea,Da,c,d,a,b,Int.reduceBEq]
  grind
 simp only[E,Ja.2 r,Ja.2 s,Ja.2 t,Ja.2 u,Ja.2 G,Ja.2 F,Ja.2 g,Ja.2 h,Ja.2 f,zQ,Ea,Da,c,d,a,b,Ef,Bool.or_self];by_cases w:x.kind=6
 ·simp_all
 by_cases A:x.kind=8
 ·simp_all
 simp only[Ja.2 w,Ja.2 A,zQ,Ea,Da];have e:(decide (1<=x.kind)&&decide (x.kind<=24))=(decide (13<=x.kind)&&decide (x.kind<=24)):=by
  by_cases K:13<=x.kind
  ·grind
  ·grind
 rw[<-e];cases decide (1<=x.kind)<;>cases decide (x.kind<=24)<;>cases i<;>cases j<;>cases m<;>cases l<;>rfl
abbrev rq:Str:=[32,9,10,12,13,34,39,58,59,44,91,93,40,41,123,125]
theorem NL: ∀(m:Str) (c:UInt8),Lib.index m [c]=Lib.indexByte m c
 |[],c=>rfl
 |b::l,c=>by
  have h:List.isPrefixOf [c] (b::l)=(b==c):=by
   show(c==b&&List.isPrefixOf [] l)=_;rw[List.isPrefixOf,Vb];by_cases e:b=c
   ·subst e;rfl
   ·grind
  rw[Lib.index,Lib.indexByte,h,NL l c]
theorem contains_one(m:Str)(c:UInt8)(a:short m=true:=by decide):strings_Contains (m,[c])=some (m.any fun b=>b==c):=by unfold strings_Contains;simp only[Ej,a,Qo,zb,Ba,NL,XC]
theorem Y1(c:UInt8):strings_Contains ([32,9,10,12,13,34,39,58,59,44,91,93,40,41,123,125],[c])=some (rq.any fun b=>b==c):=contains_one rq c
theorem dV: ∀n:Nat,n<256->((bif bif !(UInt8.ofNat n==0)then !namN n else false then true else UInt8.ofNat n==45)&&(!(rq.any fun b=>b==UInt8.ofNat n)))=Aj n:=by decide+kernel
theorem KT(b:UInt8):((bif bif !(b==0)then !namN b.toNat else false then true else b==45)&&(!(rq.any fun c=>c==b)))=Aj b.toNat:=by have:=dV b.toNat (Be b);simp_all
theorem tX(a b:Str):Oe (a++b)=(Oe a&&Oe b):=by unfold Oe;grind
theorem RI(n:Int):decide (n<0)= !decide (n>=0):=by
 grind
theorem zCD(g d:Bool)(b c:UInt8):(bif g then namN (bif g then b else c).toNat else d)=bif g then namN b.toNat else d:=by cases g<;>rfl
theorem UX{x:zf}(h1:x.text.length<=big)(h2:x.unit.length<=big):Uo x=some (Ik x):=by
 unfold Uo;rw[jw (XK.2 (by grind))];simp only[zb,KF,Ba];have hn:decide (Lib.indexByte (x.text++x.unit) (0:Int).toNat.toUInt8<0)=(Oe x.text&&Oe x.unit):=by rw[RI,WC,tX,bf]
 simp only[hn,P5,Gz,Zd,Ba,ge_iff_le,bne];have hb:=zAl x.text;unfold Ik rngS;by_cases k9:x.kind=9
 ·simp only[k9,Int.reduceBEq,Ea,Da,zQ,Je,Ld];cases ht:x.text with
  |nil=>
   have:Oe ([]:Str)=true:=rfl;simp only[this,aa];cases Oe x.unit<;>rfl
  |cons b r=>
   cases r with
   |nil=>
    have hd:=KT b;have e1:((([b]:Str).length:Int)==1)=true:=rfl;have e2:geti [b] 0=some b:=rfl;have e3:(([b]:Str)==[45])=(b==45):=by show((b==45)&&true)=_;rw[Vb]
    have e4:Oe [b]= !(b==0):=by show((!(b==0))&&true)=_;rw[Vb]
    have e5:delS [b]=Aj b.toNat:=rfl;simp only[e1,e2,e3,e4,e5,Y1,nY,Zd,Ba,zCD,<-hd];cases hu:x.unit with
    |nil=>
     have:Oe ([]:Str)=true:=rfl;simp only[this,Vb];generalize (rq.any fun c=>c==b)=a1;cases namN b.toNat<;>cases (b==0)<;>cases (b==45)<;>cases a1<;>cases (x.num==0)<;>cases x.flag<;>rfl
    |cons c s=> simp_all
   |cons c r=>
    have e1:(((b::c::r:Str).length:Int)==1)=false:=Ja.2 (by grind);have e3:((b::c::r:Str)==[45])=false:=by show((b==45)&&false)=_;rw[Tc]
    have e5:delS (b::c::r)=false:=rfl;simp only[e1,e3,e5];simp_all
 have b9:=Ja.2 k9;have hu:(x.unit==[])=true->Oe x.unit=true:=fun h=>by rw[Sb]at h;rw[h];rfl
 have htx:(x.text==[])=true->Oe x.text=true:=fun h=>by rw[Sb]at h;rw[h];rfl
 rw[<-hb];generalize hl45:(x.text==[45])=a11 at*;generalize (List.isPrefixOf [45,45] x.text)=a12 at*;generalize numS x.text=a3 at*;generalize Oe x.text=a1 at*;generalize Oe x.unit=a2 at*;generalize (x.text==[])=a4 at*;generalize (x.unit==[])=a5 at*;generalize (x.num==0)=a6 at*;generalize x.flag=a7 at*;generalize decide (-1000000000000<=x.num)=a8 at*;generalize decide (x.num<=1000000000000)=a9 at*;generalize (Int.tmod x.num 1000==0)=a10 at*;clear hb hn hl45;have K: ∀k:Int,k∈[1,2,3,4,5,7,10,11,12]->x.kind=k->True:=fun _ _ _=>trivial;clear K;by_cases k1:x.kind=1
 ·simp only[k1,zQ,Ea,Da,Int.reduceBEq]
  grind
 by_cases k2:x.kind=2
 ·simp only[k2,zQ,Ea,Da,Int.reduceBEq]
  grind
 by_cases k3:x.kind=3
 ·simp only[k3,zQ,Ea,Da,Int.reduceBEq]
  grind
 by_cases k4:x.kind=4
 ·simp only[k4,zQ,Ea,Da,Int.reduceBEq]
  grind
 by_cases k5:x.kind=5
 ·simp only[k5,zQ,Ea,Da,Int.reduceBEq]
  grind
 by_cases k7:x.kind=7
 ·simp only[k7,zQ,Ea,Da,Int.reduceBEq]
  grind
 by_cases k10:x.kind=10
 ·simp only[k10,zQ,Ea,Da,Int.reduceBEq]
  grind
 by_cases k11:x.kind=11
 ·simp only[k11,zQ,Ea,Da,Int.reduceBEq]
  grind
 by_cases k12:x.kind=12
 ·simp only[k12,zQ,Ea,Da,Int.reduceBEq]
  grind
 simp only[b9,Ja.2 k1,Ja.2 k2,Ja.2 k3,Ja.2 k4,Ja.2 k5,Ja.2 k7,Ja.2 k10,Ja.2 k11,Ja.2 k12,zQ,Ea,Da,Bool.or_self];cases decide (13<=x.kind)<;>cases decide (x.kind<=24)<;>cases a4<;>cases a5<;>cases a6<;>cases a7<;>rfl
theorem nE {R:Type} {step:Int->Option (LO Int Unit R)} {k:Unit->Option R} (n:Nat) (p:Nat->Bool) (r:R)
  (c: ∀(i:Nat),i<n->step (i:Int)=some (bif p i then .again ((i+1:Nat):Int)else .ret r)) (a:step (n:Int)=some (.out ())):
  zX step 0 k=bif (List.range n).all p then k ()else some r:=by
 have e:=Nl (k:=k) (List.range n) (fun i=>bif p i then none else some r) () (fun i b=> ?_) (by simpa using a)
 ·rw[e,Ko]
  grind
 grind
def uj:List zf->Bool
 |[]=>false
 |s::r=>bif s.kind==13 then(match r with|u::_=>u.kind==5|[]=>false)else s.kind==5
def Nw:List zf->Bool
 |[]=>false
 |s::_=>s.kind==13
def Mm(t:zf):Bool:=t.kind==2&&lowS t.text==[117,114,108]
def okAt:List zf->Bool
 |[]=>true
 |t::r=>(!(t.kind==9&&t.text==[92])||Nw r)&&(!(Mm t)||uj r)
def Yq(l:List zf)(i:Nat):Bool:=Ik (l.getD i default)&&okAt (l.drop i)
def gluS(l:List zf):Int:=bif decide (l.length<=1500)then(bif (List.range l.length).all (Yq l)then 0 else 8)else 4
theorem lC(l:List zf)(i:Nat)(k:Int):qj (((i:Int),k),l)=some (match l[i]? with|some t=>t.kind==k|none=>false):=by
 unfold qj;by_cases h:i<l.length
 ·simp only[Zl h,zY,Zo h,zb,Ba,Ea,Ka h]
 ·have e:decide ((i:Int)<(l.length:Int))=false:=Fb (by omega);simp only[e,Zy,zb,Ba,Da,List.getElem?_eq_none (Nat.le_of_not_lt h)]
theorem VI:lowS [117,114,108]=[117,114,108]:=by decide
theorem mY{t:zf}{r:List zf}(h:t.text.length<=big): ∃n:Int,Xi (t::r)=some n/\(n==0)= !okAt (t::r):=by
 have e0:geti (t::r) 0=some t:=rfl;have p1:=lC (t::r) 1 13;have p15:=lC (t::r) 1 5;have p25:=lC (t::r) 2 5;unfold Xi;simp only[e0,zb,Ba,rV h (show([117,114,108]:Str).length<=big by decide),VI,Zd];simp only[Int.natCast_one]at p1 p15;replace p25:qj ((2,5),t::r)=_:=p25;rw[p1];unfold okAt Mm;cases hd:(t.kind==9&&t.text==[92])with
 |true=>
  have hk:t.kind=9:=by rw[Ca,Sb]at hd;exact hd.1
  have ht:(t.text==[92])=true:=by rw[Ca]at hd;exact hd.2
  simp only[hk,ht,Int.reduceBEq,Ea,Da,Ba];cases r with
  |nil=>exact⟨_,rfl,rfl⟩
  |cons s r=>
   show∃n:Int,(bif !(s.kind==13)then some 0 else some 2)=some n/\(n==0)= !((!true||s.kind==13)&&_);cases s.kind==13
   ·simp_all
   simp_all
 |false=>
  have hc:(bif t.kind==9 then t.text==[92]else false)=false:=by
   cases h9:t.kind==9
   ·rfl
   ·grind
  simp only[hc,hd,Da,Ya,Xd,aa];cases hu:(t.kind==2&&lowS t.text==[117,114,108])with
  |false=>
   have:(bif t.kind==2 then bif t.kind==2 then lowS t.text==[117,114,108]else default else false)=false:=by
    cases h2:t.kind==2
    ·rfl
    ·grind
   rw[this]
   grind
  |true=>
   rw[Ca]at hu;rw[hu.1,hu.2];simp only[Ea,Ba];cases r with
   |nil=>exact⟨0,by simp[p15],rfl⟩
   |cons s r=>
    cases hs:s.kind==13 with
    |false=>
     have e1:(match(t::s::r)[1]? with|some t=>t.kind==13|none=>false)=false:=hs;have e5:qj ((1,5),t::s::r)=some (s.kind==5):=p15;simp only[e1,Da,zQ,e5,Ba,uj,hs];cases s.kind==5
     ·grind
     ·exact⟨2,by rfl,rfl⟩
    |true=>
     have e1:(match(t::s::r)[1]? with|some t=>t.kind==13|none=>false)=true:=hs;simp only[e1,Ea,zQ,p25,Ba,uj,hs];cases r with
     |nil=>grind
     |cons u r=>
      show∃n:Int,(bif !(u.kind==5)then some 0 else some (w64 (2+1)))=some n/\(n==0)= !(!true||u.kind==5);cases u.kind==5
      ·grind
      ·exact⟨3,rfl,rfl⟩
theorem XL(l:List zf):decide ((l.length:Int)>1500)= !decide (l.length<=1500):=Iw _ 1500
theorem rY{l:List zf}(h: ∀t∈l,t.text.length<=big/\t.unit.length<=big):QF l=some (gluS l):=by
 unfold QF gluS;rw[XL];cases e:decide (l.length<=1500)with
 |false=>rfl
 |true=>
  have e:=Eb e;simp only[Ab,Da,Ea];refine(nE l.length (Yq l) 8 (fun i a=> ?_) ?_).trans ?_
  ·obtain⟨d,j⟩:=h _ (ja a);have b:l.getD i default=l[i]:=by simp[a]
   have c:=Va a;obtain⟨n,f,k⟩:=mY (t:=l[i]) (r:=l.drop (i+1)) d;rw[<-c]at f k;have g:decide ((i:Int)<=(l.length:Int))=true:=Xa (by omega);unfold Yq;simp only[Zl a,Ea,Zo a,zb,Ba,UX d j,uA,g,aa,Xd,Qo,Ec,f,Zd,Zb a (show l.length<=big by unfold big;omega),b]
   grind
  ·grind
  grind
theorem rD{α:Type}{l:List α}{i:Nat}{s:α}{r:List α}(h:l.drop i=s::r):i<l.length/\geti l (i:Int)=some s/\l.drop (i+1)=r:=by
 have a:i<l.length:=by
  rcases Ce i l.length with b|b
  ·exact b
  ·rw[List.drop_eq_nil_of_le b]at h;cases h
 rw[Va a]at h;injection h with d c;exact⟨a,by rw[Zo a,d],c⟩
theorem oD{α:Type}{l:List α}{i:Nat}(h:l.drop i=[])(hi:i<=l.length):i=l.length:=by have:=Rc.1 h;omega
theorem WB(n m:Int):decide (n>=m)= !decide (n<m):=by
 grind
theorem zAB{l:List zf}{i:Nat}(hi:i<l.length)(v:l.length<=1500):
  zD (X:=Int) (R:=LX Unit (LO Int Unit Int)) (zb (zo (decide (((i+1:Nat):Int)<(l.length:Int))) (geti l ((i+1:Nat):Int)) (default:zf)) fun m=>bif bif decide (((i+1:Nat):Int)<(l.length:Int))then m.kind==13 else false then some (LX.out (w64 (((i+1:Nat):Int)+1)))else some (LX.out ((i+1:Nat):Int)))
   (fun a=>zb (zo (!(decide (a>=(l.length:Int)))) (geti l a) (default:zf)) fun h=>bif bif decide (a>=(l.length:Int))then true else h.kind != 5 then some (LX.ret (LO.ret 8))else some (LX.out ()))=bif uj (l.drop (i+1))then some (LX.out ())else some (LX.ret (LO.ret 8)):=by
 cases f:l.drop (i+1)with
 |nil=> have k:=oD f (by omega);have o:decide (((i+1:Nat):Int)<(l.length:Int))=false:=Fb (by omega);have b:decide (((i+1:Nat):Int)>=(l.length:Int))=true:=Xa (by omega);simp only[o,b,Zy,zb,Ba,Da,Ea,zQ,Ab,uj]
 |cons s r=>
  obtain⟨c,e,d⟩:=rD f;have b:decide (((i+1:Nat):Int)>=(l.length:Int))=false:=Fb (by omega);have n:w64 (((i+1:Nat):Int)+1)=((i+1+1:Nat):Int):=Zb c (by unfold big;omega);simp only[Zl c,zY,e,zb,Ba,Ea,n,uj];cases p:s.kind==13 with
  |false=>
   simp only[Da,zQ,b,Ya,zY,e,Ba,bne]
   grind
  |true=>
   simp only[Ea,zQ];cases r with
   |nil=> have k:=oD d (by omega);simp_all
   |cons u r=>
    obtain⟨t,j,q⟩:=rD d;have g:decide (((i+1+1:Nat):Int)>=(l.length:Int))=false:=Fb (by omega);simp only[g,Ya,zY,j,Ba,Da,bne]
    grind
theorem FT{l:List zf}{i:Nat}(hi:i<l.length)(d:Bool)(A B:Option (LO Int Unit Int)):
  (zb (zo (!(((i+1:Nat):Int)==(l.length:Int))&&d) (geti l ((i+1:Nat):Int)) (default:zf)) fun a=>bif bif d then bif ((i+1:Nat):Int)==(l.length:Int)then true else a.kind != 13 else false then A else B)=bif !d||Nw (l.drop (i+1))then B else A:=by
 cases d with
 |false=>simp_all
 |true=>
  cases c:l.drop (i+1)with
  |nil=> have h:=oD c (by omega);have b:(((i+1:Nat):Int)==(l.length:Int))=true:=Sb.2 (by omega);simp only[b,Ab,Jc,Zy,zb,Ba,Ea,Nw,Bool.or_self,Da]
  |cons s r=>
   obtain⟨f,e,g⟩:=rD c;have b:(((i+1:Nat):Int)==(l.length:Int))=false:=Ja.2 (by omega);simp only[b,Ya,aa,zY,e,zb,Ba,Ea,Nw,Da,Ab,Ld,bne]
   grind
theorem zA5(b:Bool)(t u:zf)(p:zf->Bool):(bif b then p (bif b then t else u)else false)=(b&&p t):=by cases b<;>rfl
theorem R3(k:Dx){l:List zf}(h: ∀t∈l,t.text.length<=big/\t.unit.length<=big):Sl l=some (gluS l):=by
 unfold Sl gluS;rw[XL];cases e:decide (l.length<=1500)with
 |false=>rfl
 |true=>
  have e:=Eb e;simp only[Ab,Da,Ea];refine(nE l.length (Yq l) 8 (fun i a=> ?_) ?_).trans ?_
  ·obtain⟨g,p⟩:=h _ (ja a);have d:l.getD i default=l[i]:=by simp[a]
   have f:=Va a;have q:w64 ((i:Int)+1)=((i+1:Nat):Int):=Zb a (by unfold big;omega);have m:w64 (((i+1:Nat):Int)+1)=((i+2:Nat):Int):=Zb (n:=i+2) (by omega) (by unfold big;omega);unfold Yq;rw[f,d];simp only[Zl a,Ea,Zo a,zb,Ba,NY k g p,q];cases s:Ik l[i]with
   |false=>rfl
   |true=>
    simp only[Ab,Da,Zd,Ba,aa];have j:=zAB a e;have o:=FT a (l[i].kind==9&&l[i].text==[92]) (some (LO.ret 8)) (some (LO.again ((i+1:Nat):Int)));simp only[zb]at j o;have b:(bif l[i].kind==2 then bif l[i].kind==2 then lowS (bif l[i].kind==2 then l[i]else default).text==[117,114,108]else default else false)=Mm l[i]:=by unfold Mm;cases l[i].kind==2<;>rfl
    have r:(zo (l[i].kind==2) (Qr ((bif l[i].kind==2 then l[i]else default).text,[117,114,108])) (default:Bool))=some (bif l[i].kind==2 then lowS (bif l[i].kind==2 then l[i]else default).text==[117,114,108]else default):=by
     cases u:l[i].kind==2 with
     |false=>rfl
     |true=> show Qr (l[i].text,[117,114,108])=some (lowS l[i].text==[117,114,108]);rw[MU g (by decide),VI]
    have c:(bif l[i].kind==9 then(bif l[i].kind==9 then l[i]else default).text==[92]else false)=(l[i].kind==9&&l[i].text==[92]):=zA5 (l[i].kind==9) l[i] default fun t=>t.text==[92];simp only[r,Ba,b,c,j,okAt];cases Mm l[i]with
    |false=>
     simp only[Da,zQ,Ya,Xd,Vb]
     grind
    |true=>
     simp only[Ea,Ab,Ld];cases uj (l.drop (i+1))with
     |false=>simp_all
     |true=>
      simp only[Ea,zQ,Vb]
      grind
  ·grind
  grind
theorem U3{l:List zf}(h: ∀t∈l,t.text.length<=big/\t.unit.length<=big):Sl l=some (gluS l):=R3 O3 h
def zL{α:Type}(f:α->List PV)(l:List α):Nat:=Dk (l.map f)
theorem zC0{α:Type}(f:α->List PV):zL f []=0:=rfl
theorem Rn{α:Type}(f:α->List PV)(v:α)(l:List α):zL f (v::l)=zJ (f v)+zL f l:=rfl
theorem XR{α:Type}{f:α->List PV}{v:α}: ∀{l:List α},v∈l->zJ (f v)<=zL f l
 |[],h=>by cases h
 |x::l,h=>by
  rw[Rn];rcases Ua.1 h with rfl|h
  ·omega
  ·have:=XR (f:=f) h;omega
theorem YR{α:Type}{f:α->List PV}(a: ∀v,1<=zJ (f v)): ∀(l:List α),l.length<=zL f l
 |[]=>La _
 |v::l=>by rw[Rn,Bb];have:=YR a l;grind
theorem TS(x:ze):zJ (Za x)=6+x.token.text.length+x.token.unit.length+zL Za x.list:=by rw[Y0];simp only[zJ,bPV,zL];omega
mutual
/-- How large values are. -/
def szV:ze->Nat
 |⟨t,l⟩=>1+t.text.length+t.unit.length+szL l
def szL:List ze->Nat
 |[]=>0
 |v::r=>szV v+szL r
end
theorem ag(v:ze):szV v=1+v.token.text.length+v.token.unit.length+szL v.list:=by obtain⟨t,l⟩:=v;rw[szV]
theorem Dh{v:ze}: ∀{l:List ze},v∈l->szV v<=szL l
 |[],h=>by cases h
 |x::l,h=>by
  rw[szL];rcases Ua.1 h with rfl|h
  ·omega
  ·have:=Dh h;omega
theorem Eg: ∀(l:List ze),l.length<=szL l
 |[]=>La _
 |v::r=>by rw[szL,ag,Bb];have:=Eg r;omega
theorem uw(n:Nat):decide ((n:Int)>0)=decide (0<n):=by
 grind
theorem PE(k:Int):QT k=some (Zm k):=by
 unfold QT Zm;by_cases b:k=19
 ·subst b;rfl
 by_cases d:k=21
 ·subst d;rfl
 by_cases c:k=2
 ·subst c;rfl
 by_cases a:k=23
 ·subst a;rfl
 have g:(k==19)=false:=Ja.2 b;have h:(k==21)=false:=Ja.2 d;have e:(k==2)=false:=Ja.2 c;have f:(k==23)=false:=Ja.2 a;simp only[g,h,e,f,Da,zQ,b,d,c,a,if_false,or_self]
theorem eG(k:Int):qV k=some (Zm k):=by
 unfold qV Zm;by_cases b:k=19
 ·subst b;rfl
 by_cases d:k=21
 ·subst d;rfl
 by_cases c:k=2
 ·subst c;rfl
 by_cases a:k=23
 ·subst a;rfl
 have g:(k==19)=false:=Ja.2 b;have h:(k==21)=false:=Ja.2 d;have e:(k==2)=false:=Ja.2 c;have f:(k==23)=false:=Ja.2 a;simp only[g,h,e,f,Da,zQ,b,d,c,a,if_false,or_self]
mutual
/-- The depth of values. -/
def Oh:ze->Nat
 |⟨t,l⟩=>if Zm t.kind=0 then 0 else 1+Ve l
def Ve:List ze->Nat
 |[]=>0
 |v::r=>max (Oh v) (Ve r)
end
theorem lJ(v:ze):Oh v=if Zm v.token.kind=0 then 0 else 1+Ve v.list:=by obtain⟨t,l⟩:=v;rw[Oh]
mutual
theorem OT: ∀v:ze,Oh v<=szV v
 |⟨t,l⟩=>by rw[Oh,szV];have:=nk l;split<;>omega
theorem nk: ∀l:List ze,Ve l<=szL l
 |[]=>La _
 |v::r=>by rw[Ve,szL];have:=OT v;have:=nk r;omega
end
theorem tK(f:ze->Nat): ∀(l:List ze) (a:Nat),l.foldl (fun a v=>max a (f v)) a=max a (l.foldr (fun v a=>max (f v) a) 0)
 |[],a=>by simp
 |v::l,a=>by rw[Mf,tK f l,List.foldr_cons];omega
theorem mJ: ∀(l:List ze),Ve l=l.foldr (fun v a=>max (Oh v) a) 0
 |[]=>by rw[Ve];rfl
 |v::l=>by rw[Ve,mJ l];rfl
theorem wC{l:List ze}(h:szL l<=big):qO l=some (Ve l:Int):=by
 refine ng (fun l=>szL l) (fun l=>szL l<=big) (fun l=>(Ve l:Int)) (fun S l n j=> ?_) h;unfold Ez;have e:=Eg l;refine(KD l (fun i (a:Nat)=>((a:Int),(i:Int))) (fun v a=>some (.again (max a (Oh v)))) (fun a=>some (.out (a:Int))) (a:=0) rfl (fun i a b=> ?_) (fun a=> ?_) (r:= .out (Ve l:Int)) ?_)
 ·have f:=Dh (ja b);have k:=ag l[i];have c:=lJ l[i];have g:=nk l[i].list;simp only[Zl b,Ea,zb,Zo b,Ba,PE];by_cases d:Zm l[i].token.kind=0
  ·rw[Ma d]at c;simp[d,c,Zb b (by omega)]
  ·rw[Oa d]at c;rw[j l[i].list (by omega) (by omega)];have m:w64 (1+(Ve l[i].list:Int))=((1+Ve l[i].list:Nat):Int):=by rw[w64,Zp (by omega) (by grind)];omega
   simp only[Ag.2 d,Ea,Ba,zQ,Zb b (by omega),m,c,Ee]
   grind
 ·grind
 ·rw[Pj (fun a v=>max a (Oh v)) (fun v a=>rfl),tK,<-mJ];simp
theorem mr{l:List ze}: ∀{i:Nat} (h:i<l.length),szL (l.take (i+1))=szL (l.take i)+szV l[i]:=by
 induction l with
 |nil=>grind
 |cons v r a=>
  intro i h;cases i with
  |zero=>simp[szL]
  |succ i=>
   simp only[Md,szL,List.getElem_cons_succ]
   grind
theorem ut(l:List ze)(i:Nat):szL (l.take i)<=szL l:=by
 induction l generalizing i with
 |nil=>simp
 |cons v r a=>
  cases i with
  |zero=>simp[szL]
  |succ i=>simp only[Md,szL];grind
mutual
/-- The tokens of values. -/
def tokV:ze->List zf
 |⟨t,l⟩=>t::if Zm t.kind=0 then []else tokL l++[⟨Zm t.kind,[],0,[],false⟩]
def tokL:List ze->List zf
 |[]=>[]
 |v::r=>tokV v++tokL r
end
theorem Ow(v:ze):tokV v=v.token::if Zm v.token.kind=0 then []else tokL v.list++[⟨Zm v.token.kind,[],0,[],false⟩]:=by obtain⟨t,l⟩:=v;rw[tokV]
mutual
theorem Xr: ∀v:ze,(tokV v).length<=2*szV v
 |⟨t,l⟩=>by
  rw[tokV,szV];have:=Bo l
  grind
theorem Bo: ∀l:List ze,(tokL l).length<=2*szL l
 |[]=>La _
 |v::r=>by rw[tokL,szL,Sa];have:=Xr v;have:=Bo r;omega
end
theorem Hy: ∀(l:List ze) (a:List zf),l.foldl (fun a v=>a++tokV v) a=a++tokL l
 |[],a=>by simp[tokL]
 |v::l,a=>by rw[Mf,Hy l,tokL,Td]
theorem yK{l:List ze}(h:szL l<=big):ql l=some (tokL l):=by
 refine ng (fun l=>szL l) (fun l=>szL l<=big) (fun l=>tokL l) (fun S l j o=> ?_) h;unfold xz;have f:=Eg l;refine(ik l (fun i (a:List zf)=>((i:Int),a)) (fun v a=>some (.again (a++tokV v))) (fun a=>some (.out a)) (fun i a=>a.length<=2*szL (l.take i)) (a:=[]) rfl (by simp) (fun i a c u=> ?_) (fun a _=> ?_) (r:= .out (tokL l)) ?_)
 ·have g:=Dh (ja c);have t:=ag l[i];have d:=Ow l[i];have k:=Bo l[i].list;have w:=mr c;have q:=ut l (i+1);have s:=Xr l[i];unfold big at j;have b: ∀n m:Nat,n+m<=100000000->zR n m 56=true:=fun n m h=>Ti (by omega);refine⟨?_,fun x y=> ?_⟩
  ·simp only[Zl c,Ea,zb,Zo c,Ba,PE];by_cases e:Zm l[i].token.kind=0
   ·rw[Ma e]at d;simp[e,d,Zb c (by unfold big;omega),b a.length 1 (by omega)]
   ·rw[Oa e]at d;rw[o l[i].list (by unfold big;omega) (by omega)];have p:(Zm l[i].token.kind != 0)=true:=Ag.2 e;simp[p,d,Zb c (by unfold big;omega),b a.length 1 (by omega),b (a.length+1) (tokL l[i].list).length (by omega),b (a.length+((tokL l[i].list).length+1)) 1 (by omega)]
  ·grind
 ·grind
 ·rw[Pj (fun a v=>a++tokV v) (fun v a=>rfl),Hy];simp
mutual
/-- Whether lists are those of blocks, and have not their closers. -/
def shV:ze->Int->Bool
 |⟨t,l⟩,c=> !((Zm t.kind==0&&decide (0<l.length))||(c != 0&&t.kind==c)||(Zm t.kind != 0&& !(shL l (Zm t.kind))))
def shL:List ze->Int->Bool
 |[],_=>true
 |v::r,c=>shV v c&&shL r c
end
theorem iR(v:ze)(c:Int):shV v c= !((Zm v.token.kind==0&&decide (0<v.list.length))||(c != 0&&v.token.kind==c)||(Zm v.token.kind != 0&& !(shL v.list (Zm v.token.kind)))):=by obtain⟨t,l⟩:=v;rw[shV]
theorem oV{l:List ze}{c:Int}(h:szL l<=big):Qg (l,c)=some (shL l c):=by
 refine ng (fun x:List ze×Int=>szL x.1) (fun x=>szL x.1<=big) (fun x=>shL x.1 x.2) (fun S x A q=> ?_) h;obtain⟨l,c⟩:=x;simp only at A q ⊢;unfold wz;have m:=Eg l;have f: ∀l:List ze,Hg (fun v (_:Unit)=>if shV v c=true then some (.again ())else some (.ret false)) (fun _=>some (.out ())) l ()=some (if shL l c=true then .out ()else .ret false):=by
  intro l
  induction l with
  |nil=>simp[Hg,shL]
  |cons v r y=>
   by_cases n:shV v c=true
   ·simpa [Hg,shL,n] using y
   ·simp[Hg,shL,n]
 refine(KD l (fun i (_:Unit)=>(i:Int)) (fun v (_:Unit)=>if shV v c=true then some (.again ())else some (.ret false)) (fun _=>some (.out ())) (a:=()) rfl (fun i a d=> ?_) (fun a=> ?_) (f l)).trans ?_
 ·have C:=Dh (ja d);have w:=ag l[i];have z:=iR l[i] c;simp only[Zl d,Ea,zb,Zo d,Ba,PE];have g:szL l[i].list<=big:=by omega
  have j:szL l[i].list<szL l:=by omega
  have e: ∀b,S (l[i].list,b)=some (shL l[i].list b):=fun b=>q (l[i].list,b) g j;rw[z];have o:decide ((l[i].list.length:Int)>0)=decide (0<l[i].list.length):=uw _;have B:=Zb d (by omega);simp only[bne,o];rcases ib (Zm l[i].token.kind==0)with k|k<;>rcases ib (decide (0<l[i].list.length))with u|u<;>rcases ib (c==0)with s|s<;>rcases ib (l[i].token.kind==c)with p|p<;>rcases ib (shL l[i].list (Zm l[i].token.kind))with t|t<;>
   simp only[e,o,k,u,s,p,t,B,Ea,Da,Ab,Ya,Vb,Tc,aa,Jc,Af,Je,Xd,Ld,zY,Zy,Ba,Og,if_false,Ee,Cg]
 ·grind
 ·cases h:shL l c<;>simp
def Fj(l:List ze)(c:Int):zB:=⟨Ve l,(tokL l).length, !(shL l c)⟩
theorem GK(c:Int): ∀(l:List ze) (a:Nat×Nat×Bool),l.foldl (fun a v=>(max a.1 (Oh v),a.2.1+(tokV v).length,a.2.2|| !(shV v c))) a=(max a.1 (Ve l),a.2.1+(tokL l).length,a.2.2|| !(shL l c))
 |[],a=>by simp[Ve,tokL,shL]
 |v::l,a=>by
  rw[Mf,GK c l,Ve,tokL,shL,Sa];simp only[Prod.mk.injEq]
  grind
theorem zBf(a b:Bool):(bif a then true else b)=(a||b):=by cases a<;>rfl
theorem aT(a b:Bool):(bif a then b else false)=(a&&b):=by cases a<;>rfl
theorem EN{l:List ze}{c:Int}(h:szL l<=big):qo (l,c)=some (Fj l c):=by
 refine ng (fun x:List ze×Int=>szL x.1) (fun x=>szL x.1<=big) (fun x=>Fj x.1 x.2) (fun S x C E=> ?_) h;obtain⟨l,c⟩:=x;simp only at C E ⊢;unfold Ep;have B:=Eg l;refine(ik l (fun i (a:Nat×Nat×Bool)=>((i:Int),(⟨(a.1:Int),(a.2.1:Int),a.2.2⟩:zB))) (fun v a=>some (.again (max a.1 (Oh v),a.2.1+(tokV v).length,a.2.2|| !(shV v c)))) (fun a=>some (.out (⟨(a.1:Int),(a.2.1:Int),a.2.2⟩:zB))) (fun i a=>a.2.1<=2*szL (l.take i)) (a:=(0,0,false)) rfl (by simp) (fun i a j J=> ?_) (fun a _=> ?_) (r:= .out (Fj l c)) ?_)
 ·have N:=Dh (ja j);have H:=ag l[i];have m:=lJ l[i];have O:=nk l[i].list;have o:=Ow l[i];have P:=Bo l[i].list;have e:=iR l[i] c;have K:=mr j;have G:=ut l (i+1);have Q:=Xr l[i];have w:szL l[i].list<=big:=by omega
  have y:szL l[i].list<szL l:=by omega
  have p:S (l[i].list,Zm l[i].token.kind)=some (Fj l[i].list (Zm l[i].token.kind)):=E (l[i].list,Zm l[i].token.kind) w y;obtain⟨d,n,b⟩:=a;simp only at J;have D:=Zb j (by omega);unfold big at C;have u:w64 ((n:Int)+1)=((n+1:Nat):Int):=by rw[w64,Zp (by omega) (by omega)];omega
  refine⟨?_,fun R T=> ?_⟩
  ·have L:decide ((l[i].list.length:Int)>0)=decide (0<l[i].list.length):=uw _;simp only[Zl j,Ea,zb,Zo j,Ba,eG,Ee,u,bne,L,zBf,aT];by_cases k:Zm l[i].token.kind=0
   ·rw[Ma k]at m o;simp only[k,Ef,aa,Ab,Jc,Je,bne]at e ⊢;rw[e,m,o];rcases ib (decide (0<l[i].list.length))with F|F<;>rcases ib (c==0)with g|g<;>rcases ib (l[i].token.kind==c)with f|f<;>
     simp[F,g,f,D,Ea,Da]
   ·rw[Oa k]at m o;have s:(Zm l[i].token.kind==0)=false:=Ja.2 k;have z:w64 ((Ve l[i].list:Int)+1)=((1+Ve l[i].list:Nat):Int):=by rw[w64,Zp (by omega) (by omega)];omega
    have t:w64 (((n+1:Nat):Int)+((tokL l[i].list).length:Int))=((n+1+(tokL l[i].list).length:Nat):Int):=by rw[w64,Zp (by omega) (by omega)];omega
    have A:w64 (((n+1+(tokL l[i].list).length:Nat):Int)+1)=((n+(1+((tokL l[i].list).length+1)):Nat):Int):=by rw[w64,Zp (by omega) (by omega)];omega
    have q:(tokV l[i]).length=1+((tokL l[i].list).length+1):=by rw[o];simp;omega
    have M:(if((1+Ve l[i].list:Nat):Int)>(d:Int)then((1+Ve l[i].list:Nat):Int)else(d:Int))=((max d (1+Ve l[i].list):Nat):Int):=by split<;>omega
    rw[e,m,q];simp only[s,p,Jc,Ya,aa,Je,Ld,Da,bne,Ba,Fj];rcases ib (c==0)with g|g<;>rcases ib (l[i].token.kind==c)with f|f<;>
     simp only[g,f,D,z,t,A,M,Ea,Da,zQ,Ab,Ya,aa,Vb,Tc,Jc,Af,Je,Xd,Ld,bf]
  grind
 ·grind
 ·rw[Pj (fun a v=>(max a.1 (Oh v),a.2.1+(tokV v).length,a.2.2|| !(shV v c))) (fun v a=>rfl),GK];simp[Fj]
theorem wB{a b:List ze}(h:a.Sublist b):szL a<=szL b:=by
 induction h with
 |slnil=>grind
 |cons v _ c=>rw[szL];omega
 |cons_cons v _ c=>rw[szL,szL];omega
theorem VE(l:List ze):l=[]\/ ∃t v,l=t++[v]:=by
 rcases List.eq_nil_or_concat l with h|⟨t,v,h⟩
 ·exact .inl h
 grind
def isSp(v:ze):Bool:=v.token.kind==13
def trimB(l:List ze):List ze:=(l.reverse.dropWhile isSp).reverse
theorem aS:trimB []=[]:=rfl
theorem Vt(t:List ze)(v:ze):trimB (t++[v])=if isSp v then trimB t else t++[v]:=by
 unfold trimB;rw[List.reverse_append];simp only[List.reverse_cons,List.reverse_nil,Uc,Dc,yc]
 grind
theorem Gy(l:List ze):(trimB l).Sublist l:=by
 unfold trimB
 grind
def trimS(l:List ze):List ze:=trimB (l.dropWhile isSp)
theorem Lx(p:ze->Bool): ∀(l:List ze),l.drop (l.length - (l.dropWhile p).length)=l.dropWhile p
 |[]=>rfl
 |v::r=>by
  rw[yc];split
  ·have h:=List.Sublist.length_le (De p (l:=r));rw[Bb,Nat.succ_sub h,List.drop_succ_cons];exact Lx p r
  ·simp
theorem WW{l:List ze}(h:szL l<=big):yu l=some (trimS l):=by
 unfold yu;refine(lg (r:= .out (l.dropWhile isSp)) (Us (fun s=>s.dropWhile isSp=l.dropWhile isSp) (fun s=>s.length) _ (fun s c=> ?_) rfl)).trans ?_
 ·cases s with
  |nil=>simp_all
  |cons v t=>
   have e:decide (((v::t).length:Int)>0)=true:=by rw[uw];simp
   have f:geti (v::t) 0=some v:=rfl;have n:decide ((1:Int)<=((v::t).length:Int))=true:=by simp;omega
   rw[yc]at c;cases b:isSp v with
   |true=> rw[b]at c;unfold isSp at b;simp_all
   |false=> rw[b]at c;unfold isSp at b;refine .inr (.inl ⟨v::t,?_,by rw[<-c];rfl⟩);simp only[e,f,zY,zb,Ba,b,Ea,Da]
 ·rw[ztc];have i:szL (l.dropWhile isSp)<=big:=Jb (wB (De _)) h;unfold trimS;generalize l.dropWhile isSp=d at i;refine(lg (r:= .out (trimB d)) (Us (fun s=>trimB s=trimB d/\szL s<=big) (fun s=>s.length) _ (fun s c=> ?_) ⟨rfl,i⟩)).trans ?_
  ·rcases VE s with rfl|⟨t,v,rfl⟩
   ·exact .inr (.inl ⟨[],by simp,by rw[<-c.1];rfl⟩)
   ·have g:=Eg (t++[v]);have k:(t++[v]).length=t.length+1:=by simp
    have m:=c.2;unfold big at m;have e:decide (((t++[v]).length:Int)>0)=true:=by rw[uw];simp
    have j:w64 (((t++[v]).length:Int) - 1)=(t.length:Int):=by rw[w64,Zp (by omega) (by omega)];omega
    have f:geti (t++[v]) (t.length:Int)=some v:=by rw[Zo (by omega)];simp
    have n:(decide ((0:Int)<=(t.length:Int))&&decide ((t.length:Int)<=((t++[v]).length:Int)))=true:=by simp;omega
    have a:=c.1;rw[Vt]at a;cases b:isSp v with
    |true=> rw[Ma b]at a;unfold isSp at b;refine .inl ⟨t,?_,⟨a,Jb (wB (List.sublist_append_left t [v])) c.2⟩,by simp⟩;simp_all
    |false=> rw[Oa (by rw[b];simp)]at a;unfold isSp at b;refine .inr (.inl ⟨t++[v],?_,by rw[<-a]⟩);simp only[e,j,f,zY,zb,Ba,b,Ea,Da]
  ·rw[ztc]
def errS(l:List ze):Int:=if 16<Ve l then 20 else if 1500<(tokL l).length then 4 else if shL l 0 then 0 else 8
theorem LU{l:List ze}(h:szL l<=big):Fu l=some (errS l):=by
 unfold Fu errS;simp only[zb,wC h,yK h,oV h,Ba]
 grind
theorem wD{l:List ze}(h:szL l<=big):ZF l=some (errS l):=by
 unfold ZF errS;simp only[zb,EN h,Ba,Fj]
 grind
theorem xV{l:List ze}(h:szL l<=big):Ml l=some (if errS l=0 then((Ve l:Int),0)else(0,errS l)):=by
 unfold Ml;simp only[zb,wD h,EN h,Ba,Fj]
 grind
theorem Cr: ∀l:List ze,szL l<=zL Za l:=by
 have a: ∀(n:Nat) (l:List ze),zL Za l<n->szL l<=zL Za l:=by
  intro n
  induction n with
  |zero=>intro l h;omega
  |succ n d=>
   intro l
   induction l with
   |nil=>intro _;rw[szL];grind
   |cons v l b=>
    intro h;rw[Rn]at h ⊢;rw[szL,ag];have c:=TS v
    grind
 grind
theorem wS{l:List ze}{a:List zf}(h:szL l<=big)(e:a.length+2*szL l<=4*big):ZJ (l,a)=some (a++tokL l):=by
 refine ng (fun z=>szL z.1) (fun z=>szL z.1<=big/\z.2.length+2*szL z.1<=4*big) (fun z=>z.2++tokL z.1) (fun S z q s=> ?_) (x:=(l,a)) ⟨h,e⟩;obtain⟨l,a⟩:=z;obtain⟨h,e⟩:=q;have h:szL l<=big:=h;have e:a.length+2*szL l<=4*big:=e;have j:=Eg l;unfold Dq;refine(ik l (fun i (b:List zf)=>((i:Int),b)) (fun v b=>some (.again (b++tokV v))) (fun b=>some (.out b)) (fun i b=>b.length<=a.length+2*szL (l.take i)) (a:=a) rfl (by simp) (fun i b d A=> ?_) (fun b _=> ?_) (r:= .out (a++tokL l)) ?_).trans rfl
 ·have o:=Dh (ja d);have y:=ag l[i];have f:=Ow l[i];have p:=Bo l[i].list;have B:=mr d;have u:=ut l (i+1);have w:=Xr l[i];unfold big at h e;have c: ∀n m:Nat,n+m<=100000000->zR n m 56=true:=fun n m h=>Ti (by omega);refine⟨?_,fun C k=> ?_⟩
  ·simp only[Zl d,Ea,zb,Zo d,Ba,eG];by_cases g:Zm l[i].token.kind=0
   ·rw[Ma g]at f;simp[g,f,Zb d (by unfold big;omega),c b.length 1 (by omega)]
   ·rw[Oa g]at f;rw[s (l[i].list,b++[l[i].token]) ⟨by grind,by grind⟩ (by grind)];have t:(Zm l[i].token.kind != 0)=true:=Ag.2 g;simp[t,f,Zb d (by unfold big;omega),c b.length 1 (by omega),c (b.length+((tokL l[i].list).length+1)) 1 (by omega)]
  ·grind
 ·grind
 ·rw[Pj (fun a v=>a++tokV v) (fun v a=>rfl),Hy]
theorem xS{l:List ze}(h:szL l<=big):Q0 l=some (tokL l):=by
 have g:=Eg l;unfold Q0;refine(ik l (fun i (b:List zf)=>((i:Int),b)) (fun v b=>some (.again (b++tokV v))) (fun b=>some (.out b)) (fun i b=>b.length<=2*szL (l.take i)) (a:=[]) rfl (by simp) (fun i b d u=> ?_) (fun b _=> ?_) (r:= .out (tokL l)) ?_).trans rfl
 ·have k:=Dh (ja d);have t:=ag l[i];have e:=Ow l[i];have o:=Bo l[i].list;have w:=mr d;have q:=ut l (i+1);have s:=Xr l[i];unfold big at h;have c: ∀n m:Nat,n+m<=100000000->zR n m 56=true:=fun n m h=>Ti (by omega);refine⟨?_,fun x j=> ?_⟩
  ·simp only[Zl d,Ea,zb,Zo d,Ba,eG];by_cases f:Zm l[i].token.kind=0
   ·rw[Ma f]at e;simp[f,e,Zb d (by unfold big;omega),c b.length 1 (by omega)]
   ·rw[Oa f]at e;rw[wS (a:=b++[l[i].token]) (show szL l[i].list<=big by unfold big;omega) (by grind)];have p:(Zm l[i].token.kind != 0)=true:=Ag.2 f;simp[p,e,Zb d (by unfold big;omega),c b.length 1 (by omega),c (b.length+((tokL l[i].list).length+1)) 1 (by omega)]
  ·grind
 ·grind
 ·rw[Pj (fun a v=>a++tokV v) (fun v a=>rfl),Hy];simp
theorem FX{l:List ze}(h:szL l<=big):Bl l=some (if errS l=0 then(tokL l,0)else([],errS l)):=by
 unfold Bl;simp only[wD h,zb,Ba];by_cases he:errS l=0
 ·have:(errS l != 0)=false:=by rw[he];rfl
  rw[this,Da,xS h,Ma he];rfl
 grind
end Go.Lv.VT

namespace Go.Lv
theorem Le.lp{S X R:Type}{step step':S->Option (LO S X R)}{s:S}{k k':X->Option R}(h: ∀s,Le (step s) (step' s))(hk: ∀x,Le (k x) (k' x)):Le (zX step s k) (zX step' s k'):=by
 intro y hy;unfold zX at hy;cases hl:Gh step s with
 |none=>rw[hl]at hy;cases hy
 |some r=>
  rw[hl]at hy;obtain⟨n,hn⟩:=GL hl;rw[lg (Fh (ED h n s r hn))];cases r with
  |out x=>exact hk x y hy
  |ret r=>exact hy
def jq{X Y:Type}(B:(X->Option Y)->X->Option Y):Prop:= ∀S S':X->Option Y,(∀x,Le (S x) (S' x))-> ∀x,Le (B S x) (B S' x)
theorem Px {X Y:Type} {B:(X->Option Y)->X->Option Y} (hm:jq B) (μ:X->Nat) (ok:X->Prop) (R:X->Y->Prop)
  (hB: ∀(S:X->Option Y) (x:X),ok x->(∀z,ok z->μ z<μ x-> ∃y,S z=some y/\R z y)-> ∃y,B S x=some y/\R x y) {x:X} (hx:ok x): ∃y,recE B x=some y/\R x y:=by
 have step: ∀n x,Le (Df B n x) (Df B (n+1) x):=by
  intro n
  induction n with
  |zero=>intro x;exact Le.none
  |succ n ih=>intro x;exact hm _ _ ih x
 have up: ∀d n x,Le (Df B n x) (Df B (n+d) x):=by
  intro d
  induction d with
  |zero=>intro n x;exact Le.rfl
  |succ d ih=>intro n x y hy;exact step _ x y (ih n x y hy)
 have key: ∀(m:Nat) (x:X),μ x<m->ok x-> ∃y,Df B m x=some y/\R x y:=by
  intro m
  induction m with
  |zero=>intro x h;omega
  |succ m ih=> intro x hm hok;exact hB _ x hok fun z hz hlt=>ih z (by omega) hz
 obtain⟨y,h1,h2⟩:=key (μ x+1) x (by omega) hx;refine⟨y,aC (N:=μ x+1) fun n hn=> ?_,h2⟩;obtain⟨d,rfl⟩:=Nat.le.dest hn;exact up d _ x y h1
theorem Wx {A S X R:Type} {step:S->Option (LO S X R)} {k:X->Option R} (n:Nat) (st:Nat->A->S) (Inv:Nat->A->Prop) (Q:R->Prop) {s0:S} {a0:A} (h0:s0=st 0 a0) (hI:Inv 0 a0)
  (hg: ∀(i:Nat) (a:A),i<n->Inv i a->(∃a',step (st i a)=some (.again (st (i+1) a'))/\Inv (i+1) a')\/(∃r,step (st i a)=some (.ret r)/\Q r)\/(∃x,step (st i a)=some (.out x)/\ ∃r,k x=some r/\Q r))
  (hf: ∀a,Inv n a->(∃x,step (st n a)=some (.out x)/\ ∃r,k x=some r/\Q r)\/(∃r,step (st n a)=some (.ret r)/\Q r)): ∃r,zX step s0 k=some r/\Q r:=by
 have key: ∀(m i:Nat) (a:A),i+m=n->Inv i a-> ∃j x,qD step j (st i a)=some x/\ ∃r,LX.go x k=some r/\Q r:=by
  intro m
  induction m with
  |zero=>
   intro i a hi ha;obtain rfl:i=n:=by omega
   rcases hf a ha with⟨x,h1,r,h2,h3⟩|⟨r,h1,h2⟩
   ·exact⟨1, .out x,by simp only[qD,h1],r,h2,h3⟩
   ·exact⟨1, .ret r,by simp only[qD,h1],r,rfl,h2⟩
  |succ m ih=>
   intro i a hi ha;rcases hg i a (by omega) ha with⟨a',h1,h2⟩|⟨r,h1,h2⟩|⟨x,h1,r,h2,h3⟩
   ·obtain⟨j,x,g1,g2⟩:=ih (i+1) a' (by omega) h2;exact⟨j+1,x,by simp only[qD,h1];exact g1,g2⟩
   ·exact⟨1, .ret r,by simp only[qD,h1],r,rfl,h2⟩
   ·exact⟨1, .out x,by simp only[qD,h1],r,h2,h3⟩
 obtain⟨j,x,h1,r,h2,h3⟩:=key n 0 a0 (by omega) hI;refine⟨r,?_,h3⟩;rw[h0,lg (Fh h1),h2]
namespace VT
def mx{α:Type}(f:α->Nat):List α->Nat
 |[]=>0
 |v::l=>max (f v) (mx f l)
theorem uR{α:Type}{f:α->Nat}{v:α}: ∀{l:List α},v∈l->f v<=mx f l
 |[],h=>by cases h
 |x::l,h=>by
  rw[mx];rcases Ua.1 h with rfl|h
  ·omega
  ·have:=uR (f:=f) h;omega
theorem zAb {α S X R:Type} {step:S->Option (LO S X R)} {k:X->Option R} (l:List α) (f:α->Nat) (st:Nat->Nat->S) (out:Nat->X) {s0:S} {a0:Nat} (h0:s0=st a0 0)
  (hg: ∀(i a:Nat) (h:i<l.length),step (st a i)=some (.again (st (max a (f l[i])) (i+1))))
  (hf: ∀a:Nat,step (st a l.length)=some (.out (out a))):zX step s0 k=k (out (max a0 (mx f l))):=by
 have key: ∀(m:List α) (i a:Nat),l.drop i=m->i<=l.length-> ∃n,qD step n (st a i)=some (.out (out (max a (mx f m)))):=by
  intro m
  induction m with
  |nil=>
   intro i a hd hi;have:i=l.length:=by have:=Rc.1 hd;omega
   subst this;exact⟨1,by simp only[qD,hf,mx];rw[Nat.max_zero]⟩
  |cons v m ih=>
   intro i a hd hi;have hlt:i<l.length:=by
    rcases Ce i l.length with h|h
    ·exact h
    ·rw[List.drop_eq_nil_of_le h]at hd;cases hd
   have hv:l[i]=v:=by have:=Va hlt;rw[hd]at this;injection this with h1 _;exact h1.symm
   have hs:=hg i a hlt;rw[hv]at hs;obtain⟨n,hn⟩:=ih (i+1) (max a (f v)) (by rw[Va hlt]at hd;injection hd) (by omega);refine⟨n+1,?_⟩;simp only[qD,hs];rw[hn,mx,Nat.max_assoc]
 obtain⟨n,hn⟩:=key l 0 a0 rfl (by omega);rw[h0,lg (Fh hn)];rfl
theorem Cw(a b:Nat):(if(b:Int)>(a:Int)then(b:Int)else(a:Int))=((max a b:Nat):Int):=by split<;>omega
end VT
end Go.Lv

namespace Go.Lv.VT
set_option maxRecDepth 100000
theorem ai{α:Type}(l:List α):((l.length:Int)==0)=l.isEmpty:=by
 cases l with
 |nil=>rfl
 |cons a l=>exact Ja.2 (by simp only[Bb];omega)
theorem Uy(v:ze):(⟨v.token,v.list⟩:ze)=v:=by cases v;rfl
def xg(x:Str):Bool:= !(x==[])&&(decide (x.length<=64)&&(Oe x&&(bif List.isPrefixOf [45,45] x then !(x==[45,45])else lowS x==x)))
theorem eZ{x:Str}(h:x.length<=big):Rl x=some (xg x):=by
 have e:decide ((x.length:Int)>64)= !decide (x.length<=64):=Iw _ 64;have e1:decide (Lib.indexByte x (0:Int).toNat.toUInt8>=0)= !Oe x:=WC x;have ec:=oK x (lowS x);unfold Rl xg;simp only[KF,Zd,zb,Ba,Gz,Yy h,e,ec];cases x==[]<;>cases decide (x.length<=64)<;>try rfl
 simp only[Ea,Da,Ab,Ya,aa,Je,e1];cases Oe x<;>cases List.isPrefixOf [45,45] x<;>rfl
theorem sJ(x:Str):(bif decide ((x.length:Int)>=2)then List.take 2 x==[45,45]else false)=List.isPrefixOf [45,45] x:=by
 cases x with
 |nil=>rfl
 |cons a x=>
  cases x with
  |nil=>show(bif decide _ then _ else _)=((45==a)&&false);rw[Tc];rfl
  |cons b x=> have:decide ((((a::b::x:Str)).length:Int)>=2)=true:=Xa (by simp only[Bb];omega);rw[this];show((a==45)&&((b==45)&&true))=((45==a)&&((45==b)&&true));rw[Bool.beq_comm (a:=a),Bool.beq_comm (a:=b)]
theorem tJ{x:Str}(h:List.isPrefixOf [45,45] x=true):decide ((x.length:Int)>2)= !(x==[45,45]):=by
 obtain⟨t,rfl⟩:=List.isPrefixOf_iff_prefix.1 h;cases t with
 |nil=>rfl
 |cons a t=> have:decide ((([45,45]++a::t:Str).length:Int)>2)=true:=Xa (by simp only[Sa,Bb];omega);rw[this];rfl
theorem K3{x:Str}(h:x.length<=big):Du x=some (xg x):=by
 have e:decide ((x.length:Int)>64)= !decide (x.length<=64):=Iw _ 64;have en:decide ((x.length:Int)<1)=(x==[]):=by cases x with
  |nil=>rfl
  |cons a x=>exact Fb (by simp only[Bb];omega)
 have ec:=oK x (lowS x);have hk:(need (decide ((2:Int)<=(x.length:Int))|| !(decide ((x.length:Int)>=2)))<|
   bif bif decide ((x.length:Int)>=2)then List.take 2 x==[45,45]else false then some (decide ((x.length:Int)>2))else zb (Qs x) fun y4=>some (x==y4))=some (bif List.isPrefixOf [45,45] x then !(x==[45,45])else lowS x==x):=by
  have e2:(decide ((2:Int)<=(x.length:Int))|| !(decide ((x.length:Int)>=2)))=true:=by show(decide _|| !decide ((2:Int)<=_))=true;cases decide ((2:Int)<=(x.length:Int))<;>rfl
  rw[e2,Qo,sJ];cases hp:List.isPrefixOf [45,45] x with
  |true=>rw[Ea,Ea,tJ hp]
  |false=>simp only[Da,fD h,zb,Ba,ec]
 unfold Du xg;rw[hk];have hl: ∀b:Bool,zX (fun(s1:Int)=>bif decide (s1<(x.length:Int))then
    zb (geti x s1) fun y2=>bif (y2.toNat:Int)==0 then some (LO.ret false)else some (LO.again (w64 (s1+1)))
   else some (LO.out ()):Int->Option (LO (Int) (Unit) _)) 0 (fun _=>some b)=some (Oe x&&b):=by
  intro b;refine(Nl x (fun b=>bif (!(b==0))then none else some false) () (fun i hi=> ?_) ?_).trans ?_
  ·simp only[Zl hi,Ea,Zo hi,zb,Ba,byte_zero,Zb hi h];cases x[i]==0<;>rfl
  ·simp only[Qc,Da]
  ·rw[Ko];unfold Oe;cases x.all (fun b=> !(b==0))<;>rfl
 rw[hl,e,en];cases x==[]<;>cases decide (x.length<=64)<;>rfl
def clK(v:ze):Bool:=v.token.kind==20||(v.token.kind==22||v.token.kind==24)
mutual
def clV:ze->Bool
 |⟨t,l⟩=>clK ⟨t,l⟩||clL l
def clL:List ze->Bool
 |[]=>false
 |v::r=>clV v||clL r
end
theorem KS(v:ze):clV v=(clK v||clL v.list):=by obtain⟨t,l⟩:=v;rw[clV]
theorem mI(l:List ze):clL l=l.any clV:=by
 induction l with
 |nil=>rw[clL];rfl
 |cons v l ih=>rw[clL,ih];rfl
theorem H7{l:List ze}(h:szL l<=big):zt l=some (clL l):=by
 refine ng (fun l=>szL l) (fun l=>szL l<=big) (fun l=>clL l) (fun S l hl hS=> ?_) h;have hlen:=Eg l;unfold Oq Zq ZN;have:=ax (Xx (step:=fun(s1:Int)=>
   bif decide (s1<(l.length:Int))then
    zb (geti l s1) fun y2=>
    zb (Qe S (⟨y2.token,y2.list⟩:ze)) fun y3=>
    bif y3 then some (LO.ret s1)else some (LO.again (w64 (s1+1)))
   else some (LO.out ())) l clV (by omega) (fun i hi=> ?_) ?_) (Ps _ _)
 ·rw[this,mI];rfl
 ·have hsz:=Dh (ja hi);have hv2:=ag l[i];have hs:=hS l[i].list (by omega) (by omega);have:Qe S l[i]=some (clV l[i]):=by unfold Qe ZA;simp only[Uy,Zd,zb,Ba,hs,KS,clK];cases l[i].token.kind==20<;>cases l[i].token.kind==22<;>cases l[i].token.kind==24<;>rfl
  simp only[Zl hi,Ea,Zo hi,zb,Ba,Uy,this]
 ·simp only[Qc,Da]
theorem Y6{l:List ze}(h:szL l<=big):qE l=some (clL l):=by
 refine ng (fun l=>szL l) (fun l=>szL l<=big) (fun l=>clL l) (fun S l hl hS=> ?_) h;have hlen:=Eg l;unfold NA;refine(Nl l (fun v=>bif clV v then some true else none) () (fun i hi=> ?_) ?_).trans ?_
 ·have hsz:=Dh (ja hi);have hv2:=ag l[i];have hs:=hS l[i].list (by omega) (by omega);simp only[Zl hi,Ea,Zo hi,zb,Ba,KS,clK,Zb hi (show l.length<=big by omega)];cases h1:l[i].token.kind==20<;>cases h2:l[i].token.kind==22<;>cases h3:l[i].token.kind==24<;>
   first|rfl|(simp only[Da,Ya,zY,Ba,hs,Ld];cases clL l[i].list<;>rfl)
 ·simp only[Qc,Da]
 ·rw[bD,mI];cases l.any clV<;>rfl
def ui(l:List ze):Bool:=match l with
 |[]=>false
 |v::r=>isSp v||isSp ((v::r).getLast (by simp))
theorem aV(t:List ze)(v:ze):ui (t++[v])=((match t with|[]=>isSp v|a::_=>isSp a)||isSp v):=by
 cases t with
 |nil=>rfl
 |cons a t=> show(isSp a||isSp ((a::(t++[v])).getLast _))=_;congr 2;have:(a::(t++[v]))=(a::t)++[v]:=rfl;simp only[this,List.getLast_append_of_ne_nil,List.getLast_singleton,ne_eq,reduceCtorEq,je]
theorem WK(l:List ze):(trimB l).length<=l.length:=(Gy l).length_le
theorem wK(l:List ze):((trimS l).length==l.length)= !ui l:=by
 rcases VE l with rfl|⟨t,v,rfl⟩
 ·rfl
 ·rw[aV];have hl:(t++[v]).length=t.length+1:=by simp
  cases t with
  |nil=>
   show((trimB (List.dropWhile isSp [v])).length==1)= !(isSp v||isSp v);cases hv:isSp v with
   |true=>simp only[yc,hv];rfl
   |false=> simp only[yc,hv];have:=Vt [] v;rw[hv]at this;show((trimB [v]).length==1)=true;rw[show trimB [v]=[v]from this];rfl
  |cons a t=>
   show((trimB (List.dropWhile isSp (a::(t++[v])))).length==_)= !(isSp a||isSp v);have hb:=WK (List.dropWhile isSp (a::(t++[v])));cases ha:isSp a with
   |true=> simp only[yc,ha,Og]at hb ⊢;have hd:=(De isSp (l:=t++[v])).length_le;rw[Xd,Ab,Ja];rw[hl,Bb];rw[Sa,List.length_singleton]at hd;omega
   |false=>
    have e:List.dropWhile isSp (a::(t++[v]))=(a::t)++[v]:=by rw[yc,ha];rfl
    rw[e,Vt];cases hv:isSp v with
    |true=> have:=WK (a::t);rw[Ma rfl,Af,Ab,Ja,hl];omega
    |false=>simp
theorem FV{l:List ze}(h:l.length<=big)(g:Bool)(hg:(l.isEmpty&&g)=false)(k:Bool->Option Int):
  (zb (zo (decide ((l.length:Int)>0)&& !g) (geti l 0) (default:ze)) fun y7=>
   zb (zo (decide ((l.length:Int)>0)&& !g) (ZA ((⟨y7.token,y7.list⟩:ze),13)) (default:Bool)) fun y8=>
   zb (zo (!y8&&(decide ((l.length:Int)>0)&& !g)) (geti l (w64 ((l.length:Int) - 1))) (default:ze)) fun y9=>
   zb (zo (!y8&&(decide ((l.length:Int)>0)&& !g)) (ZA ((⟨y9.token,y9.list⟩:ze),13)) (default:Bool)) fun y10=>
   k (bif decide ((l.length:Int)>0)then bif y8 then true else y10 else false))=(if g=true/\l≠[]then(k (bif decide ((l.length:Int)>0)then bif (default:Bool)then true else(default:Bool)else false))else k (ui l)):=by
 cases l with
 |nil=> have:decide ((([]:List ze).length:Int)>0)=false:=rfl;simp only[this,Jc,Zy,zb,Ba,Tc,Da,ne_eq,not_true_eq_false,and_false,if_false,ui]
 |cons v r=>
  have e1:decide (((v::r).length:Int)>0)=true:=Xa (by simp only[Bb];omega);have e2:geti (v::r) 0=some v:=rfl;cases g with
  |true=>simp only[e1,Ab,Tc,Zy,zb,Ba,Ea,ne_eq,reduceCtorEq,je,and_self,Og]
  |false=>
   simp only[e1,Ya,Vb,zY,zb,Ba,Ea,e2,ZA,false_and,if_false,reduceCtorEq];have e3:w64 (((v::r).length:Int) - 1)=(r.length:Int):=by rw[Bb]at h ⊢;rw[w64,Zp (by omega) (by unfold big at h;omega)];omega
   have e4:geti (v::r) (r.length:Int)=some ((v::r).getLast (by simp)):=by rw[Zo (by simp),List.getLast_eq_getElem];simp
   rw[e3,e4];simp only[Zd,Ba,ui,isSp];cases v.token.kind==13<;>rfl
def badV(v:ze):Bool:=v.token.kind==17||(v.token.kind==9&&v.token.text==[33])
def Ck(custom:Bool)(l:List ze):Bool:= !(l.any badV)&&(!(l.isEmpty&& !custom)&& !ui l)
def jf(d:zA):Bool:=xg d.name&&(errS d.value==0&&(gluS (tokL d.value)==0&&(!clL d.value&&Ck (List.isPrefixOf [45,45] d.name) d.value)))
mutual
theorem zAx: ∀(v:ze) (t:zf),t∈tokV v->t.text.length<=szV v/\t.unit.length<=szV v
 |⟨t,l⟩,u,h=>by
  rw[tokV]at h;rw[szV];rcases Ua.1 h with rfl|h
  ·constructor<;>omega
  ·split at h
   ·cases h
   ·rcases Xc.1 h with h|h
    ·have:=Ox l u h;omega
    ·obtain rfl:=Yb.1 h;exact⟨Gc _,Gc _⟩
theorem Ox: ∀(l:List ze) (t:zf),t∈tokL l->t.text.length<=szL l/\t.unit.length<=szL l
 |[],_,h=>by rw[tokL]at h;cases h
 |v::r,u,h=>by
  rw[tokL]at h;rw[szL];rcases Xc.1 h with h|h
  ·have:=zAx v u h;omega
  ·have:=Ox r u h;omega
end
theorem uS{l:List ze}(h:szL l<=big):QF (tokL l)=some (gluS (tokL l)):=
 rY fun t ht=>by have:=Ox l t ht;omega
theorem zBv{l:List ze}(h:szL l<=big):Sl (tokL l)=some (gluS (tokL l)):=
 U3 fun t ht=>by have:=Ox l t ht;omega
theorem SY{l:List ze}(h:l.length<=big):Zc l=some (l.any badV):=by
 unfold Zc Zx;refine ax (Xx l badV h (fun i hi=> ?_) ?_) (Ps _ _)
 ·have:gp l[i]=some (badV l[i]):=by unfold gp Hl ZA badV;simp only[Uy,Zd,zb,Ba];cases l[i].token.kind==17<;>cases l[i].token.kind==9<;>rfl
  simp only[Zl hi,Ea,Zo hi,zb,Ba,Uy,this]
 ·simp only[Qc,Da]
theorem fZ{d:zA}(hv:szL d.value<=big)(hn:d.name.length<=big):QE d=some (bif jf d then 0 else 8):=by
 have hlen:=Eg d.value;unfold QE jf;rw[FX hv];simp only[zb,Ba,eZ hn];cases xg d.name with
 |false=>simp only[Ya,Ea,Ab,Zy,Ba,Jc,Da]
 |true=>
  by_cases he:errS d.value=0
  ·rw[Ma he];have he':(errS d.value==0)=true:=Sb.2 he;have this:((0:Int)==0)=true:=rfl;simp only[he',this,Ab,Da,Ya,zY,uS hv,Ba,aa,bne];cases hg:gluS (tokL d.value)==0 with
   |false=>simp only[Ya,Ea,Ab,Zy,Ba,Jc,Da]
   |true=>
    simp only[Ab,Da,Ya,zY,H7 hv,Ba,aa];cases clL d.value with
    |true=>rfl
    |false=>
     simp only[Da,SY (show d.value.length<=big by omega),Ba,Ck,Ya,aa];cases d.value.any badV with
     |true=>rfl
     |false=>
      simp only[Da,Gz,Zd,Ba,ai,Ya,aa];have hp:=FV (l:=d.value) (by omega) (bif d.value.isEmpty then !(bif d.value.isEmpty then List.isPrefixOf [45,45] d.name else default)else false);cases hd:d.value with
      |nil=>
       cases List.isPrefixOf [45,45] d.name<;>rfl
      |cons v r=> have hp':=hp (by rw[hd];rfl) (fun b=>bif b then some 8 else some 0);rw[hd]at hp';simp only[List.isEmpty_cons,Da,Cg,false_and,if_false]at hp';simp only[List.isEmpty_cons,Da,Jc,Ya,aa];refine Eq.trans hp' ?_;cases ui (v::r)<;>rfl
  ·rw[Oa he];have he':(errS d.value==0)=false:=Ja.2 he;simp only[he',bne,Ab,Da,Ya,Ea,Zy,Ba,Jc,Tc]
theorem bU{x:Str}(hn:xg x=true):gu x=some (List.isPrefixOf [45,45] x):=by
 unfold gu;have e2:(decide ((2:Int)<=(x.length:Int))|| !(decide ((x.length:Int)>2)))=true:=by
  by_cases h:2<=x.length
  ·rw[Xa (show(2:Int)<=(x.length:Int) by omega)];rfl
  ·rw[Fb (show¬((x.length:Int)>2) by omega)];simp
 rw[jw e2];have hp:=sJ x;cases hpp:List.isPrefixOf [45,45] x with
 |true=> rw[hpp]at hp;have h3:=tJ hpp;unfold xg at hn;rw[hpp]at hn;simp only[Ea,Ca]at hn;rw[hn.2.2.2]at h3;rw[h3];have:decide ((x.length:Int)>=2)=true:=Xa (by have:=Eb h3;omega);rw[this]at hp;exact congrArg some hp
 |false=>
  rw[hpp]at hp;cases h3:decide ((x.length:Int)>2)with
  |false=>rfl
  |true=> have:decide ((x.length:Int)>=2)=true:=Xa (by have:=Eb h3;omega);rw[this]at hp;exact congrArg some hp
theorem zBG{α:Type}(a b:List α):((a.length:Int)==(b.length:Int))=(a.length==b.length):=by rw[Bool.eq_iff_iff,Sb,Sb];omega
theorem l5{x:Str}{l:List ze}(h:szL l<=big)(hn:xg x=true):
  fu (x,l)=some (errS l==0&&(gluS (tokL l)==0&&(!clL l&&Ck (List.isPrefixOf [45,45] x) l))):=by
 have hlen:=Eg l;unfold fu;simp only[LU h,yK h,zb,Ba,bne,Zd];cases he:errS l==0 with
 |false=>simp only[Ya,Ea,Ab,Zy,Ba,Jc,Da]
 |true=>
  simp only[Ab,Da,Ya,Ea,zY,zBv h,Ba,aa];cases hg:gluS (tokL l)==0 with
  |false=>simp only[Ya,Ea,Ab,Zy,Ba,Jc,Da]
  |true=>
   simp only[Ab,Da,Ya,zY,Y6 h,Ba,aa];cases clL l with
   |true=>rfl
   |false=>
    simp only[Da,WW h,Ba,zBG,wK,ai,bf,Ya,aa,bU hn,Zd];have hl:zX (fun(s7:Int)=>
     bif decide (s7<(l.length:Int))then
      zb (geti l s7) fun y8=>
      bif bif y8.token.kind==17 then true else bif y8.token.kind==9 then y8.token.text==[33]else false then
       some (LO.ret false)
      else
       some (LO.again (w64 (s7+1)))
     else
      some (LO.out ()):Int->Option (LO (Int) (Unit) _)) 0 (fun _=>some true)=some (!(l.any badV)):=by
     refine(Nl l (fun v=>bif badV v then some false else none) () (fun i hi=> ?_) ?_).trans ?_
     ·simp only[Zl hi,Ea,Zo hi,zb,Ba,badV,Zb hi (show l.length<=big by omega)];cases l[i].token.kind==17<;>cases l[i].token.kind==9<;>cases l[i].token.text==[33]<;>rfl
     ·simp only[Qc,Da]
     ·rw[bD];cases l.any badV<;>rfl
    unfold Ck;simp only[zb]at hl;rw[hl];cases ui l<;>cases l.isEmpty<;>cases List.isPrefixOf [45,45] x<;>cases l.any badV<;>rfl
theorem M3{d:zA}(hv:szL d.value<=big)(hn:d.name.length<=big):Sj d=some (bif jf d then 0 else 8):=by
 unfold Sj jf;simp only[K3 hn,zb,Ba];cases hnd:xg d.name with
 |false=>rfl
 |true=> simp only[Ab,Ya,zY,l5 hv hnd,Ba,aa];cases (errS d.value==0&&(gluS (tokL d.value)==0&&(!clL d.value&&Ck (List.isPrefixOf [45,45] d.name) d.value)))<;>rfl
theorem G5:jq Wp:=by intro qh ref10_Size' h_ref10_Size x;unfold Wp;exact(.lp (fun _=>(.bif (.bind .rfl fun _=>(.bind (h_ref10_Size _) fun _=> .rfl)) .rfl)) fun _=> .rfl)
theorem H5:jq Xp:=by intro Qi ref04_Size' h_ref04_Size x;unfold Xp;exact(.lp (fun _=>(.bif (.bind .rfl fun _=>(.bind .rfl fun _=>(.bind .rfl fun _=>(.bind (h_ref04_Size _) fun _=> .rfl)))) .rfl)) fun _=> .rfl)
theorem E5:jq Vp:=by intro Xh ref10_long' h_ref10_long x;unfold Vp;exact(.bind .rfl fun _=>(.bif .rfl (.lp (fun _=>(.bif (.bind .rfl fun _=>(.bind (h_ref10_long _) fun _=>(.bif .rfl .rfl))) .rfl)) fun _=> .rfl)))
theorem nZ:jq Xj:=by intro Z6 cond_look' h_cond_look x;unfold Xj;exact(.bif .rfl (.bif (.bind .rfl fun _=>(.bind .rfl fun _=> .rfl)) (.bif (.bind .rfl fun _=> .rfl) (.join (.bif .rfl (.bif .rfl .rfl)) fun _=>(.bif (.bind .rfl fun _=>(.bif .rfl (.lp (fun _=>(.bif (.bind .rfl fun _=>(.bind (h_cond_look _) fun _=>(.bif .rfl (.join (.bind .rfl fun _=>(.bif .rfl .rfl)) fun _=> .rfl)))) .rfl)) fun _=> .rfl))) .rfl)))))
end Go.Lv.VT




