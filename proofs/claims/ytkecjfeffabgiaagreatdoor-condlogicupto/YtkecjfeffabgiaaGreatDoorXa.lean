/- Small functions of bytes and texts: small letters, names; the program's and the reference's are the same. -/
import Derived.Test.YtkecjfeffabgiaaGreatDoorTx
import Derived.Test.YtkecjfeffabgiaaGreatDoorMo
import Derived.Test.YtkecjfeffabgiaaGreatDoorIp
import Derived.Test.YtkecjfeffabgiaaGreatDoorLf
set_option linter.unusedSimpArgs false
set_option linter.unusedVariables false
namespace Go.Lv.VT
def Jj(n:Nat):Nat:=if 65<=n/\n<=90 then n+32 else n
def Ki(b:UInt8):UInt8:=UInt8.ofNat (Jj b.toNat)
theorem JU{n:Nat}(h:n<256):Jj n<256:=by unfold Jj;split<;>omega
theorem wV(b:UInt8):(Ki b).toNat=Jj b.toNat:=by unfold Ki;rw[UInt8.toNat_ofNat'];exact Nat.mod_eq_of_lt (JU (Ee b))
theorem OU: ∀n:Nat,n<256->Ci (n:Int)=some ((Jj n:Nat):Int):=by decide+kernel
theorem zCu: ∀n:Nat,n<256->(bif decide (65<=(n:Int))then decide ((n:Int)<=90)else false)=true->ZT (ibOr IntKind.u8 (n:Int) 32)=some (UInt8.ofNat (Jj n)):=by decide+kernel
def lowS(l:Str):Str:=l.map Ki
theorem ED{α:Type}{l:List α}{i:Nat}(h:i<l.length)(f:α->α):((l.take i).map f++l.drop i).set i (f l[i])=(l.take (i+1)).map f++l.drop (i+1):=by
 apply List.ext_getElem
 ·simp;omega
 grind
theorem SI{α:Type}{l:List α}{i:Nat}(h:i<l.length)(f:α->α):((l.take i).map f++l.drop i)[i]? =some l[i]:=by
 grind
theorem NC{α:Type}{l:List α}{i:Nat}(h:i<=l.length)(f:α->α):((l.take i).map f++l.drop i).length=l.length:=by simp;omega
theorem rT{α:Type}{l:List α}{i:Nat}(h:i<l.length)(f:α->α)(e:f l[i]=l[i]):(l.take i).map f++l.drop i=(l.take (i+1)).map f++l.drop (i+1):=by
 rw[<-ED h f,e];apply List.ext_getElem?
 grind
theorem jA(i:Nat):decide ((0:Int)<=(i:Int))=true:=Ta (by omega)
theorem bD{l:Str}(h:l.length<=big):Qw l=some (lowS l):=by
 unfold Qw;rw[iw (Ta (by unfold big at h;unfold maxLen;omega))];have d: ∀(k i:Nat),i+k=l.length-> ∃n,qD (X:=List UInt8) (R:=Str) (fun(a:Int×List UInt8)=>
   bif decide (a.1<(a.2.length:Int))then
    need (decide (0<=a.1)&&decide (a.1<(a.2.length:Int)))<|
    zb a.2[a.1.toNat]? fun f=>
    zb (Ci (f.toNat:Int)) fun g=>
    need (decide (0<=a.1)&&decide (a.1<(a.2.length:Int)))<|
    zb a.2[a.1.toNat]? fun p=>
    zb (ZT g) fun m=>
    some (LO.again (w64 (a.1+1),List.set a.2 a.1.toNat m))
   else
    some (LO.out a.2)) n ((i:Int),(l.take i).map Ki++l.drop i)=some (.out (lowS l)):=by
  intro k
  induction k with
  |zero=>
   intro i e;have e:i=l.length:=by omega
   subst e;refine⟨1,?_⟩;simp only[qD,NC (La _),af,Da];simp[lowS]
  |succ k o=>
   intro i e;have b:i<l.length:=by omega
   obtain⟨n,c⟩:=o (i+1) (by omega);refine⟨n+1,?_⟩;have j:=Ee l[i];simp only[qD,NC (Nat.le_of_lt b),Zw b,Ea,jA,Vb,Qs,Ec,SI b,zb,Aa,OU _ j];rw[<-wV,zzm,Zh b h];simp only[Aa,ED b];exact c
 obtain⟨n,c⟩:=d l.length 0 (by omega);replace c:=Bh c;simp only[List.take_zero,List.map_nil,Uc,List.drop_zero]at c;exact(kg c).trans rfl
theorem ay{l:Str}(h:l.length<=big):ZJ l=some (lowS l):=by
 unfold ZJ;rw[iw (Ta (by unfold big at h;unfold maxLen;omega))];have d: ∀(k i:Nat),i+k=l.length-> ∃n,qD (X:=List UInt8) (R:=Str) (fun(a:Int×List UInt8)=>
   bif decide (a.1<(l.length:Int))then
    zF (X:=Int×List UInt8) (
      need (decide (0<=a.1)&&decide (a.1<(a.2.length:Int)))<|
      zb a.2[a.1.toNat]? fun j=>
      bif bif decide (65<=(j.toNat:Int))then decide ((j.toNat:Int)<=90)else false then
       need (decide (0<=a.1)&&decide (a.1<(a.2.length:Int)))<|
       zb a.2[a.1.toNat]? fun o=>
       need (decide (0<=a.1)&&decide (a.1<(a.2.length:Int)))<|
       zb a.2[a.1.toNat]? fun t=>
       zb (ZT (ibOr IntKind.u8 (o.toNat:Int) 32)) fun q=>
       some (LX.out (a.1,List.set a.2 a.1.toNat q))
      else
       some (LX.out (a.1,a.2))) fun m=>
    some (LO.again (w64 (m.1+1),m.2))
   else
    some (LO.out a.2)) n ((i:Int),(l.take i).map Ki++l.drop i)=some (.out (lowS l)):=by
  intro k
  induction k with
  |zero=>
   intro i f;have f:i=l.length:=by omega
   subst f;refine⟨1,?_⟩;simp only[qD,af,Da];simp[lowS]
  |succ k r=>
   intro i f;have b:i<l.length:=by omega
   obtain⟨n,c⟩:=r (i+1) (by omega);refine⟨n+1,?_⟩;have p:=Ee l[i];simp only[qD,NC (Nat.le_of_lt b),Zw b,Ea,jA,Vb,Qs,Ec,SI b,zb,Aa];cases g:(bif decide (65<=(l[i].toNat:Int))then decide ((l[i].toNat:Int)<=90)else false)with
   |true=> have e:=zCu _ p g;simp only[e,Ea,Aa,zS,Zh b h];rw[show UInt8.ofNat (Jj l[i].toNat)=Ki l[i]from rfl,ED b];exact c
   |false=>
    have e:Ki l[i]=l[i]:=by unfold Ki Jj;rw[Ra,UInt8.ofNat_toNat];rintro⟨s,u⟩;rw[Ta (by omega),Ea,Ta (by omega)]at g;cases g
    simp only[Da,zS,Zh b h];rw[rT b Ki e];exact c
 obtain⟨n,c⟩:=d l.length 0 (by omega);replace c:=Bh c;simp only[List.take_zero,List.map_nil,Uc,List.drop_zero]at c;exact(kg c).trans rfl
def Re(l:Str):Bool:=l.all fun b=> !(b==0)
theorem uB(c:UInt8): ∀l:Str,decide (Lib.indexByte l c>=0)=l.any fun b=>b==c
 |[]=>rfl
 |b::l=>by
  have d:=uB c l;have a:=Lib.indexByte_ge l c;rw[List.any_cons,Lib.indexByte]
  grind
theorem zBJ(l:Str):(l.any fun b=>b==0)= !Re l:=by
 unfold Re
 grind
theorem BF(l:Str)(n:Int):strings_IndexByte (l,n)=some (Lib.indexByte l n.toNat.toUInt8):=rfl
theorem jB(l:Str):decide (Lib.indexByte l (0:Int).toNat.toUInt8>=0)= !Re l:=(uB 0 l).trans (zBJ l)
theorem Aw(n m:Nat):decide ((n:Int)>(m:Int))= !decide (n<=m):=by
 grind
theorem byte_zero(b:UInt8):((b.toNat:Int)==0)=(b==0):=by
 by_cases h:b=0
 ·subst h;rfl
 ·have a:b.toNat≠0:=fun e=>h (UInt8.toNat_inj.1 e)
  grind
theorem bK(a b:Str):(a==b)=(b==a):=by
 grind
theorem cB(n m:Nat):decide ((n:Int)<=(m:Int))=decide (n<=m):=by
 grind
theorem Ay{f:Option Int}{p:Bool}{i:Int}(h:f=some i)(a:decide (i>=0)=p):(zb f fun y=>some (decide (y>=0)))=some p:=by
 grind
theorem zAU{α:Type}(p:α->Bool)(l:List α):(l.any fun v=> !p v)= !l.all p:=by
 grind
theorem Fz(l m:Str):strings_HasPrefix (l,m)=some (m.isPrefixOf l):=by
 have a: ∀m l:Str,m.isPrefixOf l=(decide (m.length<=l.length)&&l.take m.length==m):=by
  intro m l;rw[Bool.eq_iff_iff];simp only[List.isPrefixOf_iff_prefix,Ca,ma,Sb];constructor
  ·rintro⟨t,rfl⟩
   grind
  ·grind
 unfold strings_HasPrefix stringslite_HasPrefix;simp_all
theorem AY(l m:Str):strings_TrimPrefix (l,m)=some (bif m.isPrefixOf l then l.drop m.length else l):=by
 have h:stringslite_HasPrefix (l,m)=some (m.isPrefixOf l):=by
  have:=Fz l m;unfold strings_HasPrefix at this;cases hh:stringslite_HasPrefix (l,m)with
  |none=>grind
  |some b=>grind
 unfold strings_TrimPrefix stringslite_TrimPrefix;simp only[h,zb,Aa];cases hp:m.isPrefixOf l with
 |false=>rfl
 |true=> have hl:=(List.isPrefixOf_iff_prefix.1 hp).length_le;simp_all
theorem CW{a b:Str}(c:a.length<=big)(h2:b.length<=big):ZW (a,b)=some (lowS a==lowS b):=by unfold ZW;simp only[ay c,ay h2,zb,Aa]
theorem RU{a b:Str}(c:a.length<=big)(h2:b.length<=big):Qv (a,b)=some (lowS a==lowS b):=by unfold Qv;simp only[bD c,bD h2,zb,Aa]
def Fj(n:Nat):Bool:=
 !(n==0||n==9||n==10||n==12||n==13||n==32||n==34||n==39||n==40||n==41||n==44||n==58||n==59||n==91||n==93||n==95||n==123||n==125)&&
  (decide (n<128)&& !((decide (48<=n)&&decide (n<=57))||(decide (65<=n)&&decide (n<=90))||(decide (97<=n)&&decide (n<=122))))
set_option maxRecDepth 100000 in
theorem zBe: ∀n:Nat,n<256->KF 40 (n:Int)=some (Fj n):=by decide+kernel
def xw:Prop:= ∀b:UInt8,Qx (b.toNat:Int)=some (Fj b.toNat)
theorem R3:xw:=fun b=>
 yZ 40 _ _ (zBe _ (Ee b))
def digN(n:Nat):Bool:=decide (48<=n)&&decide (n<=57)
theorem uW: ∀n:Nat,n<256->zZ (n:Int)=some (digN n):=by decide+kernel
theorem PK(b:UInt8):zZ (b.toNat:Int)=some (digN b.toNat):=(uW _ (Ee b))
theorem NY: ∀n:Nat,n<256->qh (n:Int)=some (digN n):=by decide+kernel
theorem eZ(b:UInt8):qh (b.toNat:Int)=some (digN b.toNat):=(NY _ (Ee b))
def namN(n:Nat):Bool:=digN n||(decide (65<=n)&&decide (n<=90))||(decide (97<=n)&&decide (n<=122))||n==95||n==45||decide (128<=n)
theorem KY: ∀n:Nat,n<256->lh (n:Int)=some (namN n):=by decide+kernel
theorem dZ(b:UInt8):lh (b.toNat:Int)=some (namN b.toNat):=(KY _ (Ee b))
def Gi:Str->Bool
 |[]=>false
 |b::r=>digN b.toNat||(b==45&&(r==[]||digN (r.headD 0).toNat))
theorem zA0(b c:UInt8):((b.toNat:Int)==(c.toNat:Int))=(b==c):=by
 by_cases h:b=c
 ·subst h;simp
 ·have a:b.toNat≠c.toNat:=fun e=>h (UInt8.toNat_inj.1 e)
  grind
theorem zAZ(b:UInt8):((b.toNat:Int)==45)=(b==45):=zA0 b 45
theorem lY(l:Str):Xt l=some (Gi l):=by
 unfold Xt;cases l with
 |nil=>rfl
 |cons b r=>
  have f:geti (b::r) 0=some b:=rfl;have g:(b::r==([]:Str))=false:=rfl;simp only[g,Da,f,zb,Aa,PK,Zb,zAZ];cases r with
  |nil=>
   have e:(([b]:Str)==[45])=(b==45):=by show((b==45)&&true)=_;rw[Vb]
   simp only[e];unfold Gi;cases c:(b==45)with
   |false=>cases h:digN b.toNat<;>simp[c,zo,h]
   |true=>simp_all
  |cons d r=>
   have a:geti (b::d::r) 1=some d:=rfl;have e:((b::d::r:Str)==[45])=false:=by show((b==45)&&false)=_;rw[Tc]
   simp only[a,e,Zb,Aa,PK,Gi,List.headD_cons]
   grind
def numS:Str->Bool
 |[]=>false
 |b::r=>bif b==45 then !(r==[])&&digN (r.headD 0).toNat else digN b.toNat
theorem Y6(l:Str):aj l=some (numS l):=by
 unfold aj;simp only[AY,zb,Aa];have a: ∀m:Str,((zo (!(m==[])) (geti m 0) 0).bind fun c=>(zo (!(m==[])) (qh (c.toNat:Int)) (default:Bool)).bind fun d=>some (bif !(m==[])then d else false))=some (!(m==[])&&digN (m.headD 0).toNat):=by
  intro m;cases m with
  |nil=>rfl
  |cons b r=> have f:geti (b::r) 0=some b:=rfl;have g:(b::r==([]:Str))=false:=rfl;simp only[g,Ua,zU,f,Aa,eZ,Ea,List.headD_cons,aa]
 rw[a];cases l with
 |nil=>rfl
 |cons b r=>
  have e:List.isPrefixOf [45] (b::r)=(b==45):=by
   show((45==b)&&true)=_;rw[Vb];cases h:(b==45)with
   |true=>grind
   |false=>grind
  rw[e];show _=some (bif b==45 then !(r==[])&&digN (r.headD 0).toNat else digN b.toNat)
  grind
theorem zAc(l:Str):((numS l&& !(List.isPrefixOf [45,45] l))||l==[45])=Gi l:=by
 cases l with
 |nil=>rfl
 |cons b r=>
  cases a:(b==45)with
  |false=>
   have e:List.isPrefixOf [45,45] (b::r)=false:=by show((45==b)&&_)=_;rw[Ja]at a;rw[Ja.2 (Ne.symm a)];rfl
   have c:((b::r:Str)==[45])=false:=by show((b==45)&&_)=_;rw[a];rfl
   rw[e,c];unfold numS Gi;simp[a]
  |true=>
   rw[Sb]at a;subst a;cases r with
   |nil=>rfl
   |cons d r=>
    have c:((45::d::r:Str)==[45])=false:=rfl;rw[c];unfold numS Gi;have e:List.isPrefixOf [45,45] (45::d::r)=(45==d):=by show((45==(45:UInt8))&&((45==d)&&true))=_;rw[Vb];rfl
    rw[e];simp only[List.headD_cons];have f:digN 45=false:=by decide
    cases h:(45==d)with
    |false=>simp[f]
    |true=>rw[Sb]at h;subst h;rfl
def delS(l:Str):Bool:=match l with
 |[b]=>Fj b.toNat
 |_=>false
def rngS(x:zf):Bool:=decide (-1000000000000<=x.num)&&(decide (x.num<=1000000000000)&&(!x.flag||Int.tmod x.num 1000==0))
def yj(x:zf):Bool:=
 bif x.kind==1||x.kind==2||x.kind==3 then !(x.text==[])&&(Re x.text&&(x.num==0&&(x.unit==[]&& !x.flag)))
 else bif x.kind==4 then !(x.text==[])&&(Re x.text&&((x.flag||Gi x.text)&&(x.num==0&&x.unit==[])))
 else bif x.kind==5||x.kind==7 then Re x.text&&(x.num==0&&(x.unit==[]&& !x.flag))
 else bif x.kind==9 then delS x.text&&(x.num==0&&(x.unit==[]&& !x.flag))
 else bif x.kind==10||x.kind==11||x.kind==12 then rngS x&&((!(x.unit==[])==(x.kind==12))&&(Re x.unit&&((!(x.kind==11)|| !x.flag)&&x.text==[])))
 else(decide (13<=x.kind)&&decide (x.kind<=24))&&(x.text==[]&&(x.num==0&&(x.unit==[]&& !x.flag)))
theorem tO{l:Str}(h:l.length<=big):Uj l=some (Re l):=by
 unfold Uj;refine(Sl l (fun b=>bif (!(b==0))then none else some false) () (fun i a=> ?_) ?_).trans ?_
 ·simp only[Zw a,Ea,ZF a,zb,Aa,byte_zero,Zh a h]
  grind
 ·grind
 ·rw[Oo];show _=some (Re l);unfold Re
  grind
theorem one_byte(l:Str)(p:Nat->Bool)(d:Bool)(f:Int->Option Bool)(hf: ∀b:UInt8,f (b.toNat:Int)=some (p b.toNat))(g:Bool):
  ((zo (g&&(l.length:Int)==1) (geti l 0) (0:UInt8)).bind fun y=>zo (g&&(l.length:Int)==1) (f (y.toNat:Int)) d)=some (bif g&&(l.length:Int)==1 then(match l with|[b]=>p b.toNat|_=>false)else d):=by
 cases g with
 |false=>rfl
 |true=>
  cases l with
  |nil=>rfl
  |cons b r=>
   cases r with
   |nil=> show((geti [b] 0).bind fun y=>f (y.toNat:Int))=some (p b.toNat);rw[show geti [b] 0=some b from rfl];exact hf b
   |cons c r=> have:(((b::c::r).length:Int)==1)=false:=Ja.2 (by grind);rw[this];rfl
theorem kV(a:xw)(l:Str)(g:Bool):((zo (g&&(l.length:Int)==1) (geti l 0) (0:UInt8)).bind fun y=>zo (g&&(l.length:Int)==1) (Qx (y.toNat:Int)) (default:Bool))=some (bif g&&(l.length:Int)==1 then delS l else default):=
 one_byte l Fj default Qx a g
theorem gT(l:Str):(((l.length:Int)==1)&&delS l)=delS l:=by
 cases l with
 |nil=>rfl
 |cons b r=>
  cases r with
  |nil=>rfl
  |cons c r=> have:(((b::c::r).length:Int)==1)=false:=Ja.2 (by grind);rw[this];rfl
theorem kY(C:xw){x:zf}(v:x.text.length<=big)(h2:x.unit.length<=big):Wt x=some (yj x):=by
 have n:=kV C x.text true;simp only[aa]at n;have q:((zo ((x.text.length:Int)==1) (geti x.text 0) (0:UInt8)).bind fun o=>(zo ((x.text.length:Int)==1) (Qx (o.toNat:Int)) (default:Bool)).bind fun D=>some (bif bif (x.text.length:Int)==1 then D else false then x.kind==x.kind&&(([]:Str)==[]&&(x.num==0&&(x.unit==[]&&(x.flag==false&&true))))else false))=some (delS x.text&&(x.num==0&&(x.unit==[]&& !x.flag))):=by
  have e: ∀(k:Bool->Option Bool),((zo ((x.text.length:Int)==1) (geti x.text 0) (0:UInt8)).bind fun o=>(zo ((x.text.length:Int)==1) (Qx (o.toNat:Int)) (default:Bool)).bind k)=(((zo ((x.text.length:Int)==1) (geti x.text 0) (0:UInt8)).bind fun y=>zo ((x.text.length:Int)==1) (Qx (y.toNat:Int)) (default:Bool))).bind k:=by intro k;rw[Option.bind_assoc]
  rw[e,n,Aa,<-gT x.text];simp only[De];cases (x.text.length:Int)==1<;>cases delS x.text<;>cases x.flag<;>rfl
 unfold Wt;simp only[zb,tO v,tO h2,lY,Zb,Aa,ge_iff_le];unfold yj rngS;by_cases B:x.kind=9
 ·simp_all
 clear n q;have E:=Ja.2 B;generalize delS x.text=J;generalize Re x.text=p;generalize Re x.unit=M;generalize Gi x.text=H;generalize c:(x.text==[])=i;generalize d:(x.unit==[])=j;generalize a:(x.num==0)=m;generalize b:x.flag=l;generalize decide (-1000000000000<=x.num)=N;generalize decide (x.num<=1000000000000)=L;generalize (Int.tmod x.num 1000==0)=z;by_cases r:x.kind=1
 ·simp only[r,zS,Ea,Da,c,d,a,b,Int.reduceBEq];cases p<;>cases i<;>cases j<;>cases m<;>cases l<;>rfl
 by_cases s:x.kind=2
 ·simp only[s,zS,Ea,Da,c,d,a,b,Int.reduceBEq];cases p<;>cases i<;>cases j<;>cases m<;>cases l<;>rfl
 by_cases t:x.kind=3
 ·simp only[t,zS,Ea,Da,c,d,a,b,Int.reduceBEq];cases p<;>cases i<;>cases j<;>cases m<;>cases l<;>rfl
 by_cases u:x.kind=4
 ·simp only[u,zS,Ea,Da,c,d,a,b,Int.reduceBEq]
  grind
 by_cases G:x.kind=5
 ·simp_all
 by_cases F:x.kind=7
 ·simp_all
 by_cases g:x.kind=10
 ·simp only[g,zS,Ea,Da,c,d,a,b,Int.reduceBEq]
  grind
 by_cases h:x.kind=11
 ·simp only[h,zS,Ea,Da,c,d,a,b,Int.reduceBEq]
  grind
 by_cases f:x.kind=12
 ·simp only[f,zS,Ea,Da,c,d,a,b,Int.reduceBEq]
  grind
 simp only[E,Ja.2 r,Ja.2 s,Ja.2 t,Ja.2 u,Ja.2 G,Ja.2 F,Ja.2 g,Ja.2 h,Ja.2 f,zS,Ea,Da,c,d,a,b,De,Bool.or_self];by_cases w:x.kind=6
 ·simp_all
 by_cases A:x.kind=8
 ·simp_all
 simp only[Ja.2 w,Ja.2 A,zS,Ea,Da];have e:(decide (1<=x.kind)&&decide (x.kind<=24))=(decide (13<=x.kind)&&decide (x.kind<=24)):=by
  by_cases K:13<=x.kind
  ·grind
  ·grind
 rw[<-e];cases decide (1<=x.kind)<;>cases decide (x.kind<=24)<;>cases i<;>cases j<;>cases m<;>cases l<;>rfl
abbrev lq:Str:=[32,9,10,12,13,34,39,58,59,44,91,93,40,41,123,125]
theorem dL: ∀(m:Str) (c:UInt8),Lib.index m [c]=Lib.indexByte m c
 |[],c=>rfl
 |b::l,c=>by
  have h:List.isPrefixOf [c] (b::l)=(b==c):=by
   show(c==b&&List.isPrefixOf [] l)=_;rw[List.isPrefixOf,Vb];by_cases e:b=c
   ·subst e;rfl
   ·grind
  rw[Lib.index,Lib.indexByte,h,dL l c]
theorem contains_one(m:Str)(c:UInt8)(a:short m=true:=by decide):strings_Contains (m,[c])=some (m.any fun b=>b==c):=by unfold strings_Contains;simp only[Dj,a,Qs,zb,Aa,dL,uB]
theorem M6(c:UInt8):strings_Contains ([32,9,10,12,13,34,39,58,59,44,91,93,40,41,123,125],[c])=some (lq.any fun b=>b==c):=contains_one lq c
theorem lV: ∀n:Nat,n<256->((bif bif !(UInt8.ofNat n==0)then !namN n else false then true else UInt8.ofNat n==45)&&(!(lq.any fun b=>b==UInt8.ofNat n)))=Fj n:=by decide+kernel
theorem fT(b:UInt8):((bif bif !(b==0)then !namN b.toNat else false then true else b==45)&&(!(lq.any fun c=>c==b)))=Fj b.toNat:=by have:=lV b.toNat (Ee b);simp_all
theorem VX(a b:Str):Re (a++b)=(Re a&&Re b):=by unfold Re;grind
theorem PI(n:Int):decide (n<0)= !decide (n>=0):=by
 grind
theorem zCx(g d:Bool)(b c:UInt8):(bif g then namN (bif g then b else c).toNat else d)=bif g then namN b.toNat else d:=by cases g<;>rfl
theorem LY{x:zf}(h1:x.text.length<=big)(h2:x.unit.length<=big):Uo x=some (yj x):=by
 unfold Uo;rw[iw (JK.2 (by grind))];simp only[zb,BF,Aa];have hn:decide (Lib.indexByte (x.text++x.unit) (0:Int).toNat.toUInt8<0)=(Re x.text&&Re x.unit):=by rw[PI,jB,VX,df]
 simp only[hn,Y6,Fz,Zb,Aa,ge_iff_le,bne];have hb:=zAc x.text;unfold yj rngS;by_cases k9:x.kind=9
 ·simp only[k9,Int.reduceBEq,Ea,Da,zS,Ud,Ld];cases ht:x.text with
  |nil=>
   have:Re ([]:Str)=true:=rfl;simp only[this,aa];cases Re x.unit<;>rfl
  |cons b r=>
   cases r with
   |nil=>
    have hd:=fT b;have e1:((([b]:Str).length:Int)==1)=true:=rfl;have e2:geti [b] 0=some b:=rfl;have e3:(([b]:Str)==[45])=(b==45):=by show((b==45)&&true)=_;rw[Vb]
    have e4:Re [b]= !(b==0):=by show((!(b==0))&&true)=_;rw[Vb]
    have e5:delS [b]=Fj b.toNat:=rfl;simp only[e1,e2,e3,e4,e5,M6,dZ,Zb,Aa,zCx,<-hd];cases hu:x.unit with
    |nil=>
     have:Re ([]:Str)=true:=rfl;simp only[this,Vb];generalize (lq.any fun c=>c==b)=a1;cases namN b.toNat<;>cases (b==0)<;>cases (b==45)<;>cases a1<;>cases (x.num==0)<;>cases x.flag<;>rfl
    |cons c s=> simp_all
   |cons c r=>
    have e1:(((b::c::r:Str).length:Int)==1)=false:=Ja.2 (by grind);have e3:((b::c::r:Str)==[45])=false:=by show((b==45)&&false)=_;rw[Tc]
    have e5:delS (b::c::r)=false:=rfl;simp only[e1,e3,e5];simp_all
 have b9:=Ja.2 k9;have hu:(x.unit==[])=true->Re x.unit=true:=fun h=>by rw[Sb]at h;rw[h];rfl
 have htx:(x.text==[])=true->Re x.text=true:=fun h=>by rw[Sb]at h;rw[h];rfl
 rw[<-hb];generalize hl45:(x.text==[45])=a11 at*;generalize (List.isPrefixOf [45,45] x.text)=a12 at*;generalize numS x.text=a3 at*;generalize Re x.text=a1 at*;generalize Re x.unit=a2 at*;generalize (x.text==[])=a4 at*;generalize (x.unit==[])=a5 at*;generalize (x.num==0)=a6 at*;generalize x.flag=a7 at*;generalize decide (-1000000000000<=x.num)=a8 at*;generalize decide (x.num<=1000000000000)=a9 at*;generalize (Int.tmod x.num 1000==0)=a10 at*;clear hb hn hl45;have K: ∀k:Int,k∈[1,2,3,4,5,7,10,11,12]->x.kind=k->True:=fun _ _ _=>trivial;clear K;by_cases k1:x.kind=1
 ·simp only[k1,zS,Ea,Da,Int.reduceBEq]
  grind
 by_cases k2:x.kind=2
 ·simp only[k2,zS,Ea,Da,Int.reduceBEq]
  grind
 by_cases k3:x.kind=3
 ·simp only[k3,zS,Ea,Da,Int.reduceBEq]
  grind
 by_cases k4:x.kind=4
 ·simp only[k4,zS,Ea,Da,Int.reduceBEq]
  grind
 by_cases k5:x.kind=5
 ·simp only[k5,zS,Ea,Da,Int.reduceBEq]
  grind
 by_cases k7:x.kind=7
 ·simp only[k7,zS,Ea,Da,Int.reduceBEq]
  grind
 by_cases k10:x.kind=10
 ·simp only[k10,zS,Ea,Da,Int.reduceBEq]
  grind
 by_cases k11:x.kind=11
 ·simp only[k11,zS,Ea,Da,Int.reduceBEq]
  grind
 by_cases k12:x.kind=12
 ·simp only[k12,zS,Ea,Da,Int.reduceBEq]
  grind
 simp only[b9,Ja.2 k1,Ja.2 k2,Ja.2 k3,Ja.2 k4,Ja.2 k5,Ja.2 k7,Ja.2 k10,Ja.2 k11,Ja.2 k12,zS,Ea,Da,Bool.or_self];cases decide (13<=x.kind)<;>cases decide (x.kind<=24)<;>cases a4<;>cases a5<;>cases a6<;>cases a7<;>rfl
theorem pE {R:Type} {step:Int->Option (LO Int Unit R)} {k:Unit->Option R} (n:Nat) (p:Nat->Bool) (r:R)
  (c: ∀(i:Nat),i<n->step (i:Int)=some (bif p i then .again ((i+1:Nat):Int)else .ret r)) (a:step (n:Int)=some (.out ())):
  zY step 0 k=bif (List.range n).all p then k ()else some r:=by
 have e:=Sl (k:=k) (List.range n) (fun i=>bif p i then none else some r) () (fun i b=> ?_) (by simpa using a)
 ·rw[e,Oo]
  grind
 grind
def Ck:List zf->Bool
 |[]=>false
 |s::r=>bif s.kind==13 then(match r with|u::_=>u.kind==5|[]=>false)else s.kind==5
def Gw:List zf->Bool
 |[]=>false
 |s::_=>s.kind==13
def Jm(t:zf):Bool:=t.kind==2&&lowS t.text==[117,114,108]
def okAt:List zf->Bool
 |[]=>true
 |t::r=>(!(t.kind==9&&t.text==[92])||Gw r)&&(!(Jm t)||Ck r)
def Uq(l:List zf)(i:Nat):Bool:=yj (l.getD i default)&&okAt (l.drop i)
def gluS(l:List zf):Int:=bif decide (l.length<=1500)then(bif (List.range l.length).all (Uq l)then 0 else 8)else 4
theorem JC(l:List zf)(i:Nat)(k:Int):qm (((i:Int),k),l)=some (match l[i]? with|some t=>t.kind==k|none=>false):=by
 unfold qm;by_cases h:i<l.length
 ·simp only[Zw h,zU,ZF h,zb,Aa,Ea,Ka h]
 ·have e:decide ((i:Int)<(l.length:Int))=false:=Eb (by omega);simp only[e,Zi,zb,Aa,Da,List.getElem?_eq_none (Nat.le_of_not_lt h)]
theorem nI:lowS [117,114,108]=[117,114,108]:=by decide
theorem cZ{t:zf}{r:List zf}(h:t.text.length<=big): ∃n:Int,bi (t::r)=some n/\(n==0)= !okAt (t::r):=by
 have e0:geti (t::r) 0=some t:=rfl;have p1:=JC (t::r) 1 13;have p15:=JC (t::r) 1 5;have p25:=JC (t::r) 2 5;unfold bi;simp only[e0,zb,Aa,CW h (show([117,114,108]:Str).length<=big by decide),nI,Zb];simp only[Int.natCast_one]at p1 p15;replace p25:qm ((2,5),t::r)=_:=p25;rw[p1];unfold okAt Jm;cases hd:(t.kind==9&&t.text==[92])with
 |true=>
  have hk:t.kind=9:=by rw[Ca,Sb]at hd;exact hd.1
  have ht:(t.text==[92])=true:=by rw[Ca]at hd;exact hd.2
  simp only[hk,ht,Int.reduceBEq,Ea,Da,Aa];cases r with
  |nil=>exact⟨_,rfl,rfl⟩
  |cons s r=>
   show∃n:Int,(bif !(s.kind==13)then some 0 else some 2)=some n/\(n==0)= !((!true||s.kind==13)&&_);cases s.kind==13
   ·simp_all
   simp_all
 |false=>
  have hc:(bif t.kind==9 then t.text==[92]else false)=false:=by
   cases h9:t.kind==9
   ·rfl
   ·grind
  simp only[hc,hd,Da,Ua,Yd,aa];cases hu:(t.kind==2&&lowS t.text==[117,114,108])with
  |false=>
   have:(bif t.kind==2 then bif t.kind==2 then lowS t.text==[117,114,108]else default else false)=false:=by
    cases h2:t.kind==2
    ·rfl
    ·grind
   rw[this]
   grind
  |true=>
   rw[Ca]at hu;rw[hu.1,hu.2];simp only[Ea,Aa];cases r with
   |nil=>exact⟨0,by simp[p15],rfl⟩
   |cons s r=>
    cases hs:s.kind==13 with
    |false=>
     have e1:(match(t::s::r)[1]? with|some t=>t.kind==13|none=>false)=false:=hs;have e5:qm ((1,5),t::s::r)=some (s.kind==5):=p15;simp only[e1,Da,zS,e5,Aa,Ck,hs];cases s.kind==5
     ·grind
     ·exact⟨2,by rfl,rfl⟩
    |true=>
     have e1:(match(t::s::r)[1]? with|some t=>t.kind==13|none=>false)=true:=hs;simp only[e1,Ea,zS,p25,Aa,Ck,hs];cases r with
     |nil=>grind
     |cons u r=>
      show∃n:Int,(bif !(u.kind==5)then some 0 else some (w64 (2+1)))=some n/\(n==0)= !(!true||u.kind==5);cases u.kind==5
      ·grind
      ·exact⟨3,rfl,rfl⟩
theorem GL(l:List zf):decide ((l.length:Int)>1500)= !decide (l.length<=1500):=Aw _ 1500
theorem fZ{l:List zf}(h: ∀t∈l,t.text.length<=big/\t.unit.length<=big):QJ l=some (gluS l):=by
 unfold QJ gluS;rw[GL];cases e:decide (l.length<=1500)with
 |false=>rfl
 |true=>
  have e:=Db e;simp only[ja,Da,Ea];refine(pE l.length (Uq l) 8 (fun i a=> ?_) ?_).trans ?_
  ·obtain⟨d,j⟩:=h _ (Fb a);have b:l.getD i default=l[i]:=by simp[a]
   have c:=Xa a;obtain⟨n,f,k⟩:=cZ (t:=l[i]) (r:=l.drop (i+1)) d;rw[<-c]at f k;have g:decide ((i:Int)<=(l.length:Int))=true:=Ta (by omega);unfold Uq;simp only[Zw a,Ea,ZF a,zb,Aa,LY d j,jA,g,aa,Yd,Qs,Ec,f,Zb,Zh a (show l.length<=big by unfold big;omega),b]
   grind
  ·grind
  grind
theorem eD{α:Type}{l:List α}{i:Nat}{s:α}{r:List α}(h:l.drop i=s::r):i<l.length/\geti l (i:Int)=some s/\l.drop (i+1)=r:=by
 have a:i<l.length:=by
  rcases Fe i l.length with b|b
  ·exact b
  ·rw[List.drop_eq_nil_of_le b]at h;cases h
 rw[Xa a]at h;injection h with d c;exact⟨a,by rw[ZF a,d],c⟩
theorem nD{α:Type}{l:List α}{i:Nat}(h:l.drop i=[])(hi:i<=l.length):i=l.length:=by have:=Rc.1 h;omega
theorem VB(n m:Int):decide (n>=m)= !decide (n<m):=by
 grind
theorem zAs{l:List zf}{i:Nat}(hi:i<l.length)(v:l.length<=1500):
  zF (X:=Int) (R:=LX Unit (LO Int Unit Int)) (zb (zo (decide (((i+1:Nat):Int)<(l.length:Int))) (geti l ((i+1:Nat):Int)) (default:zf)) fun m=>bif bif decide (((i+1:Nat):Int)<(l.length:Int))then m.kind==13 else false then some (LX.out (w64 (((i+1:Nat):Int)+1)))else some (LX.out ((i+1:Nat):Int)))
   (fun a=>zb (zo (!(decide (a>=(l.length:Int)))) (geti l a) (default:zf)) fun h=>bif bif decide (a>=(l.length:Int))then true else h.kind != 5 then some (LX.ret (LO.ret 8))else some (LX.out ()))=bif Ck (l.drop (i+1))then some (LX.out ())else some (LX.ret (LO.ret 8)):=by
 cases f:l.drop (i+1)with
 |nil=> have k:=nD f (by omega);have o:decide (((i+1:Nat):Int)<(l.length:Int))=false:=Eb (by omega);have b:decide (((i+1:Nat):Int)>=(l.length:Int))=true:=Ta (by omega);simp only[o,b,Zi,zb,Aa,Da,Ea,zS,ja,Ck]
 |cons s r=>
  obtain⟨c,e,d⟩:=eD f;have b:decide (((i+1:Nat):Int)>=(l.length:Int))=false:=Eb (by omega);have n:w64 (((i+1:Nat):Int)+1)=((i+1+1:Nat):Int):=Zh c (by unfold big;omega);simp only[Zw c,zU,e,zb,Aa,Ea,n,Ck];cases p:s.kind==13 with
  |false=>
   simp only[Da,zS,b,Ua,zU,e,Aa,bne]
   grind
  |true=>
   simp only[Ea,zS];cases r with
   |nil=> have k:=nD d (by omega);simp_all
   |cons u r=>
    obtain⟨t,j,q⟩:=eD d;have g:decide (((i+1+1:Nat):Int)>=(l.length:Int))=false:=Eb (by omega);simp only[g,Ua,zU,j,Aa,Da,bne]
    grind
theorem eT{l:List zf}{i:Nat}(hi:i<l.length)(d:Bool)(A B:Option (LO Int Unit Int)):
  (zb (zo (!(((i+1:Nat):Int)==(l.length:Int))&&d) (geti l ((i+1:Nat):Int)) (default:zf)) fun a=>bif bif d then bif ((i+1:Nat):Int)==(l.length:Int)then true else a.kind != 13 else false then A else B)=bif !d||Gw (l.drop (i+1))then B else A:=by
 cases d with
 |false=>simp_all
 |true=>
  cases c:l.drop (i+1)with
  |nil=> have h:=nD c (by omega);have b:(((i+1:Nat):Int)==(l.length:Int))=true:=Sb.2 (by omega);simp only[b,ja,Jc,Zi,zb,Aa,Ea,Gw,Bool.or_self,Da]
  |cons s r=>
   obtain⟨f,e,g⟩:=eD c;have b:(((i+1:Nat):Int)==(l.length:Int))=false:=Ja.2 (by omega);simp only[b,Ua,aa,zU,e,zb,Aa,Ea,Gw,Da,ja,Ld,bne]
   grind
theorem zAV(b:Bool)(t u:zf)(p:zf->Bool):(bif b then p (bif b then t else u)else false)=(b&&p t):=by cases b<;>rfl
theorem U3(k:xw){l:List zf}(h: ∀t∈l,t.text.length<=big/\t.unit.length<=big):Wl l=some (gluS l):=by
 unfold Wl gluS;rw[GL];cases e:decide (l.length<=1500)with
 |false=>rfl
 |true=>
  have e:=Db e;simp only[ja,Da,Ea];refine(pE l.length (Uq l) 8 (fun i a=> ?_) ?_).trans ?_
  ·obtain⟨g,p⟩:=h _ (Fb a);have d:l.getD i default=l[i]:=by simp[a]
   have f:=Xa a;have q:w64 ((i:Int)+1)=((i+1:Nat):Int):=Zh a (by unfold big;omega);have m:w64 (((i+1:Nat):Int)+1)=((i+2:Nat):Int):=Zh (n:=i+2) (by omega) (by unfold big;omega);unfold Uq;rw[f,d];simp only[Zw a,Ea,ZF a,zb,Aa,kY k g p,q];cases s:yj l[i]with
   |false=>rfl
   |true=>
    simp only[ja,Da,Zb,Aa,aa];have j:=zAs a e;have o:=eT a (l[i].kind==9&&l[i].text==[92]) (some (LO.ret 8)) (some (LO.again ((i+1:Nat):Int)));simp only[zb]at j o;have b:(bif l[i].kind==2 then bif l[i].kind==2 then lowS (bif l[i].kind==2 then l[i]else default).text==[117,114,108]else default else false)=Jm l[i]:=by unfold Jm;cases l[i].kind==2<;>rfl
    have r:(zo (l[i].kind==2) (Qv ((bif l[i].kind==2 then l[i]else default).text,[117,114,108])) (default:Bool))=some (bif l[i].kind==2 then lowS (bif l[i].kind==2 then l[i]else default).text==[117,114,108]else default):=by
     cases u:l[i].kind==2 with
     |false=>rfl
     |true=> show Qv (l[i].text,[117,114,108])=some (lowS l[i].text==[117,114,108]);rw[RU g (by decide),nI]
    have c:(bif l[i].kind==9 then(bif l[i].kind==9 then l[i]else default).text==[92]else false)=(l[i].kind==9&&l[i].text==[92]):=zAV (l[i].kind==9) l[i] default fun t=>t.text==[92];simp only[r,Aa,b,c,j,okAt];cases Jm l[i]with
    |false=>
     simp only[Da,zS,Ua,Yd,Vb]
     grind
    |true=>
     simp only[Ea,ja,Ld];cases Ck (l.drop (i+1))with
     |false=>simp_all
     |true=>
      simp only[Ea,zS,Vb]
      grind
  ·grind
  grind
theorem V3{l:List zf}(h: ∀t∈l,t.text.length<=big/\t.unit.length<=big):Wl l=some (gluS l):=U3 R3 h
def zL{α:Type}(f:α->List PV)(l:List α):Nat:=Kk (l.map f)
theorem jv{α:Type}(f:α->List PV):zL f []=0:=rfl
theorem Rh{α:Type}(f:α->List PV)(v:α)(l:List α):zL f (v::l)=zC (f v)+zL f l:=rfl
theorem aR{α:Type}{f:α->List PV}{v:α}: ∀{l:List α},v∈l->zC (f v)<=zL f l
 |[],h=>by cases h
 |x::l,h=>by
  rw[Rh];rcases Ya.1 h with rfl|h
  ·omega
  ·have:=aR (f:=f) h;omega
theorem bA{α:Type}{f:α->List PV}(a: ∀v,1<=zC (f v)): ∀(l:List α),l.length<=zL f l
 |[]=>La _
 |v::l=>by rw[Rh,Ab];have:=bA a l;grind
theorem lS(x:ze):zC (Zd x)=6+x.token.text.length+x.token.unit.length+zL Zd x.list:=by rw[J6];simp only[zC,bPV,zL];omega
mutual
/-- How large values are. -/
def szV:ze->Nat
 |⟨t,l⟩=>1+t.text.length+t.unit.length+szL l
def szL:List ze->Nat
 |[]=>0
 |v::r=>szV v+szL r
end
theorem xg(v:ze):szV v=1+v.token.text.length+v.token.unit.length+szL v.list:=by obtain⟨t,l⟩:=v;rw[szV]
theorem Uh{v:ze}: ∀{l:List ze},v∈l->szV v<=szL l
 |[],h=>by cases h
 |x::l,h=>by
  rw[szL];rcases Ya.1 h with rfl|h
  ·omega
  ·have:=Uh h;omega
theorem Jg: ∀(l:List ze),l.length<=szL l
 |[]=>La _
 |v::r=>by rw[szL,xg,Ab];have:=Jg r;omega
theorem dw(n:Nat):decide ((n:Int)>0)=decide (0<n):=by
 grind
theorem uD(k:Int):QX k=some (Zm k):=by
 unfold QX Zm;by_cases b:k=19
 ·subst b;rfl
 by_cases d:k=21
 ·subst d;rfl
 by_cases c:k=2
 ·subst c;rfl
 by_cases a:k=23
 ·subst a;rfl
 have g:(k==19)=false:=Ja.2 b;have h:(k==21)=false:=Ja.2 d;have e:(k==2)=false:=Ja.2 c;have f:(k==23)=false:=Ja.2 a;simp only[g,h,e,f,Da,zS,b,d,c,a,if_false,or_self]
theorem XG(k:Int):qW k=some (Zm k):=by
 unfold qW Zm;by_cases b:k=19
 ·subst b;rfl
 by_cases d:k=21
 ·subst d;rfl
 by_cases c:k=2
 ·subst c;rfl
 by_cases a:k=23
 ·subst a;rfl
 have g:(k==19)=false:=Ja.2 b;have h:(k==21)=false:=Ja.2 d;have e:(k==2)=false:=Ja.2 c;have f:(k==23)=false:=Ja.2 a;simp only[g,h,e,f,Da,zS,b,d,c,a,if_false,or_self]
mutual
/-- The depth of values. -/
def Mh:ze->Nat
 |⟨t,l⟩=>if Zm t.kind=0 then 0 else 1+Xe l
def Xe:List ze->Nat
 |[]=>0
 |v::r=>max (Mh v) (Xe r)
end
theorem AJ(v:ze):Mh v=if Zm v.token.kind=0 then 0 else 1+Xe v.list:=by obtain⟨t,l⟩:=v;rw[Mh]
mutual
theorem iT: ∀v:ze,Mh v<=szV v
 |⟨t,l⟩=>by rw[Mh,szV];have:=Al l;split<;>omega
theorem Al: ∀l:List ze,Xe l<=szL l
 |[]=>La _
 |v::r=>by rw[Xe,szL];have:=iT v;have:=Al r;omega
end
theorem fK(f:ze->Nat): ∀(l:List ze) (a:Nat),l.foldl (fun a v=>max a (f v)) a=max a (l.foldr (fun v a=>max (f v) a) 0)
 |[],a=>by simp
 |v::l,a=>by rw[Mf,fK f l,List.foldr_cons];omega
theorem BJ: ∀(l:List ze),Xe l=l.foldr (fun v a=>max (Mh v) a) 0
 |[]=>by rw[Xe];rfl
 |v::l=>by rw[Xe,BJ l];rfl
theorem GD{l:List ze}(h:szL l<=big):qP l=some (Xe l:Int):=by
 refine Dh (fun l=>szL l) (fun l=>szL l<=big) (fun l=>(Xe l:Int)) (fun S l n j=> ?_) h;unfold Dz;have e:=Jg l;refine(jJ l (fun i (a:Nat)=>((a:Int),(i:Int))) (fun v a=>some (.again (max a (Mh v)))) (fun a=>some (.out (a:Int))) (a:=0) rfl (fun i a b=> ?_) (fun a=> ?_) (r:= .out (Xe l:Int)) ?_)
 ·have f:=Uh (Fb b);have k:=xg l[i];have c:=AJ l[i];have g:=Al l[i].list;simp only[Zw b,Ea,zb,ZF b,Aa,uD];by_cases d:Zm l[i].token.kind=0
  ·rw[Na d]at c;simp[d,c,Zh b (by omega)]
  ·rw[Ra d]at c;rw[j l[i].list (by omega) (by omega)];have m:w64 (1+(Xe l[i].list:Int))=((1+Xe l[i].list:Nat):Int):=by rw[w64,Zo (by omega) (by grind)];omega
   simp only[Bg.2 d,Ea,Aa,zS,Zh b (by omega),m,c,Ie]
   grind
 ·grind
 ·rw[Nl (fun a v=>max a (Mh v)) (fun v a=>rfl),fK,<-BJ];simp
theorem mr{l:List ze}: ∀{i:Nat} (h:i<l.length),szL (l.take (i+1))=szL (l.take i)+szV l[i]:=by
 induction l with
 |nil=>grind
 |cons v r a=>
  intro i h;cases i with
  |zero=>simp[szL]
  |succ i=>
   simp only[Md,szL,List.getElem_cons_succ]
   grind
theorem yt(l:List ze)(i:Nat):szL (l.take i)<=szL l:=by
 induction l generalizing i with
 |nil=>simp
 |cons v r a=>
  cases i with
  |zero=>simp[szL]
  |succ i=>simp only[Md,szL];grind
mutual
/-- The tokens of values. -/
def tokV:ze->List zf
 |⟨t,l⟩=>t::if Zm t.kind=0 then []else tokL l++[⟨Zm t.kind,[],0,[],false⟩]
def tokL:List ze->List zf
 |[]=>[]
 |v::r=>tokV v++tokL r
end
theorem Tw(v:ze):tokV v=v.token::if Zm v.token.kind=0 then []else tokL v.list++[⟨Zm v.token.kind,[],0,[],false⟩]:=by obtain⟨t,l⟩:=v;rw[tokV]
mutual
theorem Nr: ∀v:ze,(tokV v).length<=2*szV v
 |⟨t,l⟩=>by
  rw[tokV,szV];have:=Eo l
  grind
theorem Eo: ∀l:List ze,(tokL l).length<=2*szL l
 |[]=>La _
 |v::r=>by rw[tokL,szL,Ma];have:=Nr v;have:=Eo r;omega
end
theorem Ky: ∀(l:List ze) (a:List zf),l.foldl (fun a v=>a++tokV v) a=a++tokL l
 |[],a=>by simp[tokL]
 |v::l,a=>by rw[Mf,Ky l,tokL,Sd]
theorem yK{l:List ze}(h:szL l<=big):qo l=some (tokL l):=by
 refine Dh (fun l=>szL l) (fun l=>szL l<=big) (fun l=>tokL l) (fun S l j o=> ?_) h;unfold uz;have f:=Jg l;refine(nk l (fun i (a:List zf)=>((i:Int),a)) (fun v a=>some (.again (a++tokV v))) (fun a=>some (.out a)) (fun i a=>a.length<=2*szL (l.take i)) (a:=[]) rfl (by simp) (fun i a c u=> ?_) (fun a _=> ?_) (r:= .out (tokL l)) ?_)
 ·have g:=Uh (Fb c);have t:=xg l[i];have d:=Tw l[i];have k:=Eo l[i].list;have w:=mr c;have q:=yt l (i+1);have s:=Nr l[i];unfold big at j;have b: ∀n m:Nat,n+m<=100000000->zQ n m 56=true:=fun n m h=>Yh (by omega);refine⟨?_,fun x y=> ?_⟩
  ·simp only[Zw c,Ea,zb,ZF c,Aa,uD];by_cases e:Zm l[i].token.kind=0
   ·rw[Na e]at d;simp[e,d,Zh c (by unfold big;omega),b a.length 1 (by omega)]
   ·rw[Ra e]at d;rw[o l[i].list (by unfold big;omega) (by omega)];have p:(Zm l[i].token.kind != 0)=true:=Bg.2 e;simp[p,d,Zh c (by unfold big;omega),b a.length 1 (by omega),b (a.length+1) (tokL l[i].list).length (by omega),b (a.length+((tokL l[i].list).length+1)) 1 (by omega)]
  ·grind
 ·grind
 ·rw[Nl (fun a v=>a++tokV v) (fun v a=>rfl),Ky];simp
mutual
/-- Whether lists are those of blocks, and have not their closers. -/
def shV:ze->Int->Bool
 |⟨t,l⟩,c=> !((Zm t.kind==0&&decide (0<l.length))||(c != 0&&t.kind==c)||(Zm t.kind != 0&& !(shL l (Zm t.kind))))
def shL:List ze->Int->Bool
 |[],_=>true
 |v::r,c=>shV v c&&shL r c
end
theorem kR(v:ze)(c:Int):shV v c= !((Zm v.token.kind==0&&decide (0<v.list.length))||(c != 0&&v.token.kind==c)||(Zm v.token.kind != 0&& !(shL v.list (Zm v.token.kind)))):=by obtain⟨t,l⟩:=v;rw[shV]
theorem xV{l:List ze}{c:Int}(h:szL l<=big):Qi (l,c)=some (shL l c):=by
 refine Dh (fun x:List ze×Int=>szL x.1) (fun x=>szL x.1<=big) (fun x=>shL x.1 x.2) (fun S x A q=> ?_) h;obtain⟨l,c⟩:=x;simp only at A q ⊢;unfold rz;have m:=Jg l;have f: ∀l:List ze,Gg (fun v (_:Unit)=>if shV v c=true then some (.again ())else some (.ret false)) (fun _=>some (.out ())) l ()=some (if shL l c=true then .out ()else .ret false):=by
  intro l
  induction l with
  |nil=>simp[Gg,shL]
  |cons v r y=>
   by_cases n:shV v c=true
   ·simpa [Gg,shL,n] using y
   ·simp[Gg,shL,n]
 refine(jJ l (fun i (_:Unit)=>(i:Int)) (fun v (_:Unit)=>if shV v c=true then some (.again ())else some (.ret false)) (fun _=>some (.out ())) (a:=()) rfl (fun i a d=> ?_) (fun a=> ?_) (f l)).trans ?_
 ·have C:=Uh (Fb d);have w:=xg l[i];have z:=kR l[i] c;simp only[Zw d,Ea,zb,ZF d,Aa,uD];have g:szL l[i].list<=big:=by omega
  have j:szL l[i].list<szL l:=by omega
  have e: ∀b,S (l[i].list,b)=some (shL l[i].list b):=fun b=>q (l[i].list,b) g j;rw[z];have o:decide ((l[i].list.length:Int)>0)=decide (0<l[i].list.length):=dw _;have B:=Zh d (by omega);simp only[bne,o];rcases ib (Zm l[i].token.kind==0)with k|k<;>rcases ib (decide (0<l[i].list.length))with u|u<;>rcases ib (c==0)with s|s<;>rcases ib (l[i].token.kind==c)with p|p<;>rcases ib (shL l[i].list (Zm l[i].token.kind))with t|t<;>
   simp only[e,o,k,u,s,p,t,B,Ea,Da,ja,Ua,Vb,Tc,aa,Jc,jd,Ud,Yd,Ld,zU,Zi,Aa,Pg,if_false,Ie,Dg]
 ·grind
 ·cases h:shL l c<;>simp
def Ej(l:List ze)(c:Int):zA:=⟨Xe l,(tokL l).length, !(shL l c)⟩
theorem GK(c:Int): ∀(l:List ze) (a:Nat×Nat×Bool),l.foldl (fun a v=>(max a.1 (Mh v),a.2.1+(tokV v).length,a.2.2|| !(shV v c))) a=(max a.1 (Xe l),a.2.1+(tokL l).length,a.2.2|| !(shL l c))
 |[],a=>by simp[Xe,tokL,shL]
 |v::l,a=>by
  rw[Mf,GK c l,Xe,tokL,shL,Ma];simp only[Prod.mk.injEq]
  grind
theorem zA5(a b:Bool):(bif a then true else b)=(a||b):=by cases a<;>rfl
theorem TS(a b:Bool):(bif a then b else false)=(a&&b):=by cases a<;>rfl
theorem KN{l:List ze}{c:Int}(h:szL l<=big):qp (l,c)=some (Ej l c):=by
 refine Dh (fun x:List ze×Int=>szL x.1) (fun x=>szL x.1<=big) (fun x=>Ej x.1 x.2) (fun S x C E=> ?_) h;obtain⟨l,c⟩:=x;simp only at C E ⊢;unfold Gp;have B:=Jg l;refine(nk l (fun i (a:Nat×Nat×Bool)=>((i:Int),(⟨(a.1:Int),(a.2.1:Int),a.2.2⟩:zA))) (fun v a=>some (.again (max a.1 (Mh v),a.2.1+(tokV v).length,a.2.2|| !(shV v c)))) (fun a=>some (.out (⟨(a.1:Int),(a.2.1:Int),a.2.2⟩:zA))) (fun i a=>a.2.1<=2*szL (l.take i)) (a:=(0,0,false)) rfl (by simp) (fun i a j J=> ?_) (fun a _=> ?_) (r:= .out (Ej l c)) ?_)
 ·have N:=Uh (Fb j);have H:=xg l[i];have m:=AJ l[i];have O:=Al l[i].list;have o:=Tw l[i];have P:=Eo l[i].list;have e:=kR l[i] c;have K:=mr j;have G:=yt l (i+1);have Q:=Nr l[i];have w:szL l[i].list<=big:=by omega
  have y:szL l[i].list<szL l:=by omega
  have p:S (l[i].list,Zm l[i].token.kind)=some (Ej l[i].list (Zm l[i].token.kind)):=E (l[i].list,Zm l[i].token.kind) w y;obtain⟨d,n,b⟩:=a;simp only at J;have D:=Zh j (by omega);unfold big at C;have u:w64 ((n:Int)+1)=((n+1:Nat):Int):=by rw[w64,Zo (by omega) (by omega)];omega
  refine⟨?_,fun R T=> ?_⟩
  ·have L:decide ((l[i].list.length:Int)>0)=decide (0<l[i].list.length):=dw _;simp only[Zw j,Ea,zb,ZF j,Aa,XG,Ie,u,bne,L,zA5,TS];by_cases k:Zm l[i].token.kind=0
   ·rw[Na k]at m o;simp only[k,De,aa,ja,Jc,Ud,bne]at e ⊢;rw[e,m,o];rcases ib (decide (0<l[i].list.length))with F|F<;>rcases ib (c==0)with g|g<;>rcases ib (l[i].token.kind==c)with f|f<;>
     simp[F,g,f,D,Ea,Da]
   ·rw[Ra k]at m o;have s:(Zm l[i].token.kind==0)=false:=Ja.2 k;have z:w64 ((Xe l[i].list:Int)+1)=((1+Xe l[i].list:Nat):Int):=by rw[w64,Zo (by omega) (by omega)];omega
    have t:w64 (((n+1:Nat):Int)+((tokL l[i].list).length:Int))=((n+1+(tokL l[i].list).length:Nat):Int):=by rw[w64,Zo (by omega) (by omega)];omega
    have A:w64 (((n+1+(tokL l[i].list).length:Nat):Int)+1)=((n+(1+((tokL l[i].list).length+1)):Nat):Int):=by rw[w64,Zo (by omega) (by omega)];omega
    have q:(tokV l[i]).length=1+((tokL l[i].list).length+1):=by rw[o];simp;omega
    have M:(if((1+Xe l[i].list:Nat):Int)>(d:Int)then((1+Xe l[i].list:Nat):Int)else(d:Int))=((max d (1+Xe l[i].list):Nat):Int):=by split<;>omega
    rw[e,m,q];simp only[s,p,Jc,Ua,aa,Ud,Ld,Da,bne,Aa,Ej];rcases ib (c==0)with g|g<;>rcases ib (l[i].token.kind==c)with f|f<;>
     simp only[g,f,D,z,t,A,M,Ea,Da,zS,ja,Ua,aa,Vb,Tc,Jc,jd,Ud,Yd,Ld,df]
  grind
 ·grind
 ·rw[Nl (fun a v=>(max a.1 (Mh v),a.2.1+(tokV v).length,a.2.2|| !(shV v c))) (fun v a=>rfl),GK];simp[Ej]
theorem WC{a b:List ze}(h:a.Sublist b):szL a<=szL b:=by
 induction h with
 |slnil=>grind
 |cons v _ c=>rw[szL];omega
 |cons_cons v _ c=>rw[szL,szL];omega
theorem iE(l:List ze):l=[]\/ ∃t v,l=t++[v]:=by
 rcases List.eq_nil_or_concat l with h|⟨t,v,h⟩
 ·exact .inl h
 grind
def isSp(v:ze):Bool:=v.token.kind==13
def trimB(l:List ze):List ze:=(l.reverse.dropWhile isSp).reverse
theorem XU:trimB []=[]:=rfl
theorem Vt(t:List ze)(v:ze):trimB (t++[v])=if isSp v then trimB t else t++[v]:=by
 unfold trimB;rw[List.reverse_append];simp only[List.reverse_cons,List.reverse_nil,Uc,Dc,Ad]
 grind
theorem Jy(l:List ze):(trimB l).Sublist l:=by
 unfold trimB
 grind
def trimS(l:List ze):List ze:=trimB (l.dropWhile isSp)
theorem Gx(p:ze->Bool): ∀(l:List ze),l.drop (l.length - (l.dropWhile p).length)=l.dropWhile p
 |[]=>rfl
 |v::r=>by
  rw[Ad];split
  ·have h:=List.Sublist.length_le (He p (l:=r));rw[Ab,Nat.succ_sub h,List.drop_succ_cons];exact Gx p r
  ·simp
theorem sW{l:List ze}(h:szL l<=big):yu l=some (trimS l):=by
 unfold yu;refine(kg (r:= .out (l.dropWhile isSp)) (Rs (fun s=>s.dropWhile isSp=l.dropWhile isSp) (fun s=>s.length) _ (fun s c=> ?_) rfl)).trans ?_
 ·cases s with
  |nil=>simp_all
  |cons v t=>
   have e:decide (((v::t).length:Int)>0)=true:=by rw[dw];simp
   have f:geti (v::t) 0=some v:=rfl;have n:decide ((1:Int)<=((v::t).length:Int))=true:=by simp;omega
   rw[Ad]at c;cases b:isSp v with
   |true=> rw[b]at c;unfold isSp at b;simp_all
   |false=> rw[b]at c;unfold isSp at b;refine .inr (.inl ⟨v::t,?_,by rw[<-c];rfl⟩);simp only[e,f,zU,zb,Aa,b,Ea,Da]
 ·rw[zsZ];have i:szL (l.dropWhile isSp)<=big:=Lb (WC (He _)) h;unfold trimS;generalize l.dropWhile isSp=d at i;refine(kg (r:= .out (trimB d)) (Rs (fun s=>trimB s=trimB d/\szL s<=big) (fun s=>s.length) _ (fun s c=> ?_) ⟨rfl,i⟩)).trans ?_
  ·rcases iE s with rfl|⟨t,v,rfl⟩
   ·exact .inr (.inl ⟨[],by simp,by rw[<-c.1];rfl⟩)
   ·have g:=Jg (t++[v]);have k:(t++[v]).length=t.length+1:=by simp
    have m:=c.2;unfold big at m;have e:decide (((t++[v]).length:Int)>0)=true:=by rw[dw];simp
    have j:w64 (((t++[v]).length:Int) - 1)=(t.length:Int):=by rw[w64,Zo (by omega) (by omega)];omega
    have f:geti (t++[v]) (t.length:Int)=some v:=by rw[ZF (by omega)];simp
    have n:(decide ((0:Int)<=(t.length:Int))&&decide ((t.length:Int)<=((t++[v]).length:Int)))=true:=by simp;omega
    have a:=c.1;rw[Vt]at a;cases b:isSp v with
    |true=> rw[Na b]at a;unfold isSp at b;refine .inl ⟨t,?_,⟨a,Lb (WC (List.sublist_append_left t [v])) c.2⟩,by simp⟩;simp_all
    |false=> rw[Ra (by rw[b];simp)]at a;unfold isSp at b;refine .inr (.inl ⟨t++[v],?_,by rw[<-a]⟩);simp only[e,j,f,zU,zb,Aa,b,Ea,Da]
  ·rw[zsZ]
def errS(l:List ze):Int:=if 16<Xe l then 20 else if 1500<(tokL l).length then 4 else if shL l 0 then 0 else 8
theorem PU{l:List ze}(h:szL l<=big):Eu l=some (errS l):=by
 unfold Eu errS;simp only[zb,GD h,yK h,xV h,Aa]
 grind
theorem wD{l:List ze}(h:szL l<=big):ZG l=some (errS l):=by
 unfold ZG errS;simp only[zb,KN h,Aa,Ej]
 grind
theorem KW{l:List ze}(h:szL l<=big):Rl l=some (if errS l=0 then((Xe l:Int),0)else(0,errS l)):=by
 unfold Rl;simp only[zb,wD h,KN h,Aa,Ej]
 grind
theorem Ow: ∀l:List ze,szL l<=zL Zd l:=by
 have a: ∀(n:Nat) (l:List ze),zL Zd l<n->szL l<=zL Zd l:=by
  intro n
  induction n with
  |zero=>intro l h;omega
  |succ n d=>
   intro l
   induction l with
   |nil=>intro _;rw[szL];grind
   |cons v l b=>
    intro h;rw[Rh]at h ⊢;rw[szL,xg];have c:=lS v
    grind
 grind
theorem XT{l:List ze}{a:List zf}(h:szL l<=big)(e:a.length+2*szL l<=4*big):ZL (l,a)=some (a++tokL l):=by
 refine Dh (fun z=>szL z.1) (fun z=>szL z.1<=big/\z.2.length+2*szL z.1<=4*big) (fun z=>z.2++tokL z.1) (fun S z q s=> ?_) (x:=(l,a)) ⟨h,e⟩;obtain⟨l,a⟩:=z;obtain⟨h,e⟩:=q;have h:szL l<=big:=h;have e:a.length+2*szL l<=4*big:=e;have j:=Jg l;unfold Cq;refine(nk l (fun i (b:List zf)=>((i:Int),b)) (fun v b=>some (.again (b++tokV v))) (fun b=>some (.out b)) (fun i b=>b.length<=a.length+2*szL (l.take i)) (a:=a) rfl (by simp) (fun i b d A=> ?_) (fun b _=> ?_) (r:= .out (a++tokL l)) ?_).trans rfl
 ·have o:=Uh (Fb d);have y:=xg l[i];have f:=Tw l[i];have p:=Eo l[i].list;have B:=mr d;have u:=yt l (i+1);have w:=Nr l[i];unfold big at h e;have c: ∀n m:Nat,n+m<=100000000->zQ n m 56=true:=fun n m h=>Yh (by omega);refine⟨?_,fun C k=> ?_⟩
  ·simp only[Zw d,Ea,zb,ZF d,Aa,XG];by_cases g:Zm l[i].token.kind=0
   ·rw[Na g]at f;simp[g,f,Zh d (by unfold big;omega),c b.length 1 (by omega)]
   ·rw[Ra g]at f;rw[s (l[i].list,b++[l[i].token]) ⟨by grind,by grind⟩ (by grind)];have t:(Zm l[i].token.kind != 0)=true:=Bg.2 g;simp[t,f,Zh d (by unfold big;omega),c b.length 1 (by omega),c (b.length+((tokL l[i].list).length+1)) 1 (by omega)]
  ·grind
 ·grind
 ·rw[Nl (fun a v=>a++tokV v) (fun v a=>rfl),Ky]
theorem YT{l:List ze}(h:szL l<=big):Q7 l=some (tokL l):=by
 have g:=Jg l;unfold Q7;refine(nk l (fun i (b:List zf)=>((i:Int),b)) (fun v b=>some (.again (b++tokV v))) (fun b=>some (.out b)) (fun i b=>b.length<=2*szL (l.take i)) (a:=[]) rfl (by simp) (fun i b d u=> ?_) (fun b _=> ?_) (r:= .out (tokL l)) ?_).trans rfl
 ·have k:=Uh (Fb d);have t:=xg l[i];have e:=Tw l[i];have o:=Eo l[i].list;have w:=mr d;have q:=yt l (i+1);have s:=Nr l[i];unfold big at h;have c: ∀n m:Nat,n+m<=100000000->zQ n m 56=true:=fun n m h=>Yh (by omega);refine⟨?_,fun x j=> ?_⟩
  ·simp only[Zw d,Ea,zb,ZF d,Aa,XG];by_cases f:Zm l[i].token.kind=0
   ·rw[Na f]at e;simp[f,e,Zh d (by unfold big;omega),c b.length 1 (by omega)]
   ·rw[Ra f]at e;rw[XT (a:=b++[l[i].token]) (show szL l[i].list<=big by unfold big;omega) (by grind)];have p:(Zm l[i].token.kind != 0)=true:=Bg.2 f;simp[p,e,Zh d (by unfold big;omega),c b.length 1 (by omega),c (b.length+((tokL l[i].list).length+1)) 1 (by omega)]
  ·grind
 ·grind
 ·rw[Nl (fun a v=>a++tokV v) (fun v a=>rfl),Ky];simp
theorem WX{l:List ze}(h:szL l<=big):El l=some (if errS l=0 then(tokL l,0)else([],errS l)):=by
 unfold El;simp only[wD h,zb,Aa];by_cases he:errS l=0
 ·have:(errS l != 0)=false:=by rw[he];rfl
  rw[this,Da,YT h,Na he];rfl
 grind
end Go.Lv.VT

namespace Go.Lv
theorem Le.lp{S X R:Type}{step step':S->Option (LO S X R)}{s:S}{k k':X->Option R}(h: ∀s,Le (step s) (step' s))(hk: ∀x,Le (k x) (k' x)):Le (zY step s k) (zY step' s k'):=by
 intro y hy;unfold zY at hy;cases hl:Eh step s with
 |none=>rw[hl]at hy;cases hy
 |some r=>
  rw[hl]at hy;obtain⟨n,hn⟩:=WL hl;rw[kg (Bh (DD h n s r hn))];cases r with
  |out x=>exact hk x y hy
  |ret r=>exact hy
def gq{X Y:Type}(B:(X->Option Y)->X->Option Y):Prop:= ∀S S':X->Option Y,(∀x,Le (S x) (S' x))-> ∀x,Le (B S x) (B S' x)
theorem Ux {X Y:Type} {B:(X->Option Y)->X->Option Y} (hm:gq B) (μ:X->Nat) (ok:X->Prop) (R:X->Y->Prop)
  (hB: ∀(S:X->Option Y) (x:X),ok x->(∀z,ok z->μ z<μ x-> ∃y,S z=some y/\R z y)-> ∃y,B S x=some y/\R x y) {x:X} (hx:ok x): ∃y,recE B x=some y/\R x y:=by
 have step: ∀n x,Le (Ef B n x) (Ef B (n+1) x):=by
  intro n
  induction n with
  |zero=>intro x;exact Le.none
  |succ n ih=>intro x;exact hm _ _ ih x
 have up: ∀d n x,Le (Ef B n x) (Ef B (n+d) x):=by
  intro d
  induction d with
  |zero=>intro n x;exact Le.rfl
  |succ d ih=>intro n x y hy;exact step _ x y (ih n x y hy)
 have key: ∀(m:Nat) (x:X),μ x<m->ok x-> ∃y,Ef B m x=some y/\R x y:=by
  intro m
  induction m with
  |zero=>intro x h;omega
  |succ m ih=> intro x hm hok;exact hB _ x hok fun z hz hlt=>ih z (by omega) hz
 obtain⟨y,h1,h2⟩:=key (μ x+1) x (by omega) hx;refine⟨y,DC (N:=μ x+1) fun n hn=> ?_,h2⟩;obtain⟨d,rfl⟩:=Nat.le.dest hn;exact up d _ x y h1
theorem ax {A S X R:Type} {step:S->Option (LO S X R)} {k:X->Option R} (n:Nat) (st:Nat->A->S) (Inv:Nat->A->Prop) (Q:R->Prop) {s0:S} {a0:A} (h0:s0=st 0 a0) (hI:Inv 0 a0)
  (hg: ∀(i:Nat) (a:A),i<n->Inv i a->(∃a',step (st i a)=some (.again (st (i+1) a'))/\Inv (i+1) a')\/(∃r,step (st i a)=some (.ret r)/\Q r)\/(∃x,step (st i a)=some (.out x)/\ ∃r,k x=some r/\Q r))
  (hf: ∀a,Inv n a->(∃x,step (st n a)=some (.out x)/\ ∃r,k x=some r/\Q r)\/(∃r,step (st n a)=some (.ret r)/\Q r)): ∃r,zY step s0 k=some r/\Q r:=by
 have key: ∀(m i:Nat) (a:A),i+m=n->Inv i a-> ∃j x,qD step j (st i a)=some x/\ ∃r,LX.go x k=some r/\Q r:=by
  intro m
  induction m with
  |zero=>
   intro i a hi ha;obtain rfl:i=n:=by omega
   rcases hf a ha with⟨x,h1,r,h2,h3⟩|⟨r,h1,h2⟩
   ·exact⟨1, .out x,by simp only[qD,h1],r,h2,h3⟩
   ·exact⟨1, .ret r,by simp only[qD,h1],r,rfl,h2⟩
  |succ m ih=>
   intro i a hi ha;rcases hg i a (by omega) ha with⟨a',h1,h2⟩|⟨r,h1,h2⟩|⟨x,h1,r,h2,h3⟩
   ·obtain⟨j,x,g1,g2⟩:=ih (i+1) a' (by omega) h2;exact⟨j+1,x,by simp only[qD,h1];exact g1,g2⟩
   ·exact⟨1, .ret r,by simp only[qD,h1],r,rfl,h2⟩
   ·exact⟨1, .out x,by simp only[qD,h1],r,h2,h3⟩
 obtain⟨j,x,h1,r,h2,h3⟩:=key n 0 a0 (by omega) hI;refine⟨r,?_,h3⟩;rw[h0,kg (Bh h1),h2]
namespace VT
def mx{α:Type}(f:α->Nat):List α->Nat
 |[]=>0
 |v::l=>max (f v) (mx f l)
theorem uT {α S X R:Type} {step:S->Option (LO S X R)} {k:X->Option R} (l:List α) (f:α->Nat) (st:Nat->Nat->S) (out:Nat->X) {s0:S} {a0:Nat} (h0:s0=st a0 0)
  (hg: ∀(i a:Nat) (h:i<l.length),step (st a i)=some (.again (st (max a (f l[i])) (i+1))))
  (hf: ∀a:Nat,step (st a l.length)=some (.out (out a))):zY step s0 k=k (out (max a0 (mx f l))):=by
 have key: ∀(m:List α) (i a:Nat),l.drop i=m->i<=l.length-> ∃n,qD step n (st a i)=some (.out (out (max a (mx f m)))):=by
  intro m
  induction m with
  |nil=>
   intro i a hd hi;have:i=l.length:=by have:=Rc.1 hd;omega
   subst this;exact⟨1,by simp only[qD,hf,mx];rw[Nat.max_zero]⟩
  |cons v m ih=>
   intro i a hd hi;have hlt:i<l.length:=by
    rcases Fe i l.length with h|h
    ·exact h
    ·rw[List.drop_eq_nil_of_le h]at hd;cases hd
   have hv:l[i]=v:=by have:=Xa hlt;rw[hd]at this;injection this with h1 _;exact h1.symm
   have hs:=hg i a hlt;rw[hv]at hs;obtain⟨n,hn⟩:=ih (i+1) (max a (f v)) (by rw[Xa hlt]at hd;injection hd) (by omega);refine⟨n+1,?_⟩;simp only[qD,hs];rw[hn,mx,Nat.max_assoc]
 obtain⟨n,hn⟩:=key l 0 a0 rfl (by omega);rw[h0,kg (Bh hn)];rfl
theorem Hw(a b:Nat):(if(b:Int)>(a:Int)then(b:Int)else(a:Int))=((max a b:Nat):Int):=by split<;>omega
end VT
end Go.Lv

namespace Go.Lv.VT
set_option maxRecDepth 100000
theorem ji{α:Type}(l:List α):((l.length:Int)==0)=l.isEmpty:=by
 cases l with
 |nil=>rfl
 |cons a l=>exact Ja.2 (by simp only[Ab];omega)
theorem Uy(v:ze):(⟨v.token,v.list⟩:ze)=v:=by cases v;rfl
def vg(x:Str):Bool:= !(x==[])&&(decide (x.length<=64)&&(Re x&&(bif List.isPrefixOf [45,45] x then !(x==[45,45])else lowS x==x)))
theorem PZ{x:Str}(h:x.length<=big):Vl x=some (vg x):=by
 have e:decide ((x.length:Int)>64)= !decide (x.length<=64):=Aw _ 64;have e1:decide (Lib.indexByte x (0:Int).toNat.toUInt8>=0)= !Re x:=jB x;have ec:=bK x (lowS x);unfold Vl vg;simp only[BF,Zb,zb,Aa,Fz,ay h,e,ec];cases x==[]<;>cases decide (x.length<=64)<;>try rfl
 simp only[Ea,Da,ja,Ua,aa,Ud,e1];cases Re x<;>cases List.isPrefixOf [45,45] x<;>rfl
theorem VJ(x:Str):(bif decide ((x.length:Int)>=2)then List.take 2 x==[45,45]else false)=List.isPrefixOf [45,45] x:=by
 cases x with
 |nil=>rfl
 |cons a x=>
  cases x with
  |nil=>show(bif decide _ then _ else _)=((45==a)&&false);rw[Tc];rfl
  |cons b x=> have:decide ((((a::b::x:Str)).length:Int)>=2)=true:=Ta (by simp only[Ab];omega);rw[this];show((a==45)&&((b==45)&&true))=((45==a)&&((45==b)&&true));rw[Bool.beq_comm (a:=a),Bool.beq_comm (a:=b)]
theorem WJ{x:Str}(h:List.isPrefixOf [45,45] x=true):decide ((x.length:Int)>2)= !(x==[45,45]):=by
 obtain⟨t,rfl⟩:=List.isPrefixOf_iff_prefix.1 h;cases t with
 |nil=>rfl
 |cons a t=> have:decide ((([45,45]++a::t:Str).length:Int)>2)=true:=Ta (by simp only[Ma,Ab];omega);rw[this];rfl
theorem M3{x:Str}(h:x.length<=big):Cu x=some (vg x):=by
 have e:decide ((x.length:Int)>64)= !decide (x.length<=64):=Aw _ 64;have en:decide ((x.length:Int)<1)=(x==[]):=by cases x with
  |nil=>rfl
  |cons a x=>exact Eb (by simp only[Ab];omega)
 have ec:=bK x (lowS x);have hk:(need (decide ((2:Int)<=(x.length:Int))|| !(decide ((x.length:Int)>=2)))<|
   bif bif decide ((x.length:Int)>=2)then List.take 2 x==[45,45]else false then some (decide ((x.length:Int)>2))else zb (Qw x) fun y4=>some (x==y4))=some (bif List.isPrefixOf [45,45] x then !(x==[45,45])else lowS x==x):=by
  have e2:(decide ((2:Int)<=(x.length:Int))|| !(decide ((x.length:Int)>=2)))=true:=by show(decide _|| !decide ((2:Int)<=_))=true;cases decide ((2:Int)<=(x.length:Int))<;>rfl
  rw[e2,Qs,VJ];cases hp:List.isPrefixOf [45,45] x with
  |true=>rw[Ea,Ea,WJ hp]
  |false=>simp only[Da,bD h,zb,Aa,ec]
 unfold Cu vg;rw[hk];have hl: ∀b:Bool,zY (fun(s1:Int)=>bif decide (s1<(x.length:Int))then
    zb (geti x s1) fun y2=>bif (y2.toNat:Int)==0 then some (LO.ret false)else some (LO.again (w64 (s1+1)))
   else some (LO.out ()):Int->Option (LO (Int) (Unit) _)) 0 (fun _=>some b)=some (Re x&&b):=by
  intro b;refine(Sl x (fun b=>bif (!(b==0))then none else some false) () (fun i hi=> ?_) ?_).trans ?_
  ·simp only[Zw hi,Ea,ZF hi,zb,Aa,byte_zero,Zh hi h];cases x[i]==0<;>rfl
  ·simp only[af,Da]
  ·rw[Oo];unfold Re;cases x.all (fun b=> !(b==0))<;>rfl
 rw[hl,e,en];cases x==[]<;>cases decide (x.length<=64)<;>rfl
def clK(v:ze):Bool:=v.token.kind==20||(v.token.kind==22||v.token.kind==24)
mutual
def clV:ze->Bool
 |⟨t,l⟩=>clK ⟨t,l⟩||clL l
def clL:List ze->Bool
 |[]=>false
 |v::r=>clV v||clL r
end
theorem XR(v:ze):clV v=(clK v||clL v.list):=by obtain⟨t,l⟩:=v;rw[clV]
theorem gI(l:List ze):clL l=l.any clV:=by
 induction l with
 |nil=>rw[clL];rfl
 |cons v l ih=>rw[clL,ih];rfl
theorem V6{l:List ze}(h:szL l<=big):zt l=some (clL l):=by
 refine Dh (fun l=>szL l) (fun l=>szL l<=big) (fun l=>clL l) (fun S l hl hS=> ?_) h;have hlen:=Jg l;unfold Jq Zp ZP;have:=Ay (dx (step:=fun(s1:Int)=>
   bif decide (s1<(l.length:Int))then
    zb (geti l s1) fun y2=>
    zb (Qf S (⟨y2.token,y2.list⟩:ze)) fun y3=>
    bif y3 then some (LO.ret s1)else some (LO.again (w64 (s1+1)))
   else some (LO.out ())) l clV (by omega) (fun i hi=> ?_) ?_) (Js _ _)
 ·rw[this,gI];rfl
 ·have hsz:=Uh (Fb hi);have hv2:=xg l[i];have hs:=hS l[i].list (by omega) (by omega);have:Qf S l[i]=some (clV l[i]):=by unfold Qf Zz;simp only[Uy,Zb,zb,Aa,hs,XR,clK];cases l[i].token.kind==20<;>cases l[i].token.kind==22<;>cases l[i].token.kind==24<;>rfl
  simp only[Zw hi,Ea,ZF hi,zb,Aa,Uy,this]
 ·simp only[af,Da]
theorem H7{l:List ze}(h:szL l<=big):qE l=some (clL l):=by
 refine Dh (fun l=>szL l) (fun l=>szL l<=big) (fun l=>clL l) (fun S l hl hS=> ?_) h;have hlen:=Jg l;unfold JA;refine(Sl l (fun v=>bif clV v then some true else none) () (fun i hi=> ?_) ?_).trans ?_
 ·have hsz:=Uh (Fb hi);have hv2:=xg l[i];have hs:=hS l[i].list (by omega) (by omega);simp only[Zw hi,Ea,ZF hi,zb,Aa,XR,clK,Zh hi (show l.length<=big by omega)];cases h1:l[i].token.kind==20<;>cases h2:l[i].token.kind==22<;>cases h3:l[i].token.kind==24<;>
   first|rfl|(simp only[Da,Ua,zU,Aa,hs,Ld];cases clL l[i].list<;>rfl)
 ·simp only[af,Da]
 ·rw[KD,gI];cases l.any clV<;>rfl
def si(l:List ze):Bool:=match l with
 |[]=>false
 |v::r=>isSp v||isSp ((v::r).getLast (by simp))
theorem jV(t:List ze)(v:ze):si (t++[v])=((match t with|[]=>isSp v|a::_=>isSp a)||isSp v):=by
 cases t with
 |nil=>rfl
 |cons a t=> show(isSp a||isSp ((a::(t++[v])).getLast _))=_;congr 2;have:(a::(t++[v]))=(a::t)++[v]:=rfl;simp only[this,List.getLast_append_of_ne_nil,List.getLast_singleton,ne_eq,reduceCtorEq,xe]
theorem IK(l:List ze):(trimB l).length<=l.length:=(Jy l).length_le
theorem wK(l:List ze):((trimS l).length==l.length)= !si l:=by
 rcases iE l with rfl|⟨t,v,rfl⟩
 ·rfl
 ·rw[jV];have hl:(t++[v]).length=t.length+1:=by simp
  cases t with
  |nil=>
   show((trimB (List.dropWhile isSp [v])).length==1)= !(isSp v||isSp v);cases hv:isSp v with
   |true=>simp only[Ad,hv];rfl
   |false=> simp only[Ad,hv];have:=Vt [] v;rw[hv]at this;show((trimB [v]).length==1)=true;rw[show trimB [v]=[v]from this];rfl
  |cons a t=>
   show((trimB (List.dropWhile isSp (a::(t++[v])))).length==_)= !(isSp a||isSp v);have hb:=IK (List.dropWhile isSp (a::(t++[v])));cases ha:isSp a with
   |true=> simp only[Ad,ha,Pg]at hb ⊢;have hd:=(He isSp (l:=t++[v])).length_le;rw[Yd,ja,Ja];rw[hl,Ab];rw[Ma,List.length_singleton]at hd;omega
   |false=>
    have e:List.dropWhile isSp (a::(t++[v]))=(a::t)++[v]:=by rw[Ad,ha];rfl
    rw[e,Vt];cases hv:isSp v with
    |true=> have:=IK (a::t);rw[Na rfl,jd,ja,Ja,hl];omega
    |false=>simp
theorem NV{l:List ze}(h:l.length<=big)(g:Bool)(hg:(l.isEmpty&&g)=false)(k:Bool->Option Int):
  (zb (zo (decide ((l.length:Int)>0)&& !g) (geti l 0) (default:ze)) fun y7=>
   zb (zo (decide ((l.length:Int)>0)&& !g) (Zz ((⟨y7.token,y7.list⟩:ze),13)) (default:Bool)) fun y8=>
   zb (zo (!y8&&(decide ((l.length:Int)>0)&& !g)) (geti l (w64 ((l.length:Int) - 1))) (default:ze)) fun y9=>
   zb (zo (!y8&&(decide ((l.length:Int)>0)&& !g)) (Zz ((⟨y9.token,y9.list⟩:ze),13)) (default:Bool)) fun y10=>
   k (bif decide ((l.length:Int)>0)then bif y8 then true else y10 else false))=(if g=true/\l≠[]then(k (bif decide ((l.length:Int)>0)then bif (default:Bool)then true else(default:Bool)else false))else k (si l)):=by
 cases l with
 |nil=> have:decide ((([]:List ze).length:Int)>0)=false:=rfl;simp only[this,Jc,Zi,zb,Aa,Tc,Da,ne_eq,not_true_eq_false,and_false,if_false,si]
 |cons v r=>
  have e1:decide (((v::r).length:Int)>0)=true:=Ta (by simp only[Ab];omega);have e2:geti (v::r) 0=some v:=rfl;cases g with
  |true=>simp only[e1,ja,Tc,Zi,zb,Aa,Ea,ne_eq,reduceCtorEq,xe,and_self,Pg]
  |false=>
   simp only[e1,Ua,Vb,zU,zb,Aa,Ea,e2,Zz,false_and,if_false,reduceCtorEq];have e3:w64 (((v::r).length:Int) - 1)=(r.length:Int):=by rw[Ab]at h ⊢;rw[w64,Zo (by omega) (by unfold big at h;omega)];omega
   have e4:geti (v::r) (r.length:Int)=some ((v::r).getLast (by simp)):=by rw[ZF (by simp),List.getLast_eq_getElem];simp
   rw[e3,e4];simp only[Zb,Aa,si,isSp];cases v.token.kind==13<;>rfl
def badV(v:ze):Bool:=v.token.kind==17||(v.token.kind==9&&v.token.text==[33])
def Jk(custom:Bool)(l:List ze):Bool:= !(l.any badV)&&(!(l.isEmpty&& !custom)&& !si l)
def mf(d:zB):Bool:=vg d.name&&(errS d.value==0&&(gluS (tokL d.value)==0&&(!clL d.value&&Jk (List.isPrefixOf [45,45] d.name) d.value)))
mutual
theorem zAo: ∀(v:ze) (t:zf),t∈tokV v->t.text.length<=szV v/\t.unit.length<=szV v
 |⟨t,l⟩,u,h=>by
  rw[tokV]at h;rw[szV];rcases Ya.1 h with rfl|h
  ·constructor<;>omega
  ·split at h
   ·cases h
   ·rcases Xc.1 h with h|h
    ·have:=Tx l u h;omega
    ·obtain rfl:=Yb.1 h;exact⟨Gc _,Gc _⟩
theorem Tx: ∀(l:List ze) (t:zf),t∈tokL l->t.text.length<=szL l/\t.unit.length<=szL l
 |[],_,h=>by rw[tokL]at h;cases h
 |v::r,u,h=>by
  rw[tokL]at h;rw[szL];rcases Xc.1 h with h|h
  ·have:=zAo v u h;omega
  ·have:=Tx r u h;omega
end
theorem UT{l:List ze}(h:szL l<=big):QJ (tokL l)=some (gluS (tokL l)):=
 fZ fun t ht=>by have:=Tx l t ht;omega
theorem zBm{l:List ze}(h:szL l<=big):Wl (tokL l)=some (gluS (tokL l)):=
 V3 fun t ht=>by have:=Tx l t ht;omega
theorem xX{l:List ze}(h:l.length<=big):Za l=some (l.any badV):=by
 unfold Za Zy;refine Ay (dx l badV h (fun i hi=> ?_) ?_) (Js _ _)
 ·have:gp l[i]=some (badV l[i]):=by unfold gp Il Zz badV;simp only[Uy,Zb,zb,Aa];cases l[i].token.kind==17<;>cases l[i].token.kind==9<;>rfl
  simp only[Zw hi,Ea,ZF hi,zb,Aa,Uy,this]
 ·simp only[af,Da]
theorem RZ{d:zB}(hv:szL d.value<=big)(hn:d.name.length<=big):QI d=some (bif mf d then 0 else 8):=by
 have hlen:=Jg d.value;unfold QI mf;rw[WX hv];simp only[zb,Aa,PZ hn];cases vg d.name with
 |false=>simp only[Ua,Ea,ja,Zi,Aa,Jc,Da]
 |true=>
  by_cases he:errS d.value=0
  ·rw[Na he];have he':(errS d.value==0)=true:=Sb.2 he;have this:((0:Int)==0)=true:=rfl;simp only[he',this,ja,Da,Ua,zU,UT hv,Aa,aa,bne];cases hg:gluS (tokL d.value)==0 with
   |false=>simp only[Ua,Ea,ja,Zi,Aa,Jc,Da]
   |true=>
    simp only[ja,Da,Ua,zU,V6 hv,Aa,aa];cases clL d.value with
    |true=>rfl
    |false=>
     simp only[Da,xX (show d.value.length<=big by omega),Aa,Jk,Ua,aa];cases d.value.any badV with
     |true=>rfl
     |false=>
      simp only[Da,Fz,Zb,Aa,ji,Ua,aa];have hp:=NV (l:=d.value) (by omega) (bif d.value.isEmpty then !(bif d.value.isEmpty then List.isPrefixOf [45,45] d.name else default)else false);cases hd:d.value with
      |nil=>
       cases List.isPrefixOf [45,45] d.name<;>rfl
      |cons v r=> have hp':=hp (by rw[hd];rfl) (fun b=>bif b then some 8 else some 0);rw[hd]at hp';simp only[List.isEmpty_cons,Da,Dg,false_and,if_false]at hp';simp only[List.isEmpty_cons,Da,Jc,Ua,aa];refine Eq.trans hp' ?_;cases si (v::r)<;>rfl
  ·rw[Ra he];have he':(errS d.value==0)=false:=Ja.2 he;simp only[he',bne,ja,Da,Ua,Ea,Zi,Aa,Jc,Tc]
theorem nU{x:Str}(hn:vg x=true):cu x=some (List.isPrefixOf [45,45] x):=by
 unfold cu;have e2:(decide ((2:Int)<=(x.length:Int))|| !(decide ((x.length:Int)>2)))=true:=by
  by_cases h:2<=x.length
  ·rw[Ta (show(2:Int)<=(x.length:Int) by omega)];rfl
  ·rw[Eb (show¬((x.length:Int)>2) by omega)];simp
 rw[iw e2];have hp:=VJ x;cases hpp:List.isPrefixOf [45,45] x with
 |true=> rw[hpp]at hp;have h3:=WJ hpp;unfold vg at hn;rw[hpp]at hn;simp only[Ea,Ca]at hn;rw[hn.2.2.2]at h3;rw[h3];have:decide ((x.length:Int)>=2)=true:=Ta (by have:=Db h3;omega);rw[this]at hp;exact congrArg some hp
 |false=>
  rw[hpp]at hp;cases h3:decide ((x.length:Int)>2)with
  |false=>rfl
  |true=> have:decide ((x.length:Int)>=2)=true:=Ta (by have:=Db h3;omega);rw[this]at hp;exact congrArg some hp
theorem zBy{α:Type}(a b:List α):((a.length:Int)==(b.length:Int))=(a.length==b.length):=by rw[Bool.eq_iff_iff,Sb,Sb];omega
theorem X5{x:Str}{l:List ze}(h:szL l<=big)(hn:vg x=true):
  bu (x,l)=some (errS l==0&&(gluS (tokL l)==0&&(!clL l&&Jk (List.isPrefixOf [45,45] x) l))):=by
 have hlen:=Jg l;unfold bu;simp only[PU h,yK h,zb,Aa,bne,Zb];cases he:errS l==0 with
 |false=>simp only[Ua,Ea,ja,Zi,Aa,Jc,Da]
 |true=>
  simp only[ja,Da,Ua,Ea,zU,zBm h,Aa,aa];cases hg:gluS (tokL l)==0 with
  |false=>simp only[Ua,Ea,ja,Zi,Aa,Jc,Da]
  |true=>
   simp only[ja,Da,Ua,zU,H7 h,Aa,aa];cases clL l with
   |true=>rfl
   |false=>
    simp only[Da,sW h,Aa,zBy,wK,ji,df,Ua,aa,nU hn,Zb];have hl:zY (fun(s7:Int)=>
     bif decide (s7<(l.length:Int))then
      zb (geti l s7) fun y8=>
      bif bif y8.token.kind==17 then true else bif y8.token.kind==9 then y8.token.text==[33]else false then
       some (LO.ret false)
      else
       some (LO.again (w64 (s7+1)))
     else
      some (LO.out ()):Int->Option (LO (Int) (Unit) _)) 0 (fun _=>some true)=some (!(l.any badV)):=by
     refine(Sl l (fun v=>bif badV v then some false else none) () (fun i hi=> ?_) ?_).trans ?_
     ·simp only[Zw hi,Ea,ZF hi,zb,Aa,badV,Zh hi (show l.length<=big by omega)];cases l[i].token.kind==17<;>cases l[i].token.kind==9<;>cases l[i].token.text==[33]<;>rfl
     ·simp only[af,Da]
     ·rw[KD];cases l.any badV<;>rfl
    unfold Jk;simp only[zb]at hl;rw[hl];cases si l<;>cases l.isEmpty<;>cases List.isPrefixOf [45,45] x<;>cases l.any badV<;>rfl
theorem O3{d:zB}(hv:szL d.value<=big)(hn:d.name.length<=big):Dp d=some (bif mf d then 0 else 8):=by
 unfold Dp mf;simp only[M3 hn,zb,Aa];cases hnd:vg d.name with
 |false=>rfl
 |true=> simp only[ja,Ua,zU,X5 hv hnd,Aa,aa];cases (errS d.value==0&&(gluS (tokL d.value)==0&&(!clL d.value&&Jk (List.isPrefixOf [45,45] d.name) d.value)))<;>rfl
theorem G5:gq Wp:=by intro qj ref10_Size' h_ref10_Size x;unfold Wp;exact(.lp (fun _=>(.bif (.bind .rfl fun _=>(.bind (h_ref10_Size _) fun _=> .rfl)) .rfl)) fun _=> .rfl)
theorem H5:gq Xp:=by intro Ql ref04_Size' h_ref04_Size x;unfold Xp;exact(.lp (fun _=>(.bif (.bind .rfl fun _=>(.bind .rfl fun _=>(.bind .rfl fun _=>(.bind (h_ref04_Size _) fun _=> .rfl)))) .rfl)) fun _=> .rfl)
theorem E5:gq Vp:=by intro jh ref10_long' h_ref10_long x;unfold Vp;exact(.bind .rfl fun _=>(.bif .rfl (.lp (fun _=>(.bif (.bind .rfl fun _=>(.bind (h_ref10_long _) fun _=>(.bif .rfl .rfl))) .rfl)) fun _=> .rfl)))
theorem xZ:gq Yj:=by intro Z9 cond_look' h_cond_look x;unfold Yj;exact(.bif .rfl (.bif (.bind .rfl fun _=>(.bind .rfl fun _=> .rfl)) (.bif (.bind .rfl fun _=> .rfl) (.join (.bif .rfl (.bif .rfl .rfl)) fun _=>(.bif (.bind .rfl fun _=>(.bif .rfl (.lp (fun _=>(.bif (.bind .rfl fun _=>(.bind (h_cond_look _) fun _=>(.bif .rfl (.join (.bind .rfl fun _=>(.bif .rfl .rfl)) fun _=> .rfl)))) .rfl)) fun _=> .rfl))) .rfl)))))
end Go.Lv.VT




