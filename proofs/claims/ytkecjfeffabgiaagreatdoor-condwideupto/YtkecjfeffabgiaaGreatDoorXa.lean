/- Small functions of bytes and texts: small letters, names; the program's and the reference's are the same. -/
import Derived.Test.YtkecjfeffabgiaaGreatDoorTx
import Derived.Test.YtkecjfeffabgiaaGreatDoorMo
import Derived.Test.YtkecjfeffabgiaaGreatDoorIp
import Derived.Test.YtkecjfeffabgiaaGreatDoorLf
set_option linter.unusedSimpArgs false
set_option linter.unusedVariables false
namespace Go.Lv.VT
def Vi(n:Nat):Nat:=if 65<=n/\n<=90 then n+32 else n
def ah(b:UInt8):UInt8:=UInt8.ofNat (Vi b.toNat)
theorem gT{n:Nat}(h:n<256):Vi n<256:=by unfold Vi;split<;>omega
theorem XV(b:UInt8):(ah b).toNat=Vi b.toNat:=by unfold ah;rw[UInt8.toNat_ofNat'];exact Nat.mod_eq_of_lt (gT (je b))
theorem nT: ∀n:Nat,n<256->Gs (n:Int)=some ((Vi n:Nat):Int):=by decide+kernel
theorem dO: ∀n:Nat,n<256->(bif decide (65<=(n:Int))then decide ((n:Int)<=90)else false)=true->qD (ibOr IntKind.u8 (n:Int) 32)=some (UInt8.ofNat (Vi n)):=by decide+kernel
def lowS(l:Str):Str:=l.map ah
theorem JB{α:Type}{l:List α}{i:Nat}(h:i<l.length)(f:α->α):((l.take i).map f++l.drop i).set i (f l[i])=(l.take (i+1)).map f++l.drop (i+1):=by
 apply List.ext_getElem
 ·simp;omega
 grind
theorem mG{α:Type}{l:List α}{i:Nat}(h:i<l.length)(f:α->α):((l.take i).map f++l.drop i)[i]? =some l[i]:=by
 grind
theorem jA{α:Type}{l:List α}{i:Nat}(h:i<=l.length)(f:α->α):((l.take i).map f++l.drop i).length=l.length:=by simp;omega
theorem DT{α:Type}{l:List α}{i:Nat}(h:i<l.length)(f:α->α)(e:f l[i]=l[i]):(l.take i).map f++l.drop i=(l.take (i+1)).map f++l.drop (i+1):=by
 rw[<-JB h f,e];apply List.ext_getElem?
 grind
theorem Hz(i:Nat):decide ((0:Int)<=(i:Int))=true:=Va (by omega)
theorem rT{l:Str}(h:l.length<=big):Js l=some (lowS l):=by
 unfold Js;rw[iA (Va (by unfold big at h;unfold maxLen;omega))];have d: ∀(k i:Nat),i+k=l.length-> ∃n,qG (X:=List UInt8) (R:=Str) (fun(a:Int×List UInt8)=>
   bif decide (a.1<(a.2.length:Int))then
    need (decide (0<=a.1)&&decide (a.1<(a.2.length:Int)))<|
    zb a.2[a.1.toNat]? fun f=>
    zb (Gs (f.toNat:Int)) fun g=>
    need (decide (0<=a.1)&&decide (a.1<(a.2.length:Int)))<|
    zb a.2[a.1.toNat]? fun p=>
    zb (qD g) fun m=>
    some (LO.again (w64 (a.1+1),List.set a.2 a.1.toNat m))
   else
    some (LO.out a.2)) n ((i:Int),(l.take i).map ah++l.drop i)=some (.out (lowS l)):=by
  intro k
  induction k with
  |zero=>
   intro i e;have e:i=l.length:=by omega
   subst e;refine⟨1,?_⟩;simp only[qG,jA (La _),QY,Ea];simp[lowS]
  |succ k o=>
   intro i e;have b:i<l.length:=by omega
   obtain⟨n,c⟩:=o (i+1) (by omega);refine⟨n+1,?_⟩;have j:=je l[i];simp only[qG,jA (Nat.le_of_lt b),ZK b,Ia,Hz,Jc,Qy,ib,mG b,zb,Ba,nT _ j];rw[<-XV,zwm,Zo b h];simp only[Ba,JB b];exact c
 obtain⟨n,c⟩:=d l.length 0 (by omega);replace c:=Fh c;simp only[Ie,List.map_nil,Rc,Af]at c;exact(Ph c).trans rfl
theorem Rw{l:Str}(h:l.length<=big):Zx l=some (lowS l):=by
 unfold Zx;rw[iA (Va (by unfold big at h;unfold maxLen;omega))];have d: ∀(k i:Nat),i+k=l.length-> ∃n,qG (X:=List UInt8) (R:=Str) (fun(a:Int×List UInt8)=>
   bif decide (a.1<(l.length:Int))then
    zR (X:=Int×List UInt8) (
      need (decide (0<=a.1)&&decide (a.1<(a.2.length:Int)))<|
      zb a.2[a.1.toNat]? fun j=>
      bif bif decide (65<=(j.toNat:Int))then decide ((j.toNat:Int)<=90)else false then
       need (decide (0<=a.1)&&decide (a.1<(a.2.length:Int)))<|
       zb a.2[a.1.toNat]? fun o=>
       need (decide (0<=a.1)&&decide (a.1<(a.2.length:Int)))<|
       zb a.2[a.1.toNat]? fun t=>
       zb (qD (ibOr IntKind.u8 (o.toNat:Int) 32)) fun q=>
       some (LX.out (a.1,List.set a.2 a.1.toNat q))
      else
       some (LX.out (a.1,a.2))) fun m=>
    some (LO.again (w64 (m.1+1),m.2))
   else
    some (LO.out a.2)) n ((i:Int),(l.take i).map ah++l.drop i)=some (.out (lowS l)):=by
  intro k
  induction k with
  |zero=>
   intro i f;have f:i=l.length:=by omega
   subst f;refine⟨1,?_⟩;simp only[qG,QY,Ea];simp[lowS]
  |succ k r=>
   intro i f;have b:i<l.length:=by omega
   obtain⟨n,c⟩:=r (i+1) (by omega);refine⟨n+1,?_⟩;have p:=je l[i];simp only[qG,jA (Nat.le_of_lt b),ZK b,Ia,Hz,Jc,Qy,ib,mG b,zb,Ba];cases g:(bif decide (65<=(l[i].toNat:Int))then decide ((l[i].toNat:Int)<=90)else false)with
   |true=> have e:=dO _ p g;simp only[e,Ia,Ba,zX,Zo b h];rw[show UInt8.ofNat (Vi l[i].toNat)=ah l[i]from rfl,JB b];exact c
   |false=>
    have e:ah l[i]=l[i]:=by unfold ah Vi;rw[Ra,UInt8.ofNat_toNat];rintro⟨s,u⟩;rw[Va (by omega),Ia,Va (by omega)]at g;cases g
    simp only[Ea,zX,Zo b h];rw[DT b ah e];exact c
 obtain⟨n,c⟩:=d l.length 0 (by omega);replace c:=Fh c;simp only[Ie,List.map_nil,Rc,Af]at c;exact(Ph c).trans rfl
def Re(l:Str):Bool:=l.all fun b=> !(b==0)
theorem KA(c:UInt8): ∀l:Str,decide (Lib.indexByte l c>=0)=l.any fun b=>b==c
 |[]=>rfl
 |b::l=>by
  have d:=KA c l;have a:=Lib.indexByte_ge l c;rw[List.any_cons,Lib.indexByte]
  grind
theorem aQ(l:Str):(l.any fun b=>b==0)= !Re l:=by
 unfold Re
 grind
theorem lD(l:Str)(n:Int):strings_IndexByte (l,n)=some (Lib.indexByte l n.toNat.toUInt8):=rfl
theorem xA(l:Str):decide (Lib.indexByte l (0:Int).toNat.toUInt8>=0)= !Re l:=(KA 0 l).trans (aQ l)
theorem Pp(n m:Nat):decide ((n:Int)>(m:Int))= !decide (n<=m):=by
 grind
theorem byte_zero(b:UInt8):((b.toNat:Int)==0)=(b==0):=by
 by_cases h:b=0
 ·subst h;rfl
 ·have a:b.toNat≠0:=fun e=>h (UInt8.toNat_inj.1 e)
  grind
theorem BJ(a b:Str):(a==b)=(b==a):=by
 grind
theorem eG(n m:Nat):decide ((n:Int)<=(m:Int))=decide (n<=m):=by
 grind
theorem VW{α:Type}(l:List α):decide ((l.length:Int)<1)=l.isEmpty:=by
 cases l with
 |nil=>rfl
 |cons a l=>grind
theorem Aw{f:Option Int}{p:Bool}{i:Int}(h:f=some i)(a:decide (i>=0)=p):(zb f fun y=>some (decide (y>=0)))=some p:=by
 grind
theorem IR{α:Type}(p:α->Bool)(l:List α):(l.any fun v=> !p v)= !l.all p:=by
 grind
theorem uw(l m:Str):strings_HasPrefix (l,m)=some (m.isPrefixOf l):=by
 have a: ∀m l:Str,m.isPrefixOf l=(decide (m.length<=l.length)&&l.take m.length==m):=by
  intro m l;rw[Bool.eq_iff_iff];simp only[List.isPrefixOf_iff_prefix,Ca,aa,Sb];constructor
  ·rintro⟨t,rfl⟩
   grind
  ·grind
 unfold strings_HasPrefix stringslite_HasPrefix;simp_all
theorem tX(l m:Str):strings_TrimPrefix (l,m)=some (bif m.isPrefixOf l then l.drop m.length else l):=by
 have h:stringslite_HasPrefix (l,m)=some (m.isPrefixOf l):=by
  have:=uw l m;unfold strings_HasPrefix at this;cases hh:stringslite_HasPrefix (l,m)with
  |none=>grind
  |some b=>grind
 unfold strings_TrimPrefix stringslite_TrimPrefix;simp only[h,zb,Ba];cases hp:m.isPrefixOf l with
 |false=>rfl
 |true=> have hl:=(List.isPrefixOf_iff_prefix.1 hp).length_le;simp_all
theorem bV{a b:Str}(c:a.length<=big)(h2:b.length<=big):ZJ (a,b)=some (lowS a==lowS b):=by unfold ZJ;simp only[Rw c,Rw h2,zb,Ba]
def Gq(n:Nat):Bool:=
 !(n==0||n==9||n==10||n==12||n==13||n==32||n==34||n==39||n==40||n==41||n==44||n==58||n==59||n==91||n==93||n==95||n==123||n==125)&&
  (decide (n<128)&& !((decide (48<=n)&&decide (n<=57))||(decide (65<=n)&&decide (n<=90))||(decide (97<=n)&&decide (n<=122))))
def digN(n:Nat):Bool:=decide (48<=n)&&decide (n<=57)
theorem uX: ∀n:Nat,n<256->Z8 (n:Int)=some (digN n):=by decide+kernel
theorem AY(b:UInt8):Z8 (b.toNat:Int)=some (digN b.toNat):=(uX _ (je b))
def namN(n:Nat):Bool:=digN n||(decide (65<=n)&&decide (n<=90))||(decide (97<=n)&&decide (n<=122))||n==95||n==45||decide (128<=n)
theorem uW: ∀n:Nat,n<256->QW (n:Int)=some (namN n):=by decide+kernel
theorem yX(b:UInt8):QW (b.toNat:Int)=some (namN b.toNat):=(uW _ (je b))
def Ep:Str->Bool
 |[]=>false
 |b::r=>digN b.toNat||(b==45&&(r==[]||digN (r.headD 0).toNat))
def numS:Str->Bool
 |[]=>false
 |b::r=>bif b==45 then !(r==[])&&digN (r.headD 0).toNat else digN b.toNat
theorem O0(l:Str):Aj l=some (numS l):=by
 unfold Aj;simp only[tX,zb,Ba];have a: ∀m:Str,((zw (!(m==[])) (geti m 0) 0).bind fun c=>(zw (!(m==[])) (Z8 (c.toNat:Int)) (default:Bool)).bind fun d=>some (bif !(m==[])then d else false))=some (!(m==[])&&digN (m.headD 0).toNat):=by
  intro m;cases m with
  |nil=>rfl
  |cons b r=> have f:geti (b::r) 0=some b:=rfl;have g:(b::r==([]:Str))=false:=rfl;simp only[g,Ab,ZN,f,Ba,AY,Ia,List.headD_cons,Ya]
 rw[a];cases l with
 |nil=>rfl
 |cons b r=>
  have e:List.isPrefixOf [45] (b::r)=(b==45):=by
   show((45==b)&&true)=_;rw[Jc];cases h:(b==45)with
   |true=>grind
   |false=>grind
  rw[e];show _=some (bif b==45 then !(r==[])&&digN (r.headD 0).toNat else digN b.toNat)
  grind
theorem BR(l:Str):((numS l&& !(List.isPrefixOf [45,45] l))||l==[45])=Ep l:=by
 cases l with
 |nil=>rfl
 |cons b r=>
  cases a:(b==45)with
  |false=>
   have e:List.isPrefixOf [45,45] (b::r)=false:=by show((45==b)&&_)=_;rw[Ka]at a;rw[Ka.2 (Ne.symm a)];rfl
   have c:((b::r:Str)==[45])=false:=by show((b==45)&&_)=_;rw[a];rfl
   rw[e,c];unfold numS Ep;simp[a]
  |true=>
   rw[Sb]at a;subst a;cases r with
   |nil=>rfl
   |cons d r=>
    have c:((45::d::r:Str)==[45])=false:=rfl;rw[c];unfold numS Ep;have e:List.isPrefixOf [45,45] (45::d::r)=(45==d):=by show((45==(45:UInt8))&&((45==d)&&true))=_;rw[Jc];rfl
    rw[e];simp only[List.headD_cons];have f:digN 45=false:=by decide
    cases h:(45==d)with
    |false=>simp[f]
    |true=>rw[Sb]at h;subst h;rfl
def delS(l:Str):Bool:=match l with
 |[b]=>Gq b.toNat
 |_=>false
def rngS(x:zk):Bool:=decide (-1000000000000<=x.num)&&(decide (x.num<=1000000000000)&&(!x.flag||Int.tmod x.num 1000==0))
def Ju(x:zk):Bool:=
 bif x.kind==1||x.kind==2||x.kind==3 then !(x.text==[])&&(Re x.text&&(x.num==0&&(x.unit==[]&& !x.flag)))
 else bif x.kind==4 then !(x.text==[])&&(Re x.text&&((x.flag||Ep x.text)&&(x.num==0&&x.unit==[])))
 else bif x.kind==5||x.kind==7 then Re x.text&&(x.num==0&&(x.unit==[]&& !x.flag))
 else bif x.kind==9 then delS x.text&&(x.num==0&&(x.unit==[]&& !x.flag))
 else bif x.kind==10||x.kind==11||x.kind==12 then rngS x&&((!(x.unit==[])==(x.kind==12))&&(Re x.unit&&((!(x.kind==11)|| !x.flag)&&x.text==[])))
 else(decide (13<=x.kind)&&decide (x.kind<=24))&&(x.text==[]&&(x.num==0&&(x.unit==[]&& !x.flag)))
abbrev Jp:Str:=[32,9,10,12,13,34,39,58,59,44,91,93,40,41,123,125]
theorem NJ: ∀(m:Str) (c:UInt8),Lib.index m [c]=Lib.indexByte m c
 |[],c=>rfl
 |b::l,c=>by
  have h:List.isPrefixOf [c] (b::l)=(b==c):=by
   show(c==b&&List.isPrefixOf [] l)=_;rw[List.isPrefixOf,Jc];by_cases e:b=c
   ·subst e;rfl
   ·grind
  rw[Lib.index,Lib.indexByte,h,NJ l c]
theorem contains_one(m:Str)(c:UInt8)(a:short m=true:=by decide):strings_Contains (m,[c])=some (m.any fun b=>b==c):=by unfold strings_Contains;simp only[Si,a,Qy,zb,Ba,NJ,KA]
theorem fZ(c:UInt8):strings_Contains ([32,9,10,12,13,34,39,58,59,44,91,93,40,41,123,125],[c])=some (Jp.any fun b=>b==c):=contains_one Jp c
theorem JV: ∀n:Nat,n<256->((bif bif !(UInt8.ofNat n==0)then !namN n else false then true else UInt8.ofNat n==45)&&(!(Jp.any fun b=>b==UInt8.ofNat n)))=Gq n:=by decide+kernel
theorem sS(b:UInt8):((bif bif !(b==0)then !namN b.toNat else false then true else b==45)&&(!(Jp.any fun c=>c==b)))=Gq b.toNat:=by have:=JV b.toNat (je b);simp_all
theorem SX(a b:Str):Re (a++b)=(Re a&&Re b):=by unfold Re;grind
theorem kG(n:Int):decide (n<0)= !decide (n>=0):=by
 grind
theorem aO(g d:Bool)(b c:UInt8):(bif g then namN (bif g then b else c).toNat else d)=bif g then namN b.toNat else d:=by cases g<;>rfl
theorem vW{x:zk}(h1:x.text.length<=big)(h2:x.unit.length<=big):Nn x=some (Ju x):=by
 unfold Nn;rw[iA (lI.2 (by grind))];simp only[zb,lD,Ba];have hn:decide (Lib.indexByte (x.text++x.unit) (0:Int).toNat.toUInt8<0)=(Re x.text&&Re x.unit):=by rw[kG,xA,SX,bf]
 simp only[hn,O0,uw,Zg,Ba,ge_iff_le,bne];have hb:=BR x.text;unfold Ju rngS;by_cases k9:x.kind=9
 ·simp only[k9,Int.reduceBEq,Ia,Ea,zX,Ed,Ud];cases ht:x.text with
  |nil=>
   have:Re ([]:Str)=true:=rfl;simp only[this,Ya];cases Re x.unit<;>rfl
  |cons b r=>
   cases r with
   |nil=>
    have hd:=sS b;have e1:((([b]:Str).length:Int)==1)=true:=rfl;have e2:geti [b] 0=some b:=rfl;have e3:(([b]:Str)==[45])=(b==45):=by show((b==45)&&true)=_;rw[Jc]
    have e4:Re [b]= !(b==0):=by show((!(b==0))&&true)=_;rw[Jc]
    have e5:delS [b]=Gq b.toNat:=rfl;simp only[e1,e2,e3,e4,e5,fZ,yX,Zg,Ba,aO,<-hd];cases hu:x.unit with
    |nil=>
     have:Re ([]:Str)=true:=rfl;simp only[this,Jc];generalize (Jp.any fun c=>c==b)=a1;cases namN b.toNat<;>cases (b==0)<;>cases (b==45)<;>cases a1<;>cases (x.num==0)<;>cases x.flag<;>rfl
    |cons c s=> simp_all
   |cons c r=>
    have e1:(((b::c::r:Str).length:Int)==1)=false:=Ka.2 (by grind);have e3:((b::c::r:Str)==[45])=false:=by show((b==45)&&false)=_;rw[Gd]
    have e5:delS (b::c::r)=false:=rfl;simp only[e1,e3,e5];simp_all
 have b9:=Ka.2 k9;have hu:(x.unit==[])=true->Re x.unit=true:=fun h=>by rw[Sb]at h;rw[h];rfl
 have htx:(x.text==[])=true->Re x.text=true:=fun h=>by rw[Sb]at h;rw[h];rfl
 rw[<-hb];generalize hl45:(x.text==[45])=a11 at*;generalize (List.isPrefixOf [45,45] x.text)=a12 at*;generalize numS x.text=a3 at*;generalize Re x.text=a1 at*;generalize Re x.unit=a2 at*;generalize (x.text==[])=a4 at*;generalize (x.unit==[])=a5 at*;generalize (x.num==0)=a6 at*;generalize x.flag=a7 at*;generalize decide (-1000000000000<=x.num)=a8 at*;generalize decide (x.num<=1000000000000)=a9 at*;generalize (Int.tmod x.num 1000==0)=a10 at*;clear hb hn hl45;have K: ∀k:Int,k∈[1,2,3,4,5,7,10,11,12]->x.kind=k->True:=fun _ _ _=>trivial;clear K;by_cases k1:x.kind=1
 ·simp only[k1,zX,Ia,Ea,Int.reduceBEq]
  grind
 by_cases k2:x.kind=2
 ·simp only[k2,zX,Ia,Ea,Int.reduceBEq]
  grind
 by_cases k3:x.kind=3
 ·simp only[k3,zX,Ia,Ea,Int.reduceBEq]
  grind
 by_cases k4:x.kind=4
 ·simp only[k4,zX,Ia,Ea,Int.reduceBEq]
  grind
 by_cases k5:x.kind=5
 ·simp only[k5,zX,Ia,Ea,Int.reduceBEq]
  grind
 by_cases k7:x.kind=7
 ·simp only[k7,zX,Ia,Ea,Int.reduceBEq]
  grind
 by_cases k10:x.kind=10
 ·simp only[k10,zX,Ia,Ea,Int.reduceBEq]
  grind
 by_cases k11:x.kind=11
 ·simp only[k11,zX,Ia,Ea,Int.reduceBEq]
  grind
 by_cases k12:x.kind=12
 ·simp only[k12,zX,Ia,Ea,Int.reduceBEq]
  grind
 simp only[b9,Ka.2 k1,Ka.2 k2,Ka.2 k3,Ka.2 k4,Ka.2 k5,Ka.2 k7,Ka.2 k10,Ka.2 k11,Ka.2 k12,zX,Ia,Ea,Bool.or_self];cases decide (13<=x.kind)<;>cases decide (x.kind<=24)<;>cases a4<;>cases a5<;>cases a6<;>cases a7<;>rfl
theorem xC {R:Type} {step:Int->Option (LO Int Unit R)} {k:Unit->Option R} (n:Nat) (p:Nat->Bool) (r:R)
  (c: ∀(i:Nat),i<n->step (i:Int)=some (bif p i then .again ((i+1:Nat):Int)else .ret r)) (a:step (n:Int)=some (.out ())):
  Zb step 0 k=bif (List.range n).all p then k ()else some r:=by
 have e:=Sw (k:=k) (List.range n) (fun i=>bif p i then none else some r) () (fun i b=> ?_) (by simpa using a)
 ·rw[e,gq]
  grind
 grind
def Vy:List zk->Bool
 |[]=>false
 |s::r=>bif s.kind==13 then(match r with|u::_=>u.kind==5|[]=>false)else s.kind==5
def XO:List zk->Bool
 |[]=>false
 |s::_=>s.kind==13
def Ty(t:zk):Bool:=t.kind==2&&lowS t.text==[117,114,108]
def okAt:List zk->Bool
 |[]=>true
 |t::r=>(!(t.kind==9&&t.text==[92])||XO r)&&(!(Ty t)||Vy r)
def ay(l:List zk)(i:Nat):Bool:=Ju (l.getD i default)&&okAt (l.drop i)
def gluS(l:List zk):Int:=bif decide (l.length<=1500)then(bif (List.range l.length).all (ay l)then 0 else 8)else 4
theorem aA(l:List zk)(i:Nat)(k:Int):qb (((i:Int),k),l)=some (match l[i]? with|some t=>t.kind==k|none=>false):=by
 unfold qb;by_cases h:i<l.length
 ·simp only[ZK h,ZN,ZT h,zb,Ba,Ia,Ja h]
 ·have e:decide ((i:Int)<(l.length:Int))=false:=Xb (by omega);simp only[e,qY,zb,Ba,Ea,List.getElem?_eq_none (Nat.le_of_not_lt h)]
theorem jP:lowS [117,114,108]=[117,114,108]:=by decide
theorem xX{t:zk}{r:List zk}(h:t.text.length<=big): ∃n:Int,Ii (t::r)=some n/\(n==0)= !okAt (t::r):=by
 have e0:geti (t::r) 0=some t:=rfl;have p1:=aA (t::r) 1 13;have p15:=aA (t::r) 1 5;have p25:=aA (t::r) 2 5;unfold Ii;simp only[e0,zb,Ba,bV h (show([117,114,108]:Str).length<=big by decide),jP,Zg];simp only[Int.natCast_one]at p1 p15;replace p25:qb ((2,5),t::r)=_:=p25;rw[p1];unfold okAt Ty;cases hd:(t.kind==9&&t.text==[92])with
 |true=>
  have hk:t.kind=9:=by rw[Ca,Sb]at hd;exact hd.1
  have ht:(t.text==[92])=true:=by rw[Ca]at hd;exact hd.2
  simp only[hk,ht,Int.reduceBEq,Ia,Ea,Ba];cases r with
  |nil=>exact⟨_,rfl,rfl⟩
  |cons s r=>
   show∃n:Int,(bif !(s.kind==13)then some 0 else some 2)=some n/\(n==0)= !((!true||s.kind==13)&&_);cases s.kind==13
   ·simp_all
   simp_all
 |false=>
  have hc:(bif t.kind==9 then t.text==[92]else false)=false:=by
   cases h9:t.kind==9
   ·rfl
   ·grind
  simp only[hc,hd,Ea,Ab,Pe,Ya];cases hu:(t.kind==2&&lowS t.text==[117,114,108])with
  |false=>
   have:(bif t.kind==2 then bif t.kind==2 then lowS t.text==[117,114,108]else default else false)=false:=by
    cases h2:t.kind==2
    ·rfl
    ·grind
   rw[this]
   grind
  |true=>
   rw[Ca]at hu;rw[hu.1,hu.2];simp only[Ia,Ba];cases r with
   |nil=>exact⟨0,by simp[p15],rfl⟩
   |cons s r=>
    cases hs:s.kind==13 with
    |false=>
     have e1:(match(t::s::r)[1]? with|some t=>t.kind==13|none=>false)=false:=hs;have e5:qb ((1,5),t::s::r)=some (s.kind==5):=p15;simp only[e1,Ea,zX,e5,Ba,Vy,hs];cases s.kind==5
     ·grind
     ·exact⟨2,by rfl,rfl⟩
    |true=>
     have e1:(match(t::s::r)[1]? with|some t=>t.kind==13|none=>false)=true:=hs;simp only[e1,Ia,zX,p25,Ba,Vy,hs];cases r with
     |nil=>grind
     |cons u r=>
      show∃n:Int,(bif !(u.kind==5)then some 0 else some (w64 (2+1)))=some n/\(n==0)= !(!true||u.kind==5);cases u.kind==5
      ·grind
      ·exact⟨3,rfl,rfl⟩
theorem FV(l:List zk):decide ((l.length:Int)>1500)= !decide (l.length<=1500):=Pp _ 1500
theorem CY{l:List zk}(h: ∀t∈l,t.text.length<=big/\t.unit.length<=big):Qo l=some (gluS l):=by
 unfold Qo gluS;rw[FV];cases e:decide (l.length<=1500)with
 |false=>rfl
 |true=>
  have e:=Bb e;simp only[Jb,Ea,Ia];refine(xC l.length (ay l) 8 (fun i a=> ?_) ?_).trans ?_
  ·obtain⟨d,j⟩:=h _ (Ib a);have b:l.getD i default=l[i]:=by simp[a]
   have c:=ja a;obtain⟨n,f,k⟩:=xX (t:=l[i]) (r:=l.drop (i+1)) d;rw[<-c]at f k;have g:decide ((i:Int)<=(l.length:Int))=true:=Va (by omega);unfold ay;simp only[ZK a,Ia,ZT a,zb,Ba,vW d j,Hz,g,Ya,Pe,Qy,ib,f,Zg,Zo a (show l.length<=big by unfold big;omega),b]
   grind
  ·grind
  grind
theorem bu(n m:Int):decide (n>=m)= !decide (n<m):=by
 grind
def zL{α:Type}(f:α->List PV)(l:List α):Nat:=Mj (l.map f)
theorem Ou{α:Type}(f:α->List PV):zL f []=0:=rfl
theorem yh{α:Type}(f:α->List PV)(v:α)(l:List α):zL f (v::l)=zF (f v)+zL f l:=rfl
theorem NG{α:Type}{f:α->List PV}{v:α}: ∀{l:List α},v∈l->zF (f v)<=zL f l
 |[],h=>by cases h
 |x::l,h=>by
  rw[yh];rcases Ua.1 h with rfl|h
  ·omega
  ·have:=NG (f:=f) h;omega
theorem OG{α:Type}{f:α->List PV}(a: ∀v,1<=zF (f v)): ∀(l:List α),l.length<=zL f l
 |[]=>La _
 |v::l=>by rw[yh,Db];have:=OG a l;grind
theorem xR(x:ze):zF (zY x)=6+x.token.text.length+x.token.unit.length+zL zY x.list:=by rw[cZ];simp only[zF,bPV,zL];omega
mutual
/-- How large values are. -/
def szV:ze->Nat
 |⟨t,l⟩=>1+t.text.length+t.unit.length+szL l
def szL:List ze->Nat
 |[]=>0
 |v::r=>szV v+szL r
end
theorem Xh(v:ze):szV v=1+v.token.text.length+v.token.unit.length+szL v.list:=by obtain⟨t,l⟩:=v;rw[szV]
theorem Yi{v:ze}: ∀{l:List ze},v∈l->szV v<=szL l
 |[],h=>by cases h
 |x::l,h=>by
  rw[szL];rcases Ua.1 h with rfl|h
  ·omega
  ·have:=Yi h;omega
theorem Dh: ∀(l:List ze),l.length<=szL l
 |[]=>La _
 |v::r=>by rw[szL,Xh,Db];have:=Dh r;omega
theorem UQ(n:Nat):decide ((n:Int)>0)=decide (0<n):=by
 grind
theorem YV(k:Int):Ns k=some (Zu k):=by
 unfold Ns Zu;by_cases b:k=19
 ·subst b;rfl
 by_cases d:k=21
 ·subst d;rfl
 by_cases c:k=2
 ·subst c;rfl
 by_cases a:k=23
 ·subst a;rfl
 have g:(k==19)=false:=Ka.2 b;have h:(k==21)=false:=Ka.2 d;have e:(k==2)=false:=Ka.2 c;have f:(k==23)=false:=Ka.2 a;simp only[g,h,e,f,Ea,zX,b,d,c,a,if_false,or_self]
theorem WE(k:Int):qI k=some (Zu k):=by
 unfold qI Zu;by_cases b:k=19
 ·subst b;rfl
 by_cases d:k=21
 ·subst d;rfl
 by_cases c:k=2
 ·subst c;rfl
 by_cases a:k=23
 ·subst a;rfl
 have g:(k==19)=false:=Ka.2 b;have h:(k==21)=false:=Ka.2 d;have e:(k==2)=false:=Ka.2 c;have f:(k==23)=false:=Ka.2 a;simp only[g,h,e,f,Ea,zX,b,d,c,a,if_false,or_self]
mutual
/-- The depth of values. -/
def yg:ze->Nat
 |⟨t,l⟩=>if Zu t.kind=0 then 0 else 1+Te l
def Te:List ze->Nat
 |[]=>0
 |v::r=>max (yg v) (Te r)
end
theorem NH(v:ze):yg v=if Zu v.token.kind=0 then 0 else 1+Te v.list:=by obtain⟨t,l⟩:=v;rw[yg]
mutual
theorem uS: ∀v:ze,yg v<=szV v
 |⟨t,l⟩=>by rw[yg,szV];have:=wm l;split<;>omega
theorem wm: ∀l:List ze,Te l<=szL l
 |[]=>La _
 |v::r=>by rw[Te,szL];have:=uS v;have:=wm r;omega
end
theorem EJ(f:ze->Nat): ∀(l:List ze) (a:Nat),l.foldl (fun a v=>max a (f v)) a=max a (l.foldr (fun v a=>max (f v) a) 0)
 |[],a=>by simp
 |v::l,a=>by rw[Mf,EJ f l,List.foldr_cons];omega
theorem OH: ∀(l:List ze),Te l=l.foldr (fun v a=>max (yg v) a) 0
 |[]=>by rw[Te];rfl
 |v::l=>by rw[Te,OH l];rfl
theorem vQ{l:List ze}(h:szL l<=big):Rh l=some (Te l:Int):=by
 refine Nk (fun l=>szL l) (fun l=>szL l<=big) (fun l=>(Te l:Int)) (fun S l n j=> ?_) h;unfold Lx;have e:=Dh l;refine(KT l (fun i (a:Nat)=>((a:Int),(i:Int))) (fun v a=>some (.again (max a (yg v)))) (fun a=>some (.out (a:Int))) (a:=0) rfl (fun i a b=> ?_) (fun a=> ?_) (r:= .out (Te l:Int)) ?_)
 ·have f:=Yi (Ib b);have k:=Xh l[i];have c:=NH l[i];have g:=wm l[i].list;simp only[ZK b,Ia,zb,ZT b,Ba,YV];by_cases d:Zu l[i].token.kind=0
  ·rw[Na d]at c;simp[d,c,Zo b (by omega)]
  ·rw[Ra d]at c;rw[j l[i].list (by omega) (by omega)];have m:w64 (1+(Te l[i].list:Int))=((1+Te l[i].list:Nat):Int):=by rw[w64,ZG (by omega) (by grind)];omega
   simp only[bne_iff_ne.2 d,Ia,Ba,zX,Zo b (by omega),m,c,Be]
   grind
 ·grind
 ·rw[Rn (fun a v=>max a (yg v)) (fun v a=>rfl),EJ,<-OH];simp
theorem Pv{l:List ze}: ∀{i:Nat} (h:i<l.length),szL (l.take (i+1))=szL (l.take i)+szV l[i]:=by
 induction l with
 |nil=>grind
 |cons v r a=>
  intro i h;cases i with
  |zero=>simp[szL]
  |succ i=>
   simp only[Jd,szL,List.getElem_cons_succ]
   grind
theorem jw(l:List ze)(i:Nat):szL (l.take i)<=szL l:=by
 induction l generalizing i with
 |nil=>simp
 |cons v r a=>
  cases i with
  |zero=>simp[szL]
  |succ i=>simp only[Jd,szL];grind
mutual
/-- The tokens of values. -/
def tokV:ze->List zk
 |⟨t,l⟩=>t::if Zu t.kind=0 then []else tokL l++[⟨Zu t.kind,[],0,[],false⟩]
def tokL:List ze->List zk
 |[]=>[]
 |v::r=>tokV v++tokL r
end
theorem GA(v:ze):tokV v=v.token::if Zu v.token.kind=0 then []else tokL v.list++[⟨Zu v.token.kind,[],0,[],false⟩]:=by obtain⟨t,l⟩:=v;rw[tokV]
mutual
theorem tu: ∀v:ze,(tokV v).length<=2*szV v
 |⟨t,l⟩=>by
  rw[tokV,szV];have:=Nq l
  grind
theorem Nq: ∀l:List ze,(tokL l).length<=2*szL l
 |[]=>La _
 |v::r=>by rw[tokL,szL,Sa];have:=tu v;have:=Nq r;omega
end
theorem wB: ∀(l:List ze) (a:List zk),l.foldl (fun a v=>a++tokV v) a=a++tokL l
 |[],a=>by simp[tokL]
 |v::l,a=>by rw[Mf,wB l,tokL,Sd]
mutual
/-- Whether lists are those of blocks, and have not their closers. -/
def shV:ze->Int->Bool
 |⟨t,l⟩,c=> !((Zu t.kind==0&&decide (0<l.length))||(c != 0&&t.kind==c)||(Zu t.kind != 0&& !(shL l (Zu t.kind))))
def shL:List ze->Int->Bool
 |[],_=>true
 |v::r,c=>shV v c&&shL r c
end
theorem MP(v:ze)(c:Int):shV v c= !((Zu v.token.kind==0&&decide (0<v.list.length))||(c != 0&&v.token.kind==c)||(Zu v.token.kind != 0&& !(shL v.list (Zu v.token.kind)))):=by obtain⟨t,l⟩:=v;rw[shV]
def Ti(l:List ze)(c:Int):zy:=⟨Te l,(tokL l).length, !(shL l c)⟩
theorem RI(c:Int): ∀(l:List ze) (a:Nat×Nat×Bool),l.foldl (fun a v=>(max a.1 (yg v),a.2.1+(tokV v).length,a.2.2|| !(shV v c))) a=(max a.1 (Te l),a.2.1+(tokL l).length,a.2.2|| !(shL l c))
 |[],a=>by simp[Te,tokL,shL]
 |v::l,a=>by
  rw[Mf,RI c l,Te,tokL,shL,Sa];simp only[Prod.mk.injEq]
  grind
theorem PR(a b:Bool):(bif a then true else b)=(a||b):=by cases a<;>rfl
theorem jR(a b:Bool):(bif a then b else false)=(a&&b):=by cases a<;>rfl
theorem YK{l:List ze}{c:Int}(h:szL l<=big):qc (l,c)=some (Ti l c):=by
 refine Nk (fun x:List ze×Int=>szL x.1) (fun x=>szL x.1<=big) (fun x=>Ti x.1 x.2) (fun S x C E=> ?_) h;obtain⟨l,c⟩:=x;simp only at C E ⊢;unfold Yn;have B:=Dh l;refine(um l (fun i (a:Nat×Nat×Bool)=>((i:Int),(⟨(a.1:Int),(a.2.1:Int),a.2.2⟩:zy))) (fun v a=>some (.again (max a.1 (yg v),a.2.1+(tokV v).length,a.2.2|| !(shV v c)))) (fun a=>some (.out (⟨(a.1:Int),(a.2.1:Int),a.2.2⟩:zy))) (fun i a=>a.2.1<=2*szL (l.take i)) (a:=(0,0,false)) rfl (by simp) (fun i a j J=> ?_) (fun a _=> ?_) (r:= .out (Ti l c)) ?_)
 ·have N:=Yi (Ib j);have H:=Xh l[i];have m:=NH l[i];have O:=wm l[i].list;have o:=GA l[i];have P:=Nq l[i].list;have e:=MP l[i] c;have K:=Pv j;have G:=jw l (i+1);have Q:=tu l[i];have w:szL l[i].list<=big:=by omega
  have y:szL l[i].list<szL l:=by omega
  have p:S (l[i].list,Zu l[i].token.kind)=some (Ti l[i].list (Zu l[i].token.kind)):=E (l[i].list,Zu l[i].token.kind) w y;obtain⟨d,n,b⟩:=a;simp only at J;have D:=Zo j (by omega);unfold big at C;have u:w64 ((n:Int)+1)=((n+1:Nat):Int):=by rw[w64,ZG (by omega) (by omega)];omega
  refine⟨?_,fun R T=> ?_⟩
  ·have L:decide ((l[i].list.length:Int)>0)=decide (0<l[i].list.length):=UQ _;simp only[ZK j,Ia,zb,ZT j,Ba,WE,Be,u,bne,L,PR,jR];by_cases k:Zu l[i].token.kind=0
   ·rw[Na k]at m o;simp only[k,beq_self_eq_true,Ya,Jb,Oc,Ed,bne]at e ⊢;rw[e,m,o];rcases Ae (decide (0<l[i].list.length))with F|F<;>rcases Ae (c==0)with g|g<;>rcases Ae (l[i].token.kind==c)with f|f<;>
     simp[F,g,f,D,Ia,Ea]
   ·rw[Ra k]at m o;have s:(Zu l[i].token.kind==0)=false:=Ka.2 k;have z:w64 ((Te l[i].list:Int)+1)=((1+Te l[i].list:Nat):Int):=by rw[w64,ZG (by omega) (by omega)];omega
    have t:w64 (((n+1:Nat):Int)+((tokL l[i].list).length:Int))=((n+1+(tokL l[i].list).length:Nat):Int):=by rw[w64,ZG (by omega) (by omega)];omega
    have A:w64 (((n+1+(tokL l[i].list).length:Nat):Int)+1)=((n+(1+((tokL l[i].list).length+1)):Nat):Int):=by rw[w64,ZG (by omega) (by omega)];omega
    have q:(tokV l[i]).length=1+((tokL l[i].list).length+1):=by rw[o];simp;omega
    have M:(if((1+Te l[i].list:Nat):Int)>(d:Int)then((1+Te l[i].list:Nat):Int)else(d:Int))=((max d (1+Te l[i].list):Nat):Int):=by split<;>omega
    rw[e,m,q];simp only[s,p,Oc,Ab,Ya,Ed,Ud,Ea,bne,Ba,Ti];rcases Ae (c==0)with g|g<;>rcases Ae (l[i].token.kind==c)with f|f<;>
     simp only[g,f,D,z,t,A,M,Ia,Ea,zX,Jb,Ab,Ya,Jc,Gd,Oc,Bool.or_true,Ed,Pe,Ud,bf]
  grind
 ·grind
 ·rw[Rn (fun a v=>(max a.1 (yg v),a.2.1+(tokV v).length,a.2.2|| !(shV v c))) (fun v a=>rfl),RI];simp[Ti]
theorem NQ{a b:List ze}(h:a.Sublist b):szL a<=szL b:=by
 induction h with
 |slnil=>grind
 |cons v _ c=>rw[szL];omega
 |cons_cons v _ c=>rw[szL,szL];omega
theorem MK(l:List ze):l=[]\/ ∃t v,l=t++[v]:=by
 rcases List.eq_nil_or_concat l with h|⟨t,v,h⟩
 ·exact .inl h
 grind
def isSp(v:ze):Bool:=v.token.kind==13
def trimB(l:List ze):List ze:=(l.reverse.dropWhile isSp).reverse
theorem yT:trimB []=[]:=rfl
theorem Ow(t:List ze)(v:ze):trimB (t++[v])=if isSp v then trimB t else t++[v]:=by
 unfold trimB;rw[List.reverse_append];simp only[List.reverse_cons,List.reverse_nil,Rc,Dc,Ld]
 grind
theorem Dw(l:List ze):(trimB l).Sublist l:=by
 unfold trimB
 grind
def trimS(l:List ze):List ze:=trimB (l.dropWhile isSp)
theorem Cv(p:ze->Bool): ∀(l:List ze),l.drop (l.length - (l.dropWhile p).length)=l.dropWhile p
 |[]=>rfl
 |v::r=>by
  rw[Ld];split
  ·have h:=List.Sublist.length_le (Cf p (l:=r));rw[Db,Nat.succ_sub h,List.drop_succ_cons];exact Cv p r
  ·simp
def errS(l:List ze):Int:=if 16<Te l then 20 else if 1500<(tokL l).length then 4 else if shL l 0 then 0 else 8
theorem XC{l:List ze}(h:szL l<=big):Zv l=some (errS l):=by
 unfold Zv errS;simp only[zb,YK h,Ba,Ti]
 grind
theorem kV{l:List ze}(h:szL l<=big):Tk l=some (if errS l=0 then((Te l:Int),0)else(0,errS l)):=by
 unfold Tk;simp only[zb,XC h,YK h,Ba,Ti]
 grind
theorem Xz: ∀l:List ze,szL l<=zL zY l:=by
 have a: ∀(n:Nat) (l:List ze),zL zY l<n->szL l<=zL zY l:=by
  intro n
  induction n with
  |zero=>intro l h;omega
  |succ n d=>
   intro l
   induction l with
   |nil=>intro _;rw[szL];grind
   |cons v l b=>
    intro h;rw[yh]at h ⊢;rw[szL,Xh];have c:=xR v
    grind
 grind
theorem jS{l:List ze}{a:List zk}(h:szL l<=big)(e:a.length+2*szL l<=4*big):Zy (l,a)=some (a++tokL l):=by
 refine Nk (fun z=>szL z.1) (fun z=>szL z.1<=big/\z.2.length+2*szL z.1<=4*big) (fun z=>z.2++tokL z.1) (fun S z q s=> ?_) (x:=(l,a)) ⟨h,e⟩;obtain⟨l,a⟩:=z;obtain⟨h,e⟩:=q;have h:szL l<=big:=h;have e:a.length+2*szL l<=4*big:=e;have j:=Dh l;unfold Xo;refine(um l (fun i (b:List zk)=>((i:Int),b)) (fun v b=>some (.again (b++tokV v))) (fun b=>some (.out b)) (fun i b=>b.length<=a.length+2*szL (l.take i)) (a:=a) rfl (by simp) (fun i b d A=> ?_) (fun b _=> ?_) (r:= .out (a++tokL l)) ?_).trans rfl
 ·have o:=Yi (Ib d);have y:=Xh l[i];have f:=GA l[i];have p:=Nq l[i].list;have B:=Pv d;have u:=jw l (i+1);have w:=tu l[i];unfold big at h e;have c: ∀n m:Nat,n+m<=100000000->zQ n m 56=true:=fun n m h=>ji (by omega);refine⟨?_,fun C k=> ?_⟩
  ·simp only[ZK d,Ia,zb,ZT d,Ba,WE];by_cases g:Zu l[i].token.kind=0
   ·rw[Na g]at f;simp[g,f,Zo d (by unfold big;omega),c b.length 1 (by omega)]
   ·rw[Ra g]at f;rw[s (l[i].list,b++[l[i].token]) ⟨by grind,by grind⟩ (by grind)];have t:(Zu l[i].token.kind != 0)=true:=bne_iff_ne.2 g;simp[t,f,Zo d (by unfold big;omega),c b.length 1 (by omega),c (b.length+((tokL l[i].list).length+1)) 1 (by omega)]
  ·grind
 ·grind
 ·rw[Rn (fun a v=>a++tokV v) (fun v a=>rfl),wB]
theorem kS{l:List ze}(h:szL l<=big):QJ l=some (tokL l):=by
 have g:=Dh l;unfold QJ;refine(um l (fun i (b:List zk)=>((i:Int),b)) (fun v b=>some (.again (b++tokV v))) (fun b=>some (.out b)) (fun i b=>b.length<=2*szL (l.take i)) (a:=[]) rfl (by simp) (fun i b d u=> ?_) (fun b _=> ?_) (r:= .out (tokL l)) ?_).trans rfl
 ·have k:=Yi (Ib d);have t:=Xh l[i];have e:=GA l[i];have o:=Nq l[i].list;have w:=Pv d;have q:=jw l (i+1);have s:=tu l[i];unfold big at h;have c: ∀n m:Nat,n+m<=100000000->zQ n m 56=true:=fun n m h=>ji (by omega);refine⟨?_,fun x j=> ?_⟩
  ·simp only[ZK d,Ia,zb,ZT d,Ba,WE];by_cases f:Zu l[i].token.kind=0
   ·rw[Na f]at e;simp[f,e,Zo d (by unfold big;omega),c b.length 1 (by omega)]
   ·rw[Ra f]at e;rw[jS (a:=b++[l[i].token]) (show szL l[i].list<=big by unfold big;omega) (by grind)];have p:(Zu l[i].token.kind != 0)=true:=bne_iff_ne.2 f;simp[p,e,Zo d (by unfold big;omega),c b.length 1 (by omega),c (b.length+((tokL l[i].list).length+1)) 1 (by omega)]
  ·grind
 ·grind
 ·rw[Rn (fun a v=>a++tokV v) (fun v a=>rfl),wB];simp
theorem lW{l:List ze}(h:szL l<=big):Rk l=some (if errS l=0 then(tokL l,0)else([],errS l)):=by
 unfold Rk;simp only[XC h,zb,Ba];by_cases he:errS l=0
 ·have:(errS l != 0)=false:=by rw[he];rfl
  rw[this,Ea,kS h,Na he];rfl
 grind
end Go.Lv.VT

namespace Go.Lv
theorem Le.lp{S X R:Type}{step step':S->Option (LO S X R)}{s:S}{k k':X->Option R}(h: ∀s,Le (step s) (step' s))(hk: ∀x,Le (k x) (k' x)):Le (Zb step s k) (Zb step' s k'):=by
 intro y hy;unfold Zb at hy;cases hl:vg step s with
 |none=>rw[hl]at hy;cases hy
 |some r=>
  rw[hl]at hy;obtain⟨n,hn⟩:=JJ hl;rw[Ph (Fh (NB h n s r hn))];cases r with
  |out x=>exact hk x y hy
  |ret r=>exact hy
def Dp{X Y:Type}(B:(X->Option Y)->X->Option Y):Prop:= ∀S S':X->Option Y,(∀x,Le (S x) (S' x))-> ∀x,Le (B S x) (B S' x)
theorem Rv {X Y:Type} {B:(X->Option Y)->X->Option Y} (hm:Dp B) (μ:X->Nat) (ok:X->Prop) (R:X->Y->Prop)
  (hB: ∀(S:X->Option Y) (x:X),ok x->(∀z,ok z->μ z<μ x-> ∃y,S z=some y/\R z y)-> ∃y,B S x=some y/\R x y) {x:X} (hx:ok x): ∃y,recE B x=some y/\R x y:=by
 have step: ∀n x,Le (Ef B n x) (Ef B (n+1) x):=by
  intro n
  induction n with
  |zero=>intro x;exact Le.none
  |succ n ih=>intro x;exact hm _ _ ih x
 have up: ∀d n x,Le (Ef B n x) (Ef B (n+d) x):=by
  intro d
  induction d with
  |zero=>intro n x;exact Le.rfl
  |succ d ih=>intro n x y hy;exact step _ x y (ih n x y hy)
 have key: ∀(m:Nat) (x:X),μ x<m->ok x-> ∃y,Ef B m x=some y/\R x y:=by
  intro m
  induction m with
  |zero=>intro x h;omega
  |succ m ih=> intro x hm hok;exact hB _ x hok fun z hz hlt=>ih z (by omega) hz
 obtain⟨y,h1,h2⟩:=key (μ x+1) x (by omega) hx;refine⟨y,BB (N:=μ x+1) fun n hn=> ?_,h2⟩;obtain⟨d,rfl⟩:=Nat.le.dest hn;exact up d _ x y h1
theorem jv {A S X R:Type} {step:S->Option (LO S X R)} {k:X->Option R} (n:Nat) (st:Nat->A->S) (Inv:Nat->A->Prop) (Q:R->Prop) {s0:S} {a0:A} (h0:s0=st 0 a0) (hI:Inv 0 a0)
  (hg: ∀(i:Nat) (a:A),i<n->Inv i a->(∃a',step (st i a)=some (.again (st (i+1) a'))/\Inv (i+1) a')\/(∃r,step (st i a)=some (.ret r)/\Q r)\/(∃x,step (st i a)=some (.out x)/\ ∃r,k x=some r/\Q r))
  (hf: ∀a,Inv n a->(∃x,step (st n a)=some (.out x)/\ ∃r,k x=some r/\Q r)\/(∃r,step (st n a)=some (.ret r)/\Q r)): ∃r,Zb step s0 k=some r/\Q r:=by
 have key: ∀(m i:Nat) (a:A),i+m=n->Inv i a-> ∃j x,qG step j (st i a)=some x/\ ∃r,LX.go x k=some r/\Q r:=by
  intro m
  induction m with
  |zero=>
   intro i a hi ha;obtain rfl:i=n:=by omega
   rcases hf a ha with⟨x,h1,r,h2,h3⟩|⟨r,h1,h2⟩
   ·exact⟨1, .out x,by simp only[qG,h1],r,h2,h3⟩
   ·exact⟨1, .ret r,by simp only[qG,h1],r,rfl,h2⟩
  |succ m ih=>
   intro i a hi ha;rcases hg i a (by omega) ha with⟨a',h1,h2⟩|⟨r,h1,h2⟩|⟨x,h1,r,h2,h3⟩
   ·obtain⟨j,x,g1,g2⟩:=ih (i+1) a' (by omega) h2;exact⟨j+1,x,by simp only[qG,h1];exact g1,g2⟩
   ·exact⟨1, .ret r,by simp only[qG,h1],r,rfl,h2⟩
   ·exact⟨1, .out x,by simp only[qG,h1],r,h2,h3⟩
 obtain⟨j,x,h1,r,h2,h3⟩:=key n 0 a0 (by omega) hI;refine⟨r,?_,h3⟩;rw[h0,Ph (Fh h1),h2]
namespace VT
def mx{α:Type}(f:α->Nat):List α->Nat
 |[]=>0
 |v::l=>max (f v) (mx f l)
theorem bG(a b:Nat):(if(b:Int)>(a:Int)then(b:Int)else(a:Int))=((max a b:Nat):Int):=by split<;>omega
end VT
end Go.Lv

namespace Go.Lv.VT
set_option maxRecDepth 100000
theorem Ei{α:Type}(l:List α):((l.length:Int)==0)=l.isEmpty:=by
 cases l with
 |nil=>rfl
 |cons a l=>exact Ka.2 (by simp only[Db];omega)
theorem Iw(v:ze):(⟨v.token,v.list⟩:ze)=v:=by cases v;rfl
def Bl(x:Str):Bool:= !(x==[])&&(decide (x.length<=64)&&(Re x&&(bif List.isPrefixOf [45,45] x then !(x==[45,45])else lowS x==x)))
theorem FY{x:Str}(h:x.length<=big):Vk x=some (Bl x):=by
 have e:decide ((x.length:Int)>64)= !decide (x.length<=64):=Pp _ 64;have e1:decide (Lib.indexByte x (0:Int).toNat.toUInt8>=0)= !Re x:=xA x;have ec:=BJ x (lowS x);unfold Vk Bl;simp only[lD,Zg,zb,Ba,uw,Rw h,e,ec];cases x==[]<;>cases decide (x.length<=64)<;>try rfl
 simp only[Ia,Ea,Jb,Ab,Ya,Ed,e1];cases Re x<;>cases List.isPrefixOf [45,45] x<;>rfl
def clK(v:ze):Bool:=v.token.kind==20||(v.token.kind==22||v.token.kind==24)
mutual
def clV:ze->Bool
 |⟨t,l⟩=>clK ⟨t,l⟩||clL l
def clL:List ze->Bool
 |[]=>false
 |v::r=>clV v||clL r
end
theorem dQ(v:ze):clV v=(clK v||clL v.list):=by obtain⟨t,l⟩:=v;rw[clV]
theorem UR(l:List ze):clL l=l.any clV:=by
 induction l with
 |nil=>rw[clL];rfl
 |cons v l ih=>rw[clL,ih];rfl
theorem X0{l:List ze}(h:szL l<=big):zq l=some (clL l):=by
 refine Nk (fun l=>szL l) (fun l=>szL l<=big) (fun l=>clL l) (fun S l hl hS=> ?_) h;have hlen:=Dh l;unfold Uo Zh ZC;have:=Aw (kv (step:=fun(s1:Int)=>
   bif decide (s1<(l.length:Int))then
    zb (geti l s1) fun y2=>
    zb (qP S (⟨y2.token,y2.list⟩:ze)) fun y3=>
    bif y3 then some (LO.ret s1)else some (LO.again (w64 (s1+1)))
   else some (LO.out ())) l clV (by omega) (fun i hi=> ?_) ?_) (mq _ _)
 ·rw[this,UR];rfl
 ·have hsz:=Yi (Ib hi);have hv2:=Xh l[i];have hs:=hS l[i].list (by omega) (by omega);have:qP S l[i]=some (clV l[i]):=by unfold qP Zq;simp only[Iw,Zg,zb,Ba,hs,dQ,clK];cases l[i].token.kind==20<;>cases l[i].token.kind==22<;>cases l[i].token.kind==24<;>rfl
  simp only[ZK hi,Ia,ZT hi,zb,Ba,Iw,this]
 ·simp only[QY,Ea]
def Lj(l:List ze):Bool:=match l with
 |[]=>false
 |v::r=>isSp v||isSp ((v::r).getLast (by simp))
theorem IV(t:List ze)(v:ze):Lj (t++[v])=((match t with|[]=>isSp v|a::_=>isSp a)||isSp v):=by
 cases t with
 |nil=>rfl
 |cons a t=> show(isSp a||isSp ((a::(t++[v])).getLast _))=_;congr 2;have:(a::(t++[v]))=(a::t)++[v]:=rfl;simp only[this,List.getLast_append_of_ne_nil,List.getLast_singleton,ne_eq,reduceCtorEq,ae]
theorem kI(l:List ze):(trimB l).length<=l.length:=(Dw l).length_le
theorem VV(l:List ze):((trimS l).length==l.length)= !Lj l:=by
 rcases MK l with rfl|⟨t,v,rfl⟩
 ·rfl
 ·rw[IV];have hl:(t++[v]).length=t.length+1:=by simp
  cases t with
  |nil=>
   show((trimB (List.dropWhile isSp [v])).length==1)= !(isSp v||isSp v);cases hv:isSp v with
   |true=>simp only[Ld,hv];rfl
   |false=> simp only[Ld,hv];have:=Ow [] v;rw[hv]at this;show((trimB [v]).length==1)=true;rw[show trimB [v]=[v]from this];rfl
  |cons a t=>
   show((trimB (List.dropWhile isSp (a::(t++[v])))).length==_)= !(isSp a||isSp v);have hb:=kI (List.dropWhile isSp (a::(t++[v])));cases ha:isSp a with
   |true=> simp only[Ld,ha,if_true]at hb ⊢;have hd:=(Cf isSp (l:=t++[v])).length_le;rw[Pe,Jb,Ka];rw[hl,Db];rw[Sa,List.length_singleton]at hd;omega
   |false=>
    have e:List.dropWhile isSp (a::(t++[v]))=(a::t)++[v]:=by rw[Ld,ha];rfl
    rw[e,Ow];cases hv:isSp v with
    |true=> have:=kI (a::t);rw[Na rfl,Bool.or_true,Jb,Ka,hl];omega
    |false=>simp
theorem kU{l:List ze}(h:l.length<=big)(g:Bool)(hg:(l.isEmpty&&g)=false)(k:Bool->Option Int):
  (zb (zw (decide ((l.length:Int)>0)&& !g) (geti l 0) (default:ze)) fun y7=>
   zb (zw (decide ((l.length:Int)>0)&& !g) (Zq ((⟨y7.token,y7.list⟩:ze),13)) (default:Bool)) fun y8=>
   zb (zw (!y8&&(decide ((l.length:Int)>0)&& !g)) (geti l (w64 ((l.length:Int) - 1))) (default:ze)) fun y9=>
   zb (zw (!y8&&(decide ((l.length:Int)>0)&& !g)) (Zq ((⟨y9.token,y9.list⟩:ze),13)) (default:Bool)) fun y10=>
   k (bif decide ((l.length:Int)>0)then bif y8 then true else y10 else false))=(if g=true/\l≠[]then(k (bif decide ((l.length:Int)>0)then bif (default:Bool)then true else(default:Bool)else false))else k (Lj l)):=by
 cases l with
 |nil=> have:decide ((([]:List ze).length:Int)>0)=false:=rfl;simp only[this,Oc,qY,zb,Ba,Gd,Ea,ne_eq,not_true_eq_false,and_false,if_false,Lj]
 |cons v r=>
  have e1:decide (((v::r).length:Int)>0)=true:=Va (by simp only[Db];omega);have e2:geti (v::r) 0=some v:=rfl;cases g with
  |true=>simp only[e1,Jb,Gd,qY,zb,Ba,Ia,ne_eq,reduceCtorEq,ae,and_self,if_true]
  |false=>
   simp only[e1,Ab,Jc,ZN,zb,Ba,Ia,e2,Zq,false_and,if_false,reduceCtorEq];have e3:w64 (((v::r).length:Int) - 1)=(r.length:Int):=by rw[Db]at h ⊢;rw[w64,ZG (by omega) (by unfold big at h;omega)];omega
   have e4:geti (v::r) (r.length:Int)=some ((v::r).getLast (by simp)):=by rw[ZT (by simp),List.getLast_eq_getElem];simp
   rw[e3,e4];simp only[Zg,Ba,Lj,isSp];cases v.token.kind==13<;>rfl
def badV(v:ze):Bool:=v.token.kind==17||(v.token.kind==9&&v.token.text==[33])
def Fu(custom:Bool)(l:List ze):Bool:= !(l.any badV)&&(!(l.isEmpty&& !custom)&& !Lj l)
def Jg(d:zA):Bool:=Bl d.name&&(errS d.value==0&&(gluS (tokL d.value)==0&&(!clL d.value&&Fu (List.isPrefixOf [45,45] d.name) d.value)))
mutual
theorem oQ: ∀(v:ze) (t:zk),t∈tokV v->t.text.length<=szV v/\t.unit.length<=szV v
 |⟨t,l⟩,u,h=>by
  rw[tokV]at h;rw[szV];rcases Ua.1 h with rfl|h
  ·constructor<;>omega
  ·split at h
   ·cases h
   ·rcases Tc.1 h with h|h
    ·have:=MB l u h;omega
    ·obtain rfl:=Pb.1 h;exact⟨Ec _,Ec _⟩
theorem MB: ∀(l:List ze) (t:zk),t∈tokL l->t.text.length<=szL l/\t.unit.length<=szL l
 |[],_,h=>by rw[tokL]at h;cases h
 |v::r,u,h=>by
  rw[tokL]at h;rw[szL];rcases Tc.1 h with h|h
  ·have:=oQ v u h;omega
  ·have:=MB r u h;omega
end
theorem bS{l:List ze}(h:szL l<=big):Qo (tokL l)=some (gluS (tokL l)):=
 CY fun t ht=>by have:=MB l t ht;omega
theorem rX{l:List ze}(h:l.length<=big):zW l=some (l.any badV):=by
 unfold zW Zm;refine Aw (kv l badV h (fun i hi=> ?_) ?_) (mq _ _)
 ·have:Io l[i]=some (badV l[i]):=by unfold Io Jk Zq badV;simp only[Iw,Zg,zb,Ba];cases l[i].token.kind==17<;>cases l[i].token.kind==9<;>rfl
  simp only[ZK hi,Ia,ZT hi,zb,Ba,Iw,this]
 ·simp only[QY,Ea]
theorem GY{d:zA}(hv:szL d.value<=big)(hn:d.name.length<=big):Qn d=some (bif Jg d then 0 else 8):=by
 have hlen:=Dh d.value;unfold Qn Jg;rw[lW hv];simp only[zb,Ba,FY hn];cases Bl d.name with
 |false=>simp only[Ab,Ia,Jb,qY,Ba,Oc,Ea]
 |true=>
  by_cases he:errS d.value=0
  ·rw[Na he];have he':(errS d.value==0)=true:=Sb.2 he;have this:((0:Int)==0)=true:=rfl;simp only[he',this,Jb,Ea,Ab,ZN,bS hv,Ba,Ya,bne];cases hg:gluS (tokL d.value)==0 with
   |false=>simp only[Ab,Ia,Jb,qY,Ba,Oc,Ea]
   |true=>
    simp only[Jb,Ea,Ab,ZN,X0 hv,Ba,Ya];cases clL d.value with
    |true=>rfl
    |false=>
     simp only[Ea,rX (show d.value.length<=big by omega),Ba,Fu,Ab,Ya];cases d.value.any badV with
     |true=>rfl
     |false=>
      simp only[Ea,uw,Zg,Ba,Ei,Ab,Ya];have hp:=kU (l:=d.value) (by omega) (bif d.value.isEmpty then !(bif d.value.isEmpty then List.isPrefixOf [45,45] d.name else default)else false);cases hd:d.value with
      |nil=>
       cases List.isPrefixOf [45,45] d.name<;>rfl
      |cons v r=> have hp':=hp (by rw[hd];rfl) (fun b=>bif b then some 8 else some 0);rw[hd]at hp';simp only[List.isEmpty_cons,Ea,Bool.false_eq_true,false_and,if_false]at hp';simp only[List.isEmpty_cons,Ea,Oc,Ab,Ya];refine Eq.trans hp' ?_;cases Lj (v::r)<;>rfl
  ·rw[Ra he];have he':(errS d.value==0)=false:=Ka.2 he;simp only[he',bne,Jb,Ea,Ab,Ia,qY,Ba,Oc,Gd]
theorem Y2:Dp Eo:=by intro qU ref10_Size' h_ref10_Size x;unfold Eo;exact(.lp (fun _=>(.bif (.bind .rfl fun _=>(.bind (h_ref10_Size _) fun _=> .rfl)) .rfl)) fun _=> .rfl)
theorem vZ:Dp Ho:=by intro qR ref04_Size' h_ref04_Size x;unfold Ho;exact(.lp (fun _=>(.bif (.bind .rfl fun _=>(.bind .rfl fun _=>(.bind .rfl fun _=>(.bind (h_ref04_Size _) fun _=> .rfl)))) .rfl)) fun _=> .rfl)
theorem U2:Dp Co:=by intro Q0 ref10_long' h_ref10_long x;unfold Co;exact(.bind .rfl fun _=>(.bif .rfl (.lp (fun _=>(.bif (.bind .rfl fun _=>(.bind (h_ref10_long _) fun _=>(.bif .rfl .rfl))) .rfl)) fun _=> .rfl)))
theorem NZ:Dp Gj:=by intro ZW cond_look' h_cond_look x;unfold Gj;exact(.bif .rfl (.bif (.bind .rfl fun _=>(.bind .rfl fun _=> .rfl)) (.bif (.bind .rfl fun _=> .rfl) (.join (.bif .rfl (.bif .rfl .rfl)) fun _=>(.bif (.bind .rfl fun _=>(.bif .rfl (.lp (fun _=>(.bif (.bind .rfl fun _=>(.bind (h_cond_look _) fun _=>(.bif .rfl (.join (.bind .rfl fun _=>(.bif .rfl .rfl)) fun _=> .rfl)))) .rfl)) fun _=> .rfl))) .rfl)))))
end Go.Lv.VT




