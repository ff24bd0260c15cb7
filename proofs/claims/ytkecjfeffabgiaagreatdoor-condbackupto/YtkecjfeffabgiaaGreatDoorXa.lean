/- Small functions of bytes and texts: small letters, names; the program's and the reference's are the same. -/
import Derived.Test.YtkecjfeffabgiaaGreatDoorTx
import Derived.Test.YtkecjfeffabgiaaGreatDoorMo
import Derived.Test.YtkecjfeffabgiaaGreatDoorIp
import Derived.Test.YtkecjfeffabgiaaGreatDoorLf
set_option linter.unusedSimpArgs false
set_option linter.unusedVariables false
namespace Go.Lv.VT
def gp(n:Nat):Nat:=if 65<=n/\n<=90 then n+32 else n
def Hl(b:UInt8):UInt8:=UInt8.ofNat (gp b.toNat)
theorem zCK{n:Nat}(h:n<256):gp n<256:=by unfold gp;split<;>omega
theorem zy7(b:UInt8):(Hl b).toNat=gp b.toNat:=by unfold Hl;rw[UInt8.toNat_ofNat'];exact Vf (zCK (Sb b))
theorem zCg: ∀n:Nat,n<256->RB (n:Int)=some ((gp n:Nat):Int):=by decide+kernel
theorem zJM: ∀n:Nat,n<256->(bif decide (65<=(n:Int))then decide ((n:Int)<=90)else false)=true->QA (ibOr IntKind.u8 (n:Int) 32)=some (UInt8.ofNat (gp n)):=by decide+kernel
def lowS(l:Str):Str:=l.map Hl
theorem fJ{α:Type}{l:List α}{i:Nat}(h:i<l.length)(f:α->α):((l.take i).map f++l.drop i).set i (f l[i])=(l.take (i+1)).map f++l.drop (i+1):=by
 apply List.ext_getElem
 ·simp;omega
 grind
theorem D9{α:Type}{l:List α}{i:Nat}(h:i<l.length)(f:α->α):((l.take i).map f++l.drop i)[i]? =some l[i]:=by
 grind
theorem oI{α:Type}{l:List α}{i:Nat}(h:i<=l.length)(f:α->α):((l.take i).map f++l.drop i).length=l.length:=by simp;omega
theorem zEG{α:Type}{l:List α}{i:Nat}(h:i<l.length)(f:α->α)(e:f l[i]=l[i]):(l.take i).map f++l.drop i=(l.take (i+1)).map f++l.drop (i+1):=by
 rw[<-fJ h f,e];apply List.ext_getElem?
 grind
theorem xO(i:Nat):decide ((0:Int)<=(i:Int))=true:=Ga (by omega)
theorem zCf{l:Str}(h:l.length<=big):SB l=some (lowS l):=by
 unfold SB;rw[zF (Ga (by unfold big at h;unfold maxLen;omega))];have d: ∀(k i:Nat),i+k=l.length-> ∃n,ZT (X:=List UInt8) (R:=Str) (fun(a:Int×List UInt8)=>
   bif decide (a.1<(a.2.length:Int))then
    need (decide (0<=a.1)&&decide (a.1<(a.2.length:Int)))<|
    ze a.2[a.1.toNat]? fun f=>
    ze (RB (f.toNat:Int)) fun g=>
    need (decide (0<=a.1)&&decide (a.1<(a.2.length:Int)))<|
    ze a.2[a.1.toNat]? fun p=>
    ze (QA g) fun m=>
    some (LO.again (w64 (a.1+1),List.set a.2 a.1.toNat m))
   else
    some (LO.out a.2)) n ((i:Int),(l.take i).map Hl++l.drop i)=some (.out (lowS l)):=by
  intro k
  induction k with
  |zero=>
   intro i e;have e:i=l.length:=by omega
   subst e;refine⟨1,?_⟩;simp only[ZT,oI (Ua _),qA,Ba];simp[lowS]
  |succ k o=>
   intro i e;have b:i<l.length:=by omega
   obtain⟨n,c⟩:=o (i+1) (by omega);refine⟨n+1,?_⟩;have j:=Sb l[i];simp only[ZT,oI (Nat.le_of_lt b),ZF b,Da,xO,ib,zK,Nb,D9 b,ze,Aa,zCg _ j];rw[<-zy7,zDv,Zp b h];simp only[Aa,fJ b];exact c
 obtain⟨n,c⟩:=d l.length 0 (by omega);replace c:=Q4 c;simp only[Gi,ae,Pb,Ki]at c;exact(Qd c).trans rfl
theorem Lx{l:Str}(h:l.length<=big):ZL l=some (lowS l):=by
 unfold ZL;rw[zF (Ga (by unfold big at h;unfold maxLen;omega))];have d: ∀(k i:Nat),i+k=l.length-> ∃n,ZT (X:=List UInt8) (R:=Str) (fun(a:Int×List UInt8)=>
   bif decide (a.1<(l.length:Int))then
    Zk (X:=Int×List UInt8) (
      need (decide (0<=a.1)&&decide (a.1<(a.2.length:Int)))<|
      ze a.2[a.1.toNat]? fun j=>
      bif bif decide (65<=(j.toNat:Int))then decide ((j.toNat:Int)<=90)else false then
       need (decide (0<=a.1)&&decide (a.1<(a.2.length:Int)))<|
       ze a.2[a.1.toNat]? fun o=>
       need (decide (0<=a.1)&&decide (a.1<(a.2.length:Int)))<|
       ze a.2[a.1.toNat]? fun t=>
       ze (QA (ibOr IntKind.u8 (o.toNat:Int) 32)) fun q=>
       some (LX.out (a.1,List.set a.2 a.1.toNat q))
      else
       some (LX.out (a.1,a.2))) fun m=>
    some (LO.again (w64 (m.1+1),m.2))
   else
    some (LO.out a.2)) n ((i:Int),(l.take i).map Hl++l.drop i)=some (.out (lowS l)):=by
  intro k
  induction k with
  |zero=>
   intro i f;have f:i=l.length:=by omega
   subst f;refine⟨1,?_⟩;simp only[ZT,qA,Ba];simp[lowS]
  |succ k r=>
   intro i f;have b:i<l.length:=by omega
   obtain⟨n,c⟩:=r (i+1) (by omega);refine⟨n+1,?_⟩;have p:=Sb l[i];simp only[ZT,oI (Nat.le_of_lt b),ZF b,Da,xO,ib,zK,Nb,D9 b,ze,Aa];cases g:(bif decide (65<=(l[i].toNat:Int))then decide ((l[i].toNat:Int)<=90)else false)with
   |true=> have e:=zJM _ p g;simp only[e,Da,Aa,zq,Zp b h];rw[show UInt8.ofNat (gp l[i].toNat)=Hl l[i]from rfl,fJ b];exact c
   |false=>
    have e:Hl l[i]=l[i]:=by unfold Hl gp;rw[Ia,jd];rintro⟨s,u⟩;rw[Ga (by omega),Da,Ga (by omega)]at g;cases g
    simp only[Ba,zq,Zp b h];rw[zEG b Hl e];exact c
 obtain⟨n,c⟩:=d l.length 0 (by omega);replace c:=Q4 c;simp only[Gi,ae,Pb,Ki]at c;exact(Qd c).trans rfl
def Zy(l:Str):Bool:=l.all fun b=> !(b==0)
theorem MI(c:UInt8): ∀l:Str,decide (Lib.indexByte l c>=0)=l.any fun b=>b==c
 |[]=>rfl
 |b::l=>by
  have d:=MI c l;have a:=Lib.indexByte_ge l c;rw[List.any_cons,Lib.indexByte]
  grind
theorem zHZ(l:Str):(l.any fun b=>b==0)= !Zy l:=by
 unfold Zy
 grind
theorem Ou(l:Str)(n:Int):strings_IndexByte (l,n)=some (Lib.indexByte l n.toNat.toUInt8):=rfl
theorem dE(l:Str):decide (Lib.indexByte l (0:Int).toNat.toUInt8>=0)= !Zy l:=(MI 0 l).trans (zHZ l)
theorem ry(n m:Nat):decide ((n:Int)>(m:Int))= !decide (n<=m):=by
 grind
theorem byte_zero(b:UInt8):((b.toNat:Int)==0)=(b==0):=by
 by_cases h:b=0
 ·subst h;rfl
 ·have a:b.toNat≠0:=fun e=>h (Gf.1 e)
  grind
theorem IU(a b:Str):(a==b)=(b==a):=by
 grind
theorem J7(n m:Nat):decide ((n:Int)<=(m:Int))=decide (n<=m):=by
 grind
theorem zvG{α:Type}(l:List α):decide ((l.length:Int)<1)=l.isEmpty:=by
 cases l with
 |nil=>rfl
 |cons a l=>grind
theorem KF{f:Option Int}{p:Bool}{i:Int}(h:f=some i)(a:decide (i>=0)=p):(ze f fun y=>some (decide (y>=0)))=some p:=by
 grind
theorem zGM{α:Type}(p:α->Bool)(l:List α):(l.any fun v=> !p v)= !l.all p:=by
 grind
theorem QL(l m:Str):strings_HasPrefix (l,m)=some (m.isPrefixOf l):=by
 have a: ∀m l:Str,m.isPrefixOf l=(decide (m.length<=l.length)&&l.take m.length==m):=by
  intro m l;rw[Kg];simp only[Ii,Ca,Ab,Bb];constructor
  ·rintro⟨t,rfl⟩
   grind
  ·grind
 unfold strings_HasPrefix stringslite_HasPrefix;simp_all
theorem zsg(l m:Str):strings_TrimPrefix (l,m)=some (bif m.isPrefixOf l then l.drop m.length else l):=by
 have h:stringslite_HasPrefix (l,m)=some (m.isPrefixOf l):=by
  have:=QL l m;unfold strings_HasPrefix at this;cases hh:stringslite_HasPrefix (l,m)with
  |none=>grind
  |some b=>grind
 unfold strings_TrimPrefix stringslite_TrimPrefix;simp only[h,ze,Aa];cases hp:m.isPrefixOf l with
 |false=>rfl
 |true=> have hl:=(Ii.1 hp).length_le;simp_all
theorem Mx{a b:Str}(c:a.length<=big)(h2:b.length<=big):Zt (a,b)=some (lowS a==lowS b):=by unfold Zt;simp only[Lx c,Lx h2,ze,Aa]
def Tk(n:Nat):Bool:=
 !(n==0||n==9||n==10||n==12||n==13||n==32||n==34||n==39||n==40||n==41||n==44||n==58||n==59||n==91||n==93||n==95||n==123||n==125)&&
  (decide (n<128)&& !((decide (48<=n)&&decide (n<=57))||(decide (65<=n)&&decide (n<=90))||(decide (97<=n)&&decide (n<=122))))
def digN(n:Nat):Bool:=decide (48<=n)&&decide (n<=57)
theorem ztb: ∀n:Nat,n<256->qz (n:Int)=some (digN n):=by decide+kernel
theorem gX(b:UInt8):qz (b.toNat:Int)=some (digN b.toNat):=(ztb _ (Sb b))
def namN(n:Nat):Bool:=digN n||(decide (65<=n)&&decide (n<=90))||(decide (97<=n)&&decide (n<=122))||n==95||n==45||decide (128<=n)
theorem ztd: ∀n:Nat,n<256->Om (n:Int)=some (namN n):=by decide+kernel
theorem eX(b:UInt8):Om (b.toNat:Int)=some (namN b.toNat):=(ztd _ (Sb b))
def Jr:Str->Bool
 |[]=>false
 |b::r=>digN b.toNat||(b==45&&(r==[]||digN (r.headD 0).toNat))
theorem EJ(b c:UInt8):((b.toNat:Int)==(c.toNat:Int))=(b==c):=by
 by_cases h:b=c
 ·subst h;simp
 ·have a:b.toNat≠c.toNat:=fun e=>h (Gf.1 e)
  grind
def numS:Str->Bool
 |[]=>false
 |b::r=>bif b==45 then !(r==[])&&digN (r.headD 0).toNat else digN b.toNat
theorem OY(l:Str):Ju l=some (numS l):=by
 unfold Ju;simp only[zsg,ze,Aa];have a: ∀m:Str,((zA (!(m==[])) (geti m 0) 0).bind fun c=>(zA (!(m==[])) (qz (c.toNat:Int)) (default:Bool)).bind fun d=>some (bif !(m==[])then d else false))=some (!(m==[])&&digN (m.headD 0).toNat):=by
  intro m;cases m with
  |nil=>rfl
  |cons b r=> have f:geti (b::r) 0=some b:=rfl;have g:(b::r==([]:Str))=false:=rfl;simp only[g,Ta,zB,f,Aa,gX,Da,Jg,Cb]
 rw[a];cases l with
 |nil=>rfl
 |cons b r=>
  have e:List.isPrefixOf [45] (b::r)=(b==45):=by
   show((45==b)&&true)=_;rw[ib];cases h:(b==45)with
   |true=>grind
   |false=>grind
  rw[e];show _=some (bif b==45 then !(r==[])&&digN (r.headD 0).toNat else digN b.toNat)
  grind
theorem zES(l:Str):((numS l&& !(List.isPrefixOf [45,45] l))||l==[45])=Jr l:=by
 cases l with
 |nil=>rfl
 |cons b r=>
  cases a:(b==45)with
  |false=>
   have e:List.isPrefixOf [45,45] (b::r)=false:=by show((45==b)&&_)=_;rw[Ha]at a;rw[Ha.2 (Ne.symm a)];rfl
   have c:((b::r:Str)==[45])=false:=by show((b==45)&&_)=_;rw[a];rfl
   rw[e,c];unfold numS Jr;simp[a]
  |true=>
   rw[Bb]at a;subst a;cases r with
   |nil=>rfl
   |cons d r=>
    have c:((45::d::r:Str)==[45])=false:=rfl;rw[c];unfold numS Jr;have e:List.isPrefixOf [45,45] (45::d::r)=(45==d):=by show((45==(45:UInt8))&&((45==d)&&true))=_;rw[ib];rfl
    rw[e];simp only[Jg];have f:digN 45=false:=by decide
    cases h:(45==d)with
    |false=>simp[f]
    |true=>rw[Bb]at h;subst h;rfl
def delS(l:Str):Bool:=match l with
 |[b]=>Tk b.toNat
 |_=>false
def rngS(x:zg):Bool:=decide (-1000000000000<=x.num)&&(decide (x.num<=1000000000000)&&(!x.flag||Int.tmod x.num 1000==0))
def Uh(x:zg):Bool:=
 bif x.kind==1||x.kind==2||x.kind==3 then !(x.text==[])&&(Zy x.text&&(x.num==0&&(x.unit==[]&& !x.flag)))
 else bif x.kind==4 then !(x.text==[])&&(Zy x.text&&((x.flag||Jr x.text)&&(x.num==0&&x.unit==[])))
 else bif x.kind==5||x.kind==7 then Zy x.text&&(x.num==0&&(x.unit==[]&& !x.flag))
 else bif x.kind==9 then delS x.text&&(x.num==0&&(x.unit==[]&& !x.flag))
 else bif x.kind==10||x.kind==11||x.kind==12 then rngS x&&((!(x.unit==[])==(x.kind==12))&&(Zy x.unit&&((!(x.kind==11)|| !x.flag)&&x.text==[])))
 else(decide (13<=x.kind)&&decide (x.kind<=24))&&(x.text==[]&&(x.num==0&&(x.unit==[]&& !x.flag)))
abbrev jy:Str:=[32,9,10,12,13,34,39,58,59,44,91,93,40,41,123,125]
theorem OG: ∀(m:Str) (c:UInt8),Lib.index m [c]=Lib.indexByte m c
 |[],c=>rfl
 |b::l,c=>by
  have h:List.isPrefixOf [c] (b::l)=(b==c):=by
   show(c==b&&List.isPrefixOf [] l)=_;rw[List.isPrefixOf,ib];by_cases e:b=c
   ·subst e;rfl
   ·grind
  rw[Lib.index,Lib.indexByte,h,OG l c]
theorem contains_one(m:Str)(c:UInt8)(a:short m=true:=by decide):strings_Contains (m,[c])=some (m.any fun b=>b==c):=by unfold strings_Contains;simp only[Bn,a,zK,ze,Aa,OG,MI]
theorem zoN(c:UInt8):strings_Contains ([32,9,10,12,13,34,39,58,59,44,91,93,40,41,123,125],[c])=some (jy.any fun b=>b==c):=contains_one jy c
theorem zyw: ∀n:Nat,n<256->((bif bif !(UInt8.ofNat n==0)then !namN n else false then true else UInt8.ofNat n==45)&&(!(jy.any fun b=>b==UInt8.ofNat n)))=Tk n:=by decide+kernel
theorem zDT(b:UInt8):((bif bif !(b==0)then !namN b.toNat else false then true else b==45)&&(!(jy.any fun c=>c==b)))=Tk b.toNat:=by have:=zyw b.toNat (Sb b);simp_all
theorem ztL(a b:Str):Zy (a++b)=(Zy a&&Zy b):=by unfold Zy;grind
theorem l8(n:Int):decide (n<0)= !decide (n>=0):=by
 grind
theorem zJQ(g d:Bool)(b c:UInt8):(bif g then namN (bif g then b else c).toNat else d)=bif g then namN b.toNat else d:=by cases g<;>rfl
theorem ztc{x:zg}(h1:x.text.length<=big)(h2:x.unit.length<=big):dw x=some (Uh x):=by
 unfold dw;rw[zF (Co.2 (by grind))];simp only[ze,Ou,Aa];have hn:decide (Lib.indexByte (x.text++x.unit) (0:Int).toNat.toUInt8<0)=(Zy x.text&&Zy x.unit):=by rw[l8,dE,ztL,Cg]
 simp only[hn,OY,QL,Zr,Aa,ge_iff_le,bne];have hb:=zES x.text;unfold Uh rngS;by_cases k9:x.kind=9
 ·simp only[k9,Int.reduceBEq,Da,Ba,zq,Gd,Jc];cases ht:x.text with
  |nil=>
   have:Zy ([]:Str)=true:=rfl;simp only[this,Cb];cases Zy x.unit<;>rfl
  |cons b r=>
   cases r with
   |nil=>
    have hd:=zDT b;have e1:((([b]:Str).length:Int)==1)=true:=rfl;have e2:geti [b] 0=some b:=rfl;have e3:(([b]:Str)==[45])=(b==45):=by show((b==45)&&true)=_;rw[ib]
    have e4:Zy [b]= !(b==0):=by show((!(b==0))&&true)=_;rw[ib]
    have e5:delS [b]=Tk b.toNat:=rfl;simp only[e1,e2,e3,e4,e5,zoN,eX,Zr,Aa,zJQ,<-hd];cases hu:x.unit with
    |nil=>
     have:Zy ([]:Str)=true:=rfl;simp only[this,ib];generalize (jy.any fun c=>c==b)=a1;cases namN b.toNat<;>cases (b==0)<;>cases (b==45)<;>cases a1<;>cases (x.num==0)<;>cases x.flag<;>rfl
    |cons c s=> simp_all
   |cons c r=>
    have e1:(((b::c::r:Str).length:Int)==1)=false:=Ha.2 (by grind);have e3:((b::c::r:Str)==[45])=false:=by show((b==45)&&false)=_;rw[Ic]
    have e5:delS (b::c::r)=false:=rfl;simp only[e1,e3,e5];simp_all
 have b9:=Ha.2 k9;have hu:(x.unit==[])=true->Zy x.unit=true:=fun h=>by rw[Bb]at h;rw[h];rfl
 have htx:(x.text==[])=true->Zy x.text=true:=fun h=>by rw[Bb]at h;rw[h];rfl
 rw[<-hb];generalize hl45:(x.text==[45])=a11 at*;generalize (List.isPrefixOf [45,45] x.text)=a12 at*;generalize numS x.text=a3 at*;generalize Zy x.text=a1 at*;generalize Zy x.unit=a2 at*;generalize (x.text==[])=a4 at*;generalize (x.unit==[])=a5 at*;generalize (x.num==0)=a6 at*;generalize x.flag=a7 at*;generalize decide (-1000000000000<=x.num)=a8 at*;generalize decide (x.num<=1000000000000)=a9 at*;generalize (Int.tmod x.num 1000==0)=a10 at*;clear hb hn hl45;have K: ∀k:Int,k∈[1,2,3,4,5,7,10,11,12]->x.kind=k->True:=fun _ _ _=>trivial;clear K;by_cases k1:x.kind=1
 ·simp only[k1,zq,Da,Ba,Int.reduceBEq]
  grind
 by_cases k2:x.kind=2
 ·simp only[k2,zq,Da,Ba,Int.reduceBEq]
  grind
 by_cases k3:x.kind=3
 ·simp only[k3,zq,Da,Ba,Int.reduceBEq]
  grind
 by_cases k4:x.kind=4
 ·simp only[k4,zq,Da,Ba,Int.reduceBEq]
  grind
 by_cases k5:x.kind=5
 ·simp only[k5,zq,Da,Ba,Int.reduceBEq]
  grind
 by_cases k7:x.kind=7
 ·simp only[k7,zq,Da,Ba,Int.reduceBEq]
  grind
 by_cases k10:x.kind=10
 ·simp only[k10,zq,Da,Ba,Int.reduceBEq]
  grind
 by_cases k11:x.kind=11
 ·simp only[k11,zq,Da,Ba,Int.reduceBEq]
  grind
 by_cases k12:x.kind=12
 ·simp only[k12,zq,Da,Ba,Int.reduceBEq]
  grind
 simp only[b9,Ha.2 k1,Ha.2 k2,Ha.2 k3,Ha.2 k4,Ha.2 k5,Ha.2 k7,Ha.2 k10,Ha.2 k11,Ha.2 k12,zq,Da,Ba,Nf];cases decide (13<=x.kind)<;>cases decide (x.kind<=24)<;>cases a4<;>cases a5<;>cases a6<;>cases a7<;>rfl
theorem KM {R:Type} {step:Int->Option (LO Int Unit R)} {k:Unit->Option R} (n:Nat) (p:Nat->Bool) (r:R)
  (c: ∀(i:Nat),i<n->step (i:Int)=some (bif p i then .again ((i+1:Nat):Int)else .ret r)) (a:step (n:Int)=some (.out ())):
  Zj step 0 k=bif (List.range n).all p then k ()else some r:=by
 have e:=MG (k:=k) (List.range n) (fun i=>bif p i then none else some r) () (fun i b=> ?_) (by simpa using a)
 ·rw[e,GA]
  grind
 grind
def YC:List zg->Bool
 |[]=>false
 |s::r=>bif s.kind==13 then(match r with|u::_=>u.kind==5|[]=>false)else s.kind==5
def gm:List zg->Bool
 |[]=>false
 |s::_=>s.kind==13
def oh(t:zg):Bool:=t.kind==2&&lowS t.text==[117,114,108]
def okAt:List zg->Bool
 |[]=>true
 |t::r=>(!(t.kind==9&&t.text==[92])||gm r)&&(!(oh t)||YC r)
def oC(l:List zg)(i:Nat):Bool:=Uh (l.getD i default)&&okAt (l.drop i)
def gluS(l:List zg):Int:=bif decide (l.length<=1500)then(bif (List.range l.length).all (oC l)then 0 else 8)else 4
theorem Hw(l:List zg)(i:Nat)(k:Int):ZK (((i:Int),k),l)=some (match l[i]? with|some t=>t.kind==k|none=>false):=by
 unfold ZK;by_cases h:i<l.length
 ·simp only[ZF h,zB,Zo h,ze,Aa,Da,Ya h]
 ·have e:decide ((i:Int)<(l.length:Int))=false:=Db (by omega);simp only[e,Zw,ze,Aa,Ba,List.getElem?_eq_none (Nat.le_of_not_lt h)]
theorem xD:lowS [117,114,108]=[117,114,108]:=by decide
theorem zqV{t:zg}{r:List zg}(h:t.text.length<=big): ∃n:Int,QF (t::r)=some n/\(n==0)= !okAt (t::r):=by
 have e0:geti (t::r) 0=some t:=rfl;have p1:=Hw (t::r) 1 13;have p15:=Hw (t::r) 1 5;have p25:=Hw (t::r) 2 5;unfold QF;simp only[e0,ze,Aa,Mx h (show([117,114,108]:Str).length<=big by decide),xD,Zr];simp only[Int.natCast_one]at p1 p15;replace p25:ZK ((2,5),t::r)=_:=p25;rw[p1];unfold okAt oh;cases hd:(t.kind==9&&t.text==[92])with
 |true=>
  have hk:t.kind=9:=by rw[Ca,Bb]at hd;exact hd.1
  have ht:(t.text==[92])=true:=by rw[Ca]at hd;exact hd.2
  simp only[hk,ht,Int.reduceBEq,Da,Ba,Aa];cases r with
  |nil=>exact⟨_,rfl,rfl⟩
  |cons s r=>
   show∃n:Int,(bif !(s.kind==13)then some 0 else some 2)=some n/\(n==0)= !((!true||s.kind==13)&&_);cases s.kind==13
   ·simp_all
   simp_all
 |false=>
  have hc:(bif t.kind==9 then t.text==[92]else false)=false:=by
   cases h9:t.kind==9
   ·rfl
   ·grind
  simp only[hc,hd,Ba,Ta,Td,Cb];cases hu:(t.kind==2&&lowS t.text==[117,114,108])with
  |false=>
   have:(bif t.kind==2 then bif t.kind==2 then lowS t.text==[117,114,108]else default else false)=false:=by
    cases h2:t.kind==2
    ·rfl
    ·grind
   rw[this]
   grind
  |true=>
   rw[Ca]at hu;rw[hu.1,hu.2];simp only[Da,Aa];cases r with
   |nil=>exact⟨0,by simp[p15],rfl⟩
   |cons s r=>
    cases hs:s.kind==13 with
    |false=>
     have e1:(match(t::s::r)[1]? with|some t=>t.kind==13|none=>false)=false:=hs;have e5:ZK ((1,5),t::s::r)=some (s.kind==5):=p15;simp only[e1,Ba,zq,e5,Aa,YC,hs];cases s.kind==5
     ·grind
     ·exact⟨2,by rfl,rfl⟩
    |true=>
     have e1:(match(t::s::r)[1]? with|some t=>t.kind==13|none=>false)=true:=hs;simp only[e1,Da,zq,p25,Aa,YC,hs];cases r with
     |nil=>grind
     |cons u r=>
      show∃n:Int,(bif !(u.kind==5)then some 0 else some (w64 (2+1)))=some n/\(n==0)= !(!true||u.kind==5);cases u.kind==5
      ·grind
      ·exact⟨3,rfl,rfl⟩
theorem zyC(l:List zg):decide ((l.length:Int)>1500)= !decide (l.length<=1500):=ry _ 1500
theorem GX{l:List zg}(h: ∀t∈l,t.text.length<=big/\t.unit.length<=big):QE l=some (gluS l):=by
 unfold QE gluS;rw[zyC];cases e:decide (l.length<=1500)with
 |false=>rfl
 |true=>
  have e:=Ac e;simp only[Va,Ba,Da];refine(KM l.length (oC l) 8 (fun i a=> ?_) ?_).trans ?_
  ·obtain⟨d,j⟩:=h _ (jb a);have b:l.getD i default=l[i]:=by simp[a]
   have c:=Lb a;obtain⟨n,f,k⟩:=zqV (t:=l[i]) (r:=l.drop (i+1)) d;rw[<-c]at f k;have g:decide ((i:Int)<=(l.length:Int))=true:=Ga (by omega);unfold oC;simp only[ZF a,Da,Zo a,ze,Aa,ztc d j,xO,g,Cb,Td,zK,Nb,f,Zr,Zp a (show l.length<=big by unfold big;omega),b]
   grind
  ·grind
  grind
theorem jD(n m:Int):decide (n>=m)= !decide (n<m):=by
 grind
def zL{α:Type}(f:α->List PV)(l:List α):Nat:=Kr (l.map f)
theorem I6{α:Type}(f:α->List PV):zL f []=0:=rfl
theorem Qf{α:Type}(f:α->List PV)(v:α)(l:List α):zL f (v::l)=zx (f v)+zL f l:=rfl
theorem DD{α:Type}{f:α->List PV}{v:α}: ∀{l:List α},v∈l->zx (f v)<=zL f l
 |[],h=>by cases h
 |x::l,h=>by
  rw[Qf];rcases Jb.1 h with rfl|h
  ·omega
  ·have:=DD (f:=f) h;omega
theorem ED{α:Type}{f:α->List PV}(a: ∀v,1<=zx (f v)): ∀(l:List α),l.length<=zL f l
 |[]=>Ua _
 |v::l=>by rw[Qf,Fa];have:=ED a l;grind
theorem Bi{α:Type}{f:α->List PV}{a b:List α}(h:a.Sublist b):zL f a<=zL f b:=by
 induction h with
 |slnil=>grind
 |cons v _ c=>rw[Qf];omega
 |cons_cons v _ c=>rw[Qf,Qf];omega
theorem Im(x:zb):zx (zo x)=6+x.token.text.length+x.token.unit.length+zL zo x.list:=by rw[zoQ];simp only[zx,bPV,zL];omega
mutual
/-- How large values are. -/
def szV:zb->Nat
 |⟨t,l⟩=>1+t.text.length+t.unit.length+szL l
def szL:List zb->Nat
 |[]=>0
 |v::r=>szV v+szL r
end
theorem Aj(v:zb):szV v=1+v.token.text.length+v.token.unit.length+szL v.list:=by obtain⟨t,l⟩:=v;rw[szV]
theorem Am{v:zb}: ∀{l:List zb},v∈l->szV v<=szL l
 |[],h=>by cases h
 |x::l,h=>by
  rw[szL];rcases Jb.1 h with rfl|h
  ·omega
  ·have:=Am h;omega
theorem Wi: ∀(l:List zb),l.length<=szL l
 |[]=>Ua _
 |v::r=>by rw[szL,Aj,Fa];have:=Wi r;omega
theorem fI(n:Nat):decide ((n:Int)>0)=decide (0<n):=by
 grind
theorem zy3(k:Int):cB k=some (zC k):=by
 unfold cB zC;by_cases b:k=19
 ·subst b;rfl
 by_cases d:k=21
 ·subst d;rfl
 by_cases c:k=2
 ·subst c;rfl
 by_cases a:k=23
 ·subst a;rfl
 have g:(k==19)=false:=Ha.2 b;have h:(k==21)=false:=Ha.2 d;have e:(k==2)=false:=Ha.2 c;have f:(k==23)=false:=Ha.2 a;simp only[g,h,e,f,Ba,zq,b,d,c,a,De,or_self]
theorem iM(k:Int):Ro k=some (zC k):=by
 unfold Ro zC;by_cases b:k=19
 ·subst b;rfl
 by_cases d:k=21
 ·subst d;rfl
 by_cases c:k=2
 ·subst c;rfl
 by_cases a:k=23
 ·subst a;rfl
 have g:(k==19)=false:=Ha.2 b;have h:(k==21)=false:=Ha.2 d;have e:(k==2)=false:=Ha.2 c;have f:(k==23)=false:=Ha.2 a;simp only[g,h,e,f,Ba,zq,b,d,c,a,De,or_self]
mutual
/-- The depth of values. -/
def Oi:zb->Nat
 |⟨t,l⟩=>if zC t.kind=0 then 0 else 1+ZP l
def ZP:List zb->Nat
 |[]=>0
 |v::r=>max (Oi v) (ZP r)
end
theorem LK(v:zb):Oi v=if zC v.token.kind=0 then 0 else 1+ZP v.list:=by obtain⟨t,l⟩:=v;rw[Oi]
mutual
theorem zDR: ∀v:zb,Oi v<=szV v
 |⟨t,l⟩=>by rw[Oi,szV];have:=Pw l;split<;>omega
theorem Pw: ∀l:List zb,ZP l<=szL l
 |[]=>Ua _
 |v::r=>by rw[ZP,szL];have:=zDR v;have:=Pw r;omega
end
theorem iU(f:zb->Nat): ∀(l:List zb) (a:Nat),l.foldl (fun a v=>max a (f v)) a=max a (l.foldr (fun v a=>max (f v) a) 0)
 |[],a=>by simp
 |v::l,a=>by rw[Ee,iU f l,List.foldr_cons];omega
theorem iR: ∀(l:List zb),ZP l=l.foldr (fun v a=>max (Oi v) a) 0
 |[]=>by rw[ZP];rfl
 |v::l=>by rw[ZP,iR l];rfl
theorem zFb{l:List zb}(h:szL l<=big):Km l=some (ZP l:Int):=by
 refine Ul (fun l=>szL l) (fun l=>szL l<=big) (fun l=>(ZP l:Int)) (fun S l n j=> ?_) h;unfold lG;have e:=Wi l;refine(YJ l (fun i (a:Nat)=>((a:Int),(i:Int))) (fun v a=>some (.again (max a (Oi v)))) (fun a=>some (.out (a:Int))) (a:=0) rfl (fun i a b=> ?_) (fun a=> ?_) (r:= .out (ZP l:Int)) ?_)
 ·have f:=Am (jb b);have k:=Aj l[i];have c:=LK l[i];have g:=Pw l[i].list;simp only[ZF b,Da,ze,Zo b,Aa,zy3];by_cases d:zC l[i].token.kind=0
  ·rw[Ka d]at c;simp[d,c,Zp b (by omega)]
  ·rw[Ia d]at c;rw[j l[i].list (by omega) (by omega)];have m:w64 (1+(ZP l[i].list:Int))=((1+ZP l[i].list:Nat):Int):=by rw[w64,Zz (by omega) (by grind)];omega
   simp only[Lf.2 d,Da,Aa,zq,Zp b (by omega),m,c,jc]
   grind
 ·grind
 ·rw[iq (fun a v=>max a (Oi v)) (fun v a=>rfl),iU,<-iR];simp
theorem bF{l:List zb}: ∀{i:Nat} (h:i<l.length),szL (l.take (i+1))=szL (l.take i)+szV l[i]:=by
 induction l with
 |nil=>grind
 |cons v r a=>
  intro i h;cases i with
  |zero=>simp[szL]
  |succ i=>
   simp only[Fe,szL,List.getElem_cons_succ]
   grind
theorem WG(l:List zb)(i:Nat):szL (l.take i)<=szL l:=by
 induction l generalizing i with
 |nil=>simp
 |cons v r a=>
  cases i with
  |zero=>simp[szL]
  |succ i=>simp only[Fe,szL];grind
mutual
/-- The tokens of values. -/
def tokV:zb->List zg
 |⟨t,l⟩=>t::if zC t.kind=0 then []else tokL l++[⟨zC t.kind,[],0,[],false⟩]
def tokL:List zb->List zg
 |[]=>[]
 |v::r=>tokV v++tokL r
end
theorem Gq(v:zb):tokV v=v.token::if zC v.token.kind=0 then []else tokL v.list++[⟨zC v.token.kind,[],0,[],false⟩]:=by obtain⟨t,l⟩:=v;rw[tokV]
mutual
theorem oD: ∀v:zb,(tokV v).length<=2*szV v
 |⟨t,l⟩=>by
  rw[tokV,szV];have:=Nz l
  grind
theorem Nz: ∀l:List zb,(tokL l).length<=2*szL l
 |[]=>Ua _
 |v::r=>by rw[tokL,szL,Ja];have:=oD v;have:=Nz r;omega
end
theorem aK: ∀(l:List zb) (a:List zg),l.foldl (fun a v=>a++tokV v) a=a++tokL l
 |[],a=>by simp[tokL]
 |v::l,a=>by rw[Ee,aK l,tokL,La]
mutual
/-- Whether lists are those of blocks, and have not their closers. -/
def shV:zb->Int->Bool
 |⟨t,l⟩,c=> !((zC t.kind==0&&decide (0<l.length))||(c != 0&&t.kind==c)||(zC t.kind != 0&& !(shL l (zC t.kind))))
def shL:List zb->Int->Bool
 |[],_=>true
 |v::r,c=>shV v c&&shL r c
end
theorem Vy(v:zb)(c:Int):shV v c= !((zC v.token.kind==0&&decide (0<v.list.length))||(c != 0&&v.token.kind==c)||(zC v.token.kind != 0&& !(shL v.list (zC v.token.kind)))):=by obtain⟨t,l⟩:=v;rw[shV]
def Rp(l:List zb)(c:Int):Zc:=⟨ZP l,(tokL l).length, !(shL l c)⟩
theorem YT(c:Int): ∀(l:List zb) (a:Nat×Nat×Bool),l.foldl (fun a v=>(max a.1 (Oi v),a.2.1+(tokV v).length,a.2.2|| !(shV v c))) a=(max a.1 (ZP l),a.2.1+(tokL l).length,a.2.2|| !(shL l c))
 |[],a=>by simp[ZP,tokL,shL]
 |v::l,a=>by
  rw[Ee,YT c l,ZP,tokL,shL,Ja];simp only[Prod.mk.injEq]
  grind
theorem kP(a b:Bool):(bif a then true else b)=(a||b):=by cases a<;>rfl
theorem zDE(a b:Bool):(bif a then b else false)=(a&&b):=by cases a<;>rfl
theorem bW{l:List zb}{c:Int}(h:szL l<=big):ak (l,c)=some (Rp l c):=by
 refine Ul (fun x:List zb×Int=>szL x.1) (fun x=>szL x.1<=big) (fun x=>Rp x.1 x.2) (fun S x C E=> ?_) h;obtain⟨l,c⟩:=x;simp only at C E ⊢;unfold YG;have B:=Wi l;refine(Kw l (fun i (a:Nat×Nat×Bool)=>((i:Int),(⟨(a.1:Int),(a.2.1:Int),a.2.2⟩:Zc))) (fun v a=>some (.again (max a.1 (Oi v),a.2.1+(tokV v).length,a.2.2|| !(shV v c)))) (fun a=>some (.out (⟨(a.1:Int),(a.2.1:Int),a.2.2⟩:Zc))) (fun i a=>a.2.1<=2*szL (l.take i)) (a:=(0,0,false)) rfl (by simp) (fun i a j J=> ?_) (fun a _=> ?_) (r:= .out (Rp l c)) ?_)
 ·have N:=Am (jb j);have H:=Aj l[i];have m:=LK l[i];have O:=Pw l[i].list;have o:=Gq l[i];have P:=Nz l[i].list;have e:=Vy l[i] c;have K:=bF j;have G:=WG l (i+1);have Q:=oD l[i];have w:szL l[i].list<=big:=by omega
  have y:szL l[i].list<szL l:=by omega
  have p:S (l[i].list,zC l[i].token.kind)=some (Rp l[i].list (zC l[i].token.kind)):=E (l[i].list,zC l[i].token.kind) w y;obtain⟨d,n,b⟩:=a;simp only at J;have D:=Zp j (by omega);unfold big at C;have u:w64 ((n:Int)+1)=((n+1:Nat):Int):=by rw[w64,Zz (by omega) (by omega)];omega
  refine⟨?_,fun R T=> ?_⟩
  ·have L:decide ((l[i].list.length:Int)>0)=decide (0<l[i].list.length):=fI _;simp only[ZF j,Da,ze,Zo j,Aa,iM,jc,u,bne,L,kP,zDE];by_cases k:zC l[i].token.kind=0
   ·rw[Ka k]at m o;simp only[k,Jd,Cb,Va,Ub,Gd,bne]at e ⊢;rw[e,m,o];rcases Uf (decide (0<l[i].list.length))with F|F<;>rcases Uf (c==0)with g|g<;>rcases Uf (l[i].token.kind==c)with f|f<;>
     simp[F,g,f,D,Da,Ba]
   ·rw[Ia k]at m o;have s:(zC l[i].token.kind==0)=false:=Ha.2 k;have z:w64 ((ZP l[i].list:Int)+1)=((1+ZP l[i].list:Nat):Int):=by rw[w64,Zz (by omega) (by omega)];omega
    have t:w64 (((n+1:Nat):Int)+((tokL l[i].list).length:Int))=((n+1+(tokL l[i].list).length:Nat):Int):=by rw[w64,Zz (by omega) (by omega)];omega
    have A:w64 (((n+1+(tokL l[i].list).length:Nat):Int)+1)=((n+(1+((tokL l[i].list).length+1)):Nat):Int):=by rw[w64,Zz (by omega) (by omega)];omega
    have q:(tokV l[i]).length=1+((tokL l[i].list).length+1):=by rw[o];simp;omega
    have M:(if((1+ZP l[i].list:Nat):Int)>(d:Int)then((1+ZP l[i].list:Nat):Int)else(d:Int))=((max d (1+ZP l[i].list):Nat):Int):=by split<;>omega
    rw[e,m,q];simp only[s,p,Ub,Ta,Cb,Gd,Jc,Ba,bne,Aa,Rp];rcases Uf (c==0)with g|g<;>rcases Uf (l[i].token.kind==c)with f|f<;>
     simp only[g,f,D,z,t,A,M,Da,Ba,zq,Va,Ta,Cb,ib,Ic,Ub,Df,Gd,Td,Jc,Cg]
  grind
 ·grind
 ·rw[iq (fun a v=>(max a.1 (Oi v),a.2.1+(tokV v).length,a.2.2|| !(shV v c))) (fun v a=>rfl),YT];simp[Rp]
theorem Gn{a b:List zb}(h:a.Sublist b):szL a<=szL b:=by
 induction h with
 |slnil=>grind
 |cons v _ c=>rw[szL];omega
 |cons_cons v _ c=>rw[szL,szL];omega
theorem Po(l:List zb):l=[]\/ ∃t v,l=t++[v]:=by
 rcases List.eq_nil_or_concat l with h|⟨t,v,h⟩
 ·exact .inl h
 grind
def isSp(v:zb):Bool:=v.token.kind==13
def trimB(l:List zb):List zb:=(l.reverse.dropWhile isSp).reverse
theorem zC1:trimB []=[]:=rfl
theorem Jo(t:List zb)(v:zb):trimB (t++[v])=if isSp v then trimB t else t++[v]:=by
 unfold trimB;rw[List.reverse_append];simp only[List.reverse_cons,List.reverse_nil,Pb,Sa,Bc]
 grind
theorem ek(l:List zb):(trimB l).Sublist l:=by
 unfold trimB
 grind
def trimS(l:List zb):List zb:=trimB (l.dropWhile isSp)
theorem zFx(l:List zb):szL (trimS l)<=szL l:=Gn ((ek _).trans (Sd _))
theorem uE(p:zb->Bool): ∀(l:List zb),l.drop (l.length - (l.dropWhile p).length)=l.dropWhile p
 |[]=>rfl
 |v::r=>by
  rw[Bc];split
  ·have h:=List.Sublist.length_le (Sd p (l:=r));rw[Fa,Nat.succ_sub h,List.drop_succ_cons];exact uE p r
  ·simp
def errS(l:List zb):Int:=if 16<ZP l then 20 else if 1500<(tokL l).length then 4 else if shL l 0 then 0 else 8
theorem ut{l:List zb}(h:szL l<=big):qb l=some (errS l):=by
 unfold qb errS;simp only[ze,bW h,Aa,Rp]
 grind
theorem zyQ{l:List zb}(h:szL l<=big):MB l=some (if errS l=0 then((ZP l:Int),0)else(0,errS l)):=by
 unfold MB;simp only[ze,ut h,bW h,Aa,Rp]
 grind
theorem Nr: ∀l:List zb,szL l<=zL zo l:=by
 have a: ∀(n:Nat) (l:List zb),zL zo l<n->szL l<=zL zo l:=by
  intro n
  induction n with
  |zero=>intro l h;omega
  |succ n d=>
   intro l
   induction l with
   |nil=>intro _;rw[szL];grind
   |cons v l b=>
    intro h;rw[Qf]at h ⊢;rw[szL,Aj];have c:=Im v
    grind
 grind
theorem zD3{l:List zb}{a:List zg}(h:szL l<=big)(e:a.length+2*szL l<=4*big):QX (l,a)=some (a++tokL l):=by
 refine Ul (fun z=>szL z.1) (fun z=>szL z.1<=big/\z.2.length+2*szL z.1<=4*big) (fun z=>z.2++tokL z.1) (fun S z q s=> ?_) (x:=(l,a)) ⟨h,e⟩;obtain⟨l,a⟩:=z;obtain⟨h,e⟩:=q;have h:szL l<=big:=h;have e:a.length+2*szL l<=4*big:=e;have j:=Wi l;unfold nG;refine(Kw l (fun i (b:List zg)=>((i:Int),b)) (fun v b=>some (.again (b++tokV v))) (fun b=>some (.out b)) (fun i b=>b.length<=a.length+2*szL (l.take i)) (a:=a) rfl (by simp) (fun i b d A=> ?_) (fun b _=> ?_) (r:= .out (a++tokL l)) ?_).trans rfl
 ·have o:=Am (jb d);have y:=Aj l[i];have f:=Gq l[i];have p:=Nz l[i].list;have B:=bF d;have u:=WG l (i+1);have w:=oD l[i];unfold big at h e;have c: ∀n m:Nat,n+m<=100000000->zW n m 56=true:=fun n m h=>QH (by omega);refine⟨?_,fun C k=> ?_⟩
  ·simp only[ZF d,Da,ze,Zo d,Aa,iM];by_cases g:zC l[i].token.kind=0
   ·rw[Ka g]at f;simp[g,f,Zp d (by unfold big;omega),c b.length 1 (by omega)]
   ·rw[Ia g]at f;rw[s (l[i].list,b++[l[i].token]) ⟨by grind,by grind⟩ (by grind)];have t:(zC l[i].token.kind != 0)=true:=Lf.2 g;simp[t,f,Zp d (by unfold big;omega),c b.length 1 (by omega),c (b.length+((tokL l[i].list).length+1)) 1 (by omega)]
  ·grind
 ·grind
 ·rw[iq (fun a v=>a++tokV v) (fun v a=>rfl),aK]
theorem VR{l:List zb}(h:szL l<=big):pq l=some (tokL l):=by
 have g:=Wi l;unfold pq;refine(Kw l (fun i (b:List zg)=>((i:Int),b)) (fun v b=>some (.again (b++tokV v))) (fun b=>some (.out b)) (fun i b=>b.length<=2*szL (l.take i)) (a:=[]) rfl (by simp) (fun i b d u=> ?_) (fun b _=> ?_) (r:= .out (tokL l)) ?_).trans rfl
 ·have k:=Am (jb d);have t:=Aj l[i];have e:=Gq l[i];have o:=Nz l[i].list;have w:=bF d;have q:=WG l (i+1);have s:=oD l[i];unfold big at h;have c: ∀n m:Nat,n+m<=100000000->zW n m 56=true:=fun n m h=>QH (by omega);refine⟨?_,fun x j=> ?_⟩
  ·simp only[ZF d,Da,ze,Zo d,Aa,iM];by_cases f:zC l[i].token.kind=0
   ·rw[Ka f]at e;simp[f,e,Zp d (by unfold big;omega),c b.length 1 (by omega)]
   ·rw[Ia f]at e;rw[zD3 (a:=b++[l[i].token]) (show szL l[i].list<=big by unfold big;omega) (by grind)];have p:(zC l[i].token.kind != 0)=true:=Lf.2 f;simp[p,e,Zp d (by unfold big;omega),c b.length 1 (by omega),c (b.length+((tokL l[i].list).length+1)) 1 (by omega)]
  ·grind
 ·grind
 ·rw[iq (fun a v=>a++tokV v) (fun v a=>rfl),aK];simp
theorem ztF{l:List zb}(h:szL l<=big):TA l=some (if errS l=0 then(tokL l,0)else([],errS l)):=by
 unfold TA;simp only[ut h,ze,Aa];by_cases he:errS l=0
 ·have:(errS l != 0)=false:=by rw[he];rfl
  rw[this,Ba,VR h,Ka he];rfl
 grind
end Go.Lv.VT

namespace Go.Lv
theorem Le.lp{S X R:Type}{step step':S->Option (LO S X R)}{s:S}{k k':X->Option R}(h: ∀s,Le (step s) (step' s))(hk: ∀x,Le (k x) (k' x)):Le (Zj step s k) (Zj step' s k'):=by
 intro y hy;unfold Zj at hy;cases hl:Ph step s with
 |none=>rw[hl]at hy;cases hy
 |some r=>
  rw[hl]at hy;obtain⟨n,hn⟩:=JV hl;rw[Qd (Q4 (XK h n s r hn))];cases r with
  |out x=>exact hk x y hy
  |ret r=>exact hy
def yo{X Y:Type}(B:(X->Option Y)->X->Option Y):Prop:= ∀S S':X->Option Y,(∀x,Le (S x) (S' x))-> ∀x,Le (B S x) (B S' x)
theorem Ws {X Y:Type} {B:(X->Option Y)->X->Option Y} (hm:yo B) (μ:X->Nat) (ok:X->Prop) (R:X->Y->Prop)
  (hB: ∀(S:X->Option Y) (x:X),ok x->(∀z,ok z->μ z<μ x-> ∃y,S z=some y/\R z y)-> ∃y,B S x=some y/\R x y) {x:X} (hx:ok x): ∃y,recE B x=some y/\R x y:=by
 have step: ∀n x,Le (Ti B n x) (Ti B (n+1) x):=by
  intro n
  induction n with
  |zero=>intro x;exact Le.none
  |succ n ih=>intro x;exact hm _ _ ih x
 have up: ∀d n x,Le (Ti B n x) (Ti B (n+d) x):=by
  intro d
  induction d with
  |zero=>intro n x;exact Le.rfl
  |succ d ih=>intro n x y hy;exact step _ x y (ih n x y hy)
 have key: ∀(m:Nat) (x:X),μ x<m->ok x-> ∃y,Ti B m x=some y/\R x y:=by
  intro m
  induction m with
  |zero=>intro x h;omega
  |succ m ih=> intro x hm hok;exact hB _ x hok fun z hz hlt=>ih z (by omega) hz
 obtain⟨y,h1,h2⟩:=key (μ x+1) x (by omega) hx;refine⟨y,xI (N:=μ x+1) fun n hn=> ?_,h2⟩;obtain⟨d,rfl⟩:=Nat.le.dest hn;exact up d _ x y h1
theorem Yw {A S X R:Type} {step:S->Option (LO S X R)} {k:X->Option R} (n:Nat) (st:Nat->A->S) (Inv:Nat->A->Prop) (Q:R->Prop) {s0:S} {a0:A} (h0:s0=st 0 a0) (hI:Inv 0 a0)
  (hg: ∀(i:Nat) (a:A),i<n->Inv i a->(∃a',step (st i a)=some (.again (st (i+1) a'))/\Inv (i+1) a')\/(∃r,step (st i a)=some (.ret r)/\Q r)\/(∃x,step (st i a)=some (.out x)/\ ∃r,k x=some r/\Q r))
  (hf: ∀a,Inv n a->(∃x,step (st n a)=some (.out x)/\ ∃r,k x=some r/\Q r)\/(∃r,step (st n a)=some (.ret r)/\Q r)): ∃r,Zj step s0 k=some r/\Q r:=by
 have key: ∀(m i:Nat) (a:A),i+m=n->Inv i a-> ∃j x,ZT step j (st i a)=some x/\ ∃r,LX.go x k=some r/\Q r:=by
  intro m
  induction m with
  |zero=>
   intro i a hi ha;obtain rfl:i=n:=by omega
   rcases hf a ha with⟨x,h1,r,h2,h3⟩|⟨r,h1,h2⟩
   ·exact⟨1, .out x,by simp only[ZT,h1],r,h2,h3⟩
   ·exact⟨1, .ret r,by simp only[ZT,h1],r,rfl,h2⟩
  |succ m ih=>
   intro i a hi ha;rcases hg i a (by omega) ha with⟨a',h1,h2⟩|⟨r,h1,h2⟩|⟨x,h1,r,h2,h3⟩
   ·obtain⟨j,x,g1,g2⟩:=ih (i+1) a' (by omega) h2;exact⟨j+1,x,by simp only[ZT,h1];exact g1,g2⟩
   ·exact⟨1, .ret r,by simp only[ZT,h1],r,rfl,h2⟩
   ·exact⟨1, .out x,by simp only[ZT,h1],r,h2,h3⟩
 obtain⟨j,x,h1,r,h2,h3⟩:=key n 0 a0 (by omega) hI;refine⟨r,?_,h3⟩;rw[h0,Qd (Q4 h1),h2]
namespace VT
def mx{α:Type}(f:α->Nat):List α->Nat
 |[]=>0
 |v::l=>max (f v) (mx f l)
theorem KQ{α:Type}{f g:α->Nat}: ∀{l:List α},(∀v∈l,f v=g v)->mx f l=mx g l
 |[],_=>rfl
 |x::l,h=>by rw[mx,mx,h x Fb,KQ fun v hv=>h v (ja _ hv)]
theorem Y5(a b:Nat):(if(b:Int)>(a:Int)then(b:Int)else(a:Int))=((max a b:Nat):Int):=by split<;>omega
end VT
end Go.Lv

namespace Go.Lv.VT
set_option maxRecDepth 100000
theorem QV{α:Type}(l:List α):((l.length:Int)==0)=l.isEmpty:=by
 cases l with
 |nil=>rfl
 |cons a l=>exact Ha.2 (by simp only[Fa];omega)
theorem fw(v:zb):(⟨v.token,v.list⟩:zb)=v:=by cases v;rfl
def Sm(x:Str):Bool:= !(x==[])&&(decide (x.length<=64)&&(Zy x&&(bif List.isPrefixOf [45,45] x then !(x==[45,45])else lowS x==x)))
theorem zqB{x:Str}(h:x.length<=big):EB x=some (Sm x):=by
 have e:decide ((x.length:Int)>64)= !decide (x.length<=64):=ry _ 64;have e1:decide (Lib.indexByte x (0:Int).toNat.toUInt8>=0)= !Zy x:=dE x;have ec:=IU x (lowS x);unfold EB Sm;simp only[Ou,Zr,ze,Aa,QL,Lx h,e,ec];cases x==[]<;>cases decide (x.length<=64)<;>try rfl
 simp only[Da,Ba,Va,Ta,Cb,Gd,e1];cases Zy x<;>cases List.isPrefixOf [45,45] x<;>rfl
def clK(v:zb):Bool:=v.token.kind==20||(v.token.kind==22||v.token.kind==24)
mutual
def clV:zb->Bool
 |⟨t,l⟩=>clK ⟨t,l⟩||clL l
def clL:List zb->Bool
 |[]=>false
 |v::r=>clV v||clL r
end
theorem l6(v:zb):clV v=(clK v||clL v.list):=by obtain⟨t,l⟩:=v;rw[clV]
theorem dP(l:List zb):clL l=l.any clV:=by
 induction l with
 |nil=>rw[clL];rfl
 |cons v l ih=>rw[clL,ih];rfl
theorem znl{l:List zb}(h:szL l<=big):zO l=some (clL l):=by
 refine Ul (fun l=>szL l) (fun l=>szL l<=big) (fun l=>clL l) (fun S l hl hS=> ?_) h;have hlen:=Wi l;unfold BH qG Qz;have:=KF (BF (step:=fun(s1:Int)=>
   bif decide (s1<(l.length:Int))then
    ze (geti l s1) fun y2=>
    ze (Ry S (⟨y2.token,y2.list⟩:zb)) fun y3=>
    bif y3 then some (LO.ret s1)else some (LO.again (w64 (s1+1)))
   else some (LO.out ())) l clV (by omega) (fun i hi=> ?_) ?_) (RA _ _)
 ·rw[this,dP];rfl
 ·have hsz:=Am (jb hi);have hv2:=Aj l[i];have hs:=hS l[i].list (by omega) (by omega);have:Ry S l[i]=some (clV l[i]):=by unfold Ry ZZ;simp only[fw,Zr,ze,Aa,hs,l6,clK];cases l[i].token.kind==20<;>cases l[i].token.kind==22<;>cases l[i].token.kind==24<;>rfl
  simp only[ZF hi,Da,Zo hi,ze,Aa,fw,this]
 ·simp only[qA,Ba]
def Wm(l:List zb):Bool:=match l with
 |[]=>false
 |v::r=>isSp v||isSp ((v::r).getLast (by simp))
theorem lU(t:List zb)(v:zb):Wm (t++[v])=((match t with|[]=>isSp v|a::_=>isSp a)||isSp v):=by
 cases t with
 |nil=>rfl
 |cons a t=> show(isSp a||isSp ((a::(t++[v])).getLast _))=_;congr 2;have:(a::(t++[v]))=(a::t)++[v]:=rfl;simp only[this,List.getLast_append_of_ne_nil,List.getLast_singleton,ne_eq,reduceCtorEq,Sg]
theorem TS(l:List zb):(trimB l).length<=l.length:=(ek l).length_le
theorem zzd(l:List zb):((trimS l).length==l.length)= !Wm l:=by
 rcases Po l with rfl|⟨t,v,rfl⟩
 ·rfl
 ·rw[lU];have hl:(t++[v]).length=t.length+1:=by simp
  cases t with
  |nil=>
   show((trimB (List.dropWhile isSp [v])).length==1)= !(isSp v||isSp v);cases hv:isSp v with
   |true=>simp only[Bc,hv];rfl
   |false=> simp only[Bc,hv];have:=Jo [] v;rw[hv]at this;show((trimB [v]).length==1)=true;rw[show trimB [v]=[v]from this];rfl
  |cons a t=>
   show((trimB (List.dropWhile isSp (a::(t++[v])))).length==_)= !(isSp a||isSp v);have hb:=TS (List.dropWhile isSp (a::(t++[v])));cases ha:isSp a with
   |true=> simp only[Bc,ha,Te]at hb ⊢;have hd:=(Sd isSp (l:=t++[v])).length_le;rw[Td,Va,Ha];rw[hl,Fa];rw[Ja,Md]at hd;omega
   |false=>
    have e:List.dropWhile isSp (a::(t++[v]))=(a::t)++[v]:=by rw[Bc,ha];rfl
    rw[e,Jo];cases hv:isSp v with
    |true=> have:=TS (a::t);rw[Ka rfl,Df,Va,Ha,hl];omega
    |false=>simp
theorem zAo{l:List zb}(h:l.length<=big)(g:Bool)(hg:(l.isEmpty&&g)=false)(k:Bool->Option Int):
  (ze (zA (decide ((l.length:Int)>0)&& !g) (geti l 0) (default:zb)) fun y7=>
   ze (zA (decide ((l.length:Int)>0)&& !g) (ZZ ((⟨y7.token,y7.list⟩:zb),13)) (default:Bool)) fun y8=>
   ze (zA (!y8&&(decide ((l.length:Int)>0)&& !g)) (geti l (w64 ((l.length:Int) - 1))) (default:zb)) fun y9=>
   ze (zA (!y8&&(decide ((l.length:Int)>0)&& !g)) (ZZ ((⟨y9.token,y9.list⟩:zb),13)) (default:Bool)) fun y10=>
   k (bif decide ((l.length:Int)>0)then bif y8 then true else y10 else false))=(if g=true/\l≠[]then(k (bif decide ((l.length:Int)>0)then bif (default:Bool)then true else(default:Bool)else false))else k (Wm l)):=by
 cases l with
 |nil=> have:decide ((([]:List zb).length:Int)>0)=false:=rfl;simp only[this,Ub,Zw,ze,Aa,Ic,Ba,ne_eq,not_true_eq_false,and_false,De,Wm]
 |cons v r=>
  have e1:decide (((v::r).length:Int)>0)=true:=Ga (by simp only[Fa];omega);have e2:geti (v::r) 0=some v:=rfl;cases g with
  |true=>simp only[e1,Va,Ic,Zw,ze,Aa,Da,ne_eq,reduceCtorEq,Sg,and_self,Te]
  |false=>
   simp only[e1,Ta,ib,zB,ze,Aa,Da,e2,ZZ,false_and,De,reduceCtorEq];have e3:w64 (((v::r).length:Int) - 1)=(r.length:Int):=by rw[Fa]at h ⊢;rw[w64,Zz (by omega) (by unfold big at h;omega)];omega
   have e4:geti (v::r) (r.length:Int)=some ((v::r).getLast (by simp)):=by rw[Zo (by simp),List.getLast_eq_getElem];simp
   rw[e3,e4];simp only[Zr,Aa,Wm,isSp];cases v.token.kind==13<;>rfl
def badV(v:zb):Bool:=v.token.kind==17||(v.token.kind==9&&v.token.text==[33])
def Xu(custom:Bool)(l:List zb):Bool:= !(l.any badV)&&(!(l.isEmpty&& !custom)&& !Wm l)
def Dg(d:zD):Bool:=Sm d.name&&(errS d.value==0&&(gluS (tokL d.value)==0&&(!clL d.value&&Xu (List.isPrefixOf [45,45] d.name) d.value)))
mutual
theorem zFt: ∀(v:zb) (t:zg),t∈tokV v->t.text.length<=szV v/\t.unit.length<=szV v
 |⟨t,l⟩,u,h=>by
  rw[tokV]at h;rw[szV];rcases Jb.1 h with rfl|h
  ·constructor<;>omega
  ·split at h
   ·cases h
   ·rcases Ed.1 h with h|h
    ·have:=aF l u h;omega
    ·obtain rfl:=Gc.1 h;exact⟨Kc _,Kc _⟩
theorem aF: ∀(l:List zb) (t:zg),t∈tokL l->t.text.length<=szL l/\t.unit.length<=szL l
 |[],_,h=>by rw[tokL]at h;cases h
 |v::r,u,h=>by
  rw[tokL]at h;rw[szL];rcases Ed.1 h with h|h
  ·have:=zFt v u h;omega
  ·have:=aF r u h;omega
end
theorem zD8{l:List zb}(h:szL l<=big):QE (tokL l)=some (gluS (tokL l)):=
 GX fun t ht=>by have:=aF l t ht;omega
theorem zsu{l:List zb}(h:l.length<=big):ZN l=some (l.any badV):=by
 unfold ZN qV;refine KF (BF l badV h (fun i hi=> ?_) ?_) (RA _ _)
 ·have:dB l[i]=some (badV l[i]):=by unfold dB Ho ZZ badV;simp only[fw,Zr,ze,Aa];cases l[i].token.kind==17<;>cases l[i].token.kind==9<;>rfl
  simp only[ZF hi,Da,Zo hi,ze,Aa,fw,this]
 ·simp only[qA,Ba]
theorem lM{d:zD}(hv:szL d.value<=big)(hn:d.name.length<=big):Pm d=some (bif Dg d then 0 else 8):=by
 have hlen:=Wi d.value;unfold Pm Dg;rw[ztF hv];simp only[ze,Aa,zqB hn];cases Sm d.name with
 |false=>simp only[Ta,Da,Va,Zw,Aa,Ub,Ba]
 |true=>
  by_cases he:errS d.value=0
  ·rw[Ka he];have he':(errS d.value==0)=true:=Bb.2 he;have this:((0:Int)==0)=true:=rfl;simp only[he',this,Va,Ba,Ta,zB,zD8 hv,Aa,Cb,bne];cases hg:gluS (tokL d.value)==0 with
   |false=>simp only[Ta,Da,Va,Zw,Aa,Ub,Ba]
   |true=>
    simp only[Va,Ba,Ta,zB,znl hv,Aa,Cb];cases clL d.value with
    |true=>rfl
    |false=>
     simp only[Ba,zsu (show d.value.length<=big by omega),Aa,Xu,Ta,Cb];cases d.value.any badV with
     |true=>rfl
     |false=>
      simp only[Ba,QL,Zr,Aa,QV,Ta,Cb];have hp:=zAo (l:=d.value) (by omega) (bif d.value.isEmpty then !(bif d.value.isEmpty then List.isPrefixOf [45,45] d.name else default)else false);cases hd:d.value with
      |nil=>
       cases List.isPrefixOf [45,45] d.name<;>rfl
      |cons v r=> have hp':=hp (by rw[hd];rfl) (fun b=>bif b then some 8 else some 0);rw[hd]at hp';simp only[List.isEmpty_cons,Ba,Cc,false_and,De]at hp';simp only[List.isEmpty_cons,Ba,Ub,Ta,Cb];refine Eq.trans hp' ?_;cases Wm (v::r)<;>rfl
  ·rw[Ia he];have he':(errS d.value==0)=false:=Ha.2 he;simp only[he',bne,Va,Ba,Ta,Da,Zw,Aa,Ub,Ic]
theorem znO:yo Ny:=by intro Qo ref10_Size' h_ref10_Size x;unfold Ny;exact(.lp (fun _=>(.bif (.bind .rfl fun _=>(.bind (h_ref10_Size _) fun _=> .rfl)) .rfl)) fun _=> .rfl)
theorem znM:yo Oy:=by intro Qm ref04_Size' h_ref04_Size x;unfold Oy;exact(.lp (fun _=>(.bif (.bind .rfl fun _=>(.bind .rfl fun _=>(.bind .rfl fun _=>(.bind (h_ref04_Size _) fun _=> .rfl)))) .rfl)) fun _=> .rfl)
theorem znP:yo Ky:=by intro Ol ref10_long' h_ref10_long x;unfold Ky;exact(.bind .rfl fun _=>(.bif .rfl (.lp (fun _=>(.bif (.bind .rfl fun _=>(.bind (h_ref10_long _) fun _=>(.bif .rfl .rfl))) .rfl)) fun _=> .rfl)))
theorem zoW:yo Xx:=by intro yj cond_look' h_cond_look x;unfold Xx;exact(.bif .rfl (.bif (.bind .rfl fun _=>(.bind .rfl fun _=> .rfl)) (.bif (.bind .rfl fun _=> .rfl) (.join (.bif .rfl (.bif .rfl .rfl)) fun _=>(.bif (.bind .rfl fun _=>(.bif .rfl (.lp (fun _=>(.bif (.bind .rfl fun _=>(.bind (h_cond_look _) fun _=>(.bif .rfl (.join (.bind .rfl fun _=>(.bif .rfl .rfl)) fun _=> .rfl)))) .rfl)) fun _=> .rfl))) .rfl)))))
theorem znL:yo Cu:=by intro QG ref04_Same' h_ref04_Same x;unfold Cu;exact(.bif .rfl (.lp (fun _=>(.bif (.bind .rfl fun _=>(.bind .rfl fun _=>(.bind .rfl fun _=>(.bind .rfl fun _=>(.bind (.cond (h_ref04_Same _)) fun _=>(.bif .rfl .rfl)))))) .rfl)) fun _=> .rfl))
theorem SN(zH cond_reader_told':zk->Option ((zf×Bool)×zk))(h_cond_reader_told: ∀z,Le (zH z) (cond_reader_told' z))(x:zk):Le (ZO zH x) (ZO cond_reader_told' x):=by unfold ZO;exact(.bind .rfl fun _=>(.bif (.bind .rfl fun _=> .rfl) (.bif (.bind .rfl fun _=>(.bind .rfl fun _=>(.bif .rfl (.bind (h_cond_reader_told _) fun _=>(.bif .rfl .rfl))))) .rfl)))
theorem zhl:yo qi:=by intro zH cond_reader_told' h_cond_reader_told x;unfold qi;exact(.bind .rfl fun _=>(.bind .rfl fun _=>(.bif (.bind .rfl fun _=>(.bind (SN _ _ h_cond_reader_told _) fun _=>(.bind .rfl fun _=> .rfl))) (.bind (SN _ _ h_cond_reader_told _) fun _=>(.bif .rfl (.bind .rfl fun _=>(.bif .rfl (.lp (fun _=>(.bif (.bind .rfl fun _=>(.bif .rfl (.bind .rfl fun _=>(.bind (SN _ _ h_cond_reader_told _) fun _=>(.bif .rfl (.need (.bind .rfl fun _=> .rfl))))))) .rfl)) fun _=> .rfl))))))))
theorem znN:yo Bu:=by intro Qn ref10_Same' h_ref10_Same x;unfold Bu;exact(.bind .rfl fun _=>(.bif .rfl (.lp (fun _=>(.bif (.bind .rfl fun _=>(.bind .rfl fun _=>(.bind (h_ref10_Same _) fun _=>(.bif .rfl .rfl)))) .rfl)) fun _=> .rfl)))
end Go.Lv.VT




