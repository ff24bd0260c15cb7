/- The text of a token, as it is written. -/
import Derived.Test.YtkecjfeffabgiaaGreatDoorXc
import Derived.Test.YtkecjfeffabgiaaGreatDoorXb
import Derived.Test.YtkecjfeffabgiaaGreatDoorXa
import Derived.Test.YtkecjfeffabgiaaGreatDoorXd
set_option linter.unusedSimpArgs false
set_option linter.unusedVariables false
namespace Go.Lv.VT
set_option maxRecDepth 100000
def encB(p:UInt8->Bool):Str->Str
 |[]=>[]
 |c::r=>(bif p c then escC c else [c])++encB p r
def quoB(c:UInt8):Bool:=c==10||c==12||c==13||c==34||c==92
def urB(c:UInt8):Bool:=decide (c.toNat<=32)||c==34||c==39||c==40||c==41||c==92||c==127
def Aj:Str->Bool
 |[]=>false
 |c::r=>(c==101||c==69)&&numS r&& !(List.isPrefixOf [45,45] r)
def Vg:Str->Str
 |[]=>[]
 |c::r=>bif Aj (c::r)then escC c++encW false 0 r else ZU (c::r)
def Rn(k:Int):Str:=
 bif k==13 then [32]else bif k==14 then [60,33,45,45]else bif k==15 then [45,45,62]else bif k==16 then [58]else bif k==17 then [59]else bif k==18 then [44]else
 bif k==19 then [91]else bif k==20 then [93]else bif k==21 then [40]else bif k==22 then [41]else bif k==23 then [123]else [125]
def txS(t:ze):Str:=
 bif t.kind==1 then ZU t.text
 else bif t.kind==2 then ZU t.text++[40]
 else bif t.kind==3 then 64::ZU t.text
 else bif t.kind==4 then 35::(bif t.flag then ZU t.text else encW false 0 t.text)
 else bif t.kind==5 then 34::(encB quoB t.text++[34])
 else bif t.kind==7 then [117,114,108,40]++(encB urB t.text++[41])
 else bif t.kind==9 then t.text
 else bif t.kind==10 then numT t.num (!t.flag)
 else bif t.kind==11 then numT t.num false++[37]
 else bif t.kind==12 then numT t.num (!t.flag)++Vg t.unit
 else Rn t.kind
theorem om(p:UInt8->Bool): ∀l:Str,(encB p l).length<=4*l.length
 |[]=>by unfold encB;simp
 |c::r=>by
  have:=Kj c;have:=om p r;unfold encB
  grind
theorem zHi{p:UInt8->Bool}{i:Nat}{l:Str}(h:i<l.length):encB p (l.drop i)=(bif p l[i]then escC l[i]else [l[i]])++encB p (l.drop (i+1)):=by rw[Cb h,encB]
theorem XT {R:Type} {step:Int×List UInt8->Option (LO (Int×List UInt8) (List UInt8) R)} {l acc:Str} {p:UInt8->Bool} (hl:l.length<=100000) (ha:acc.length<=100000000)
  (h1: ∀(i:Nat) (a:Str) (hi:i<l.length),a.length<=500000000->step ((i:Int),a)=some (.again (w64 ((i:Int)+1),a++(bif p l[i]then escC l[i]else [l[i]]))))
  (h2: ∀a,step ((l.length:Int),a)=some (.out a)):Mg step (0,acc)=some (.out (acc++encB p l)):=by
 refine ZI (fun z=> ∃(i:Nat) (a:Str),z=((i:Int),a)/\i<=l.length/\a.length<=acc.length+4*i/\a++encB p (l.drop i)=acc++encB p l) (fun z=>l.length - z.1.toNat) _ ?_ ⟨0,acc,rfl,by omega,by omega,rfl⟩;rintro _ ⟨i,a,rfl,hi,hal,he⟩;rcases ic i l.length with h|h
 ·refine .inl ⟨_,h1 i a h (by omega),⟨i+1,_,by rw[zM (by omega) (by omega)];rfl,by omega,?_,?_⟩,by simp only;rw[zM (by omega) (by omega)];omega⟩
  ·have:=Kj l[i]
   grind
  ·rw[<-he,zHi h,Na]
 ·have:i=l.length:=by omega
  subst this;refine .inr (.inl ⟨_,h2 a,?_⟩);rw[<-he,Xd (ja _)];rw[show encB p []=[] by rw[encB],Db]
theorem BK{l acc:Str}{k:Nat}(d:l.length<=100000)(b:acc.length<=100000000):QD ((l,(k:Int)),acc)=some (acc++encW (Yi k l) k l):=by
 unfold QD;rw[Zk (X6 (dash:=Yi k l) (k:=k) (l:=l) (acc:=acc) d b (fun i a f b=> ?_) (fun a=> ?_))]
 ·have g:decide ((i:Int)<(l.length:Int))=true:=Ga (by omega);have e:geti l (i:Int)=some l[i]:=Zb f;have j:decide ((i:Int)>=(k:Int))=(k - i==0):=by
   by_cases h:k<=i
   ·grind
   ·grind
  have m:((k:Int)==0)=(k==0):=by
   by_cases h:k=0
   ·subst h;rfl
   ·grind
  simp only[g,Ca,e,j,m,za,Aa,A8,BJ];have c:(bif k==0 then true else !(l==[45]))= !Yi k l:=by unfold Yi;cases k==0<;>cases l==[45]<;>rfl
  rw[c];unfold pcW;cases letB l[i]with
  |false=>
   cases k - i==0<;>simp only[zq,Ta,Ra,Ec,Ob,Lb,Ca,Ba,Aa,ko l[i] (show a.length<=1000000000 by omega),zk]
  |true=> cases k - i==0<;>cases digB l[i]<;>cases Yi k l<;>simp only[zq,Ta,Ra,Ec,Ob,Lb,Fe,Rc,aa,Xb,jc,Ca,Ba,Aa,Ey,zo (Lh (show a.length+1<=2000000000 by omega)),ko l[i] (show a.length<=1000000000 by omega),zk]
 grind
theorem d9(l:Str):Yi (qm l) l=(l==[45]):=by unfold Yi qm;split<;>rfl
theorem ww{l acc:Str}(a:l.length<=100000)(b:acc.length<=100000000):QD ((l,((qm l:Nat):Int)),acc)=some (acc++ZU l):=by rw[BK a b,d9];rfl
theorem zGP{n:Nat}{b:Str}(c:n<=1000000000000)(d:b.length<=100000):mq (((n:Int),10),b)=some (b++Lib.decDigits n):=by have a:short b=true:=Ga (by omega);unfold mq;simp only[a,Lb,Oa,decide_true,aa];rw[Ga (by omega),Ga (by omega)];rfl
theorem IV{m:Nat}(n:m<=1000000000000)(p:Bool)(b:Str)(o:b.length<=90000):
  ((mq ((w64 (Int.tdiv (m:Int) 1000),10),b)).bind fun a=>(Uq (w64 (1000+Int.tmod (m:Int) 1000),10)).bind fun d=>need (decide (1<=(d.length:Int)))<|
   (yn (List.drop 1 d,[48])).bind fun c=>zP (X:=List UInt8) (R:=List UInt8) (bif !(c==[])then need (Zj a.length 1 1)<|need (Zj (a++[(46:UInt8)]).length c.length 1)<|some (LX.out (a++[(46:UInt8)]++c))else bif p then need (Zj a.length ([46,48]:Str).length 1)<|some (LX.out (a++([46,48]:Str)))else some (LX.out a)) fun l=>some l)=some (b++Ug m p):=by
 have k:w64 (Int.tdiv (m:Int) 1000)=((m / 1000:Nat):Int):=by rw[show Int.tdiv (m:Int) 1000=((m / 1000:Nat):Int)from rfl,zM (by omega) (by omega)]
 have j:w64 (1000+Int.tmod (m:Int) 1000)=((1000+m%1000:Nat):Int):=by rw[show Int.tmod (m:Int) 1000=((m%1000:Nat):Int)from rfl,zM (by omega) (by omega)];omega
 have f:m%1000<1000:=by omega
 rw[k,j];have i:Uq (((1000+m%1000:Nat):Int),10)=some (49::[d48 (m%1000 / 100),d48 (m%1000 / 10%10),d48 (m%1000%10)]):=by unfold Uq i64B;simp only[decide_true,aa];rw[Ga (by omega),Ga (by omega)];rw[<-OQ f];show some (Lib.itoa _)=_;unfold Lib.itoa;rw[Ja (by omega),Oa]
 have e:=ym (u:=m / 1000) (by omega);rw[zGP (by omega) (by omega),Aa,i,Aa,zo (Ga (by simp))];have g:yn (List.drop 1 (49::[d48 (m%1000 / 100),d48 (m%1000 / 10%10),d48 (m%1000%10)]),[48])=some (Gi (m%1000)):=rfl;rw[g,Aa,zAI];have h:=ME _ f;simp only[Ex,Da,Eb]at h;unfold Ug Vi;cases (Gi (m%1000)).isEmpty with
 |true=>
  simp only[Ta,Ba,Ca];cases p with
  |true=>rw[Ca,zo (Em (by grind) (by omega)),zk,Na];rfl
  |false=>simp_all
 |false=> simp only[Ra,Ba,Ca];rw[zo (Em (by grind) (by omega)),zo (Em (by grind) (by omega)),zk,Na,Na];rfl
theorem AL{n:Int}(d: -1000000000000<=n)(h2:n<=1000000000000)(p:Bool){acc:Str}(c:acc.length<=80000):Js ((n,p),acc)=some (acc++numT n p):=by
 unfold Js numT;simp only[za];by_cases a:n<0
 ·obtain⟨m,rfl⟩: ∃m:Nat,n= -(m:Int):=⟨n.natAbs,by omega⟩;rw[Ga a,Ca,zo (Em (by omega) (by omega)),zk,Ka a];simp only;have b:w64 (0 - -(m:Int))=(m:Int):=by rw[show(0 - -(m:Int))=(m:Int) by omega,zM (by omega) (by omega)]
  rw[b,Int.natAbs_neg,Int.natAbs_natCast,<-Na];exact IV (by omega) p (acc++[45]) (by grind)
 ·obtain⟨m,rfl⟩: ∃m:Nat,n=(m:Int):=⟨n.toNat,by omega⟩;rw[La a,Ba,zk,Ja a];simp only;rw[Int.natAbs_natCast,Vb];exact IV (by omega) p acc (by omega)
theorem zHC: ∀n:Nat,n<256->(ibOr IntKind.u8 (n:Int) 32==101)=(UInt8.ofNat n==101||UInt8.ofNat n==69):=by decide+kernel
theorem zHB(c:UInt8):(ibOr IntKind.u8 (c.toNat:Int) 32==101)=(c==101||c==69):=by have:=zHC c.toNat (Ib c);simp_all
theorem zIi(c:UInt8):decide (Lib.indexByte [10,12,13,34,92] c.toNat.toUInt8>=0)=quoB c:=by
 have: ∀n:Nat,n<256->decide (Lib.indexByte [10,12,13,34,92] n.toUInt8>=0)=quoB (UInt8.ofNat n):=by decide+kernel
 have:=this c.toNat (Ib c);simp_all
theorem zIy(c:UInt8):(decide ((c.toNat:Int)<=32)||decide (Lib.indexByte [34,39,40,41,92,127] c.toNat.toUInt8>=0))=urB c:=by
 have: ∀n:Nat,n<256->(decide ((n:Int)<=32)||decide (Lib.indexByte [34,39,40,41,92,127] n.toUInt8>=0))=urB (UInt8.ofNat n):=by decide+kernel
 have:=this c.toNat (Ib c);simp_all
theorem RU {t:ze} (h:Og t=true) (e:(t.kind==1)=false) (h2:(t.kind==2)=false) (g:(t.kind==3)=false) (d:(t.kind==4)=false) (i:(t.kind==5)=false) (j:(t.kind==7)=false) (f:(t.kind==9)=false)
  (c:(t.kind==10)=false) (b:(t.kind==11)=false) (a:(t.kind==12)=false):13<=t.kind/\t.kind<=24:=by
 unfold Og at h
 grind
theorem zET: ∀n:Nat,n<12->(cz ()).bind (fun a=>geti [a.e0,a.e1,a.e2,a.e3,a.e4,a.e5,a.e6,a.e7,a.e8,a.e9,a.e10,a.e11] (wu8 ((13+n:Int) - 13)))=some (Rn (13+n:Int)):=by decide+kernel
theorem MK(k:Int):(Rn k).length<=4:=by
 unfold Rn;cases k==13<;>cases k==14<;>cases k==15<;>simp only[Ca,Ba]<;>try (simp;done)
 grind
theorem zFC{t:ze}{acc:Str}(x:Og t=true)(R:t.text.length<=5000)(h2:t.unit.length<=5000)(ha:acc.length<=60000):Uv (t,acc)=some (acc++txS t):=by
 have one: ∀q:Str,q.length<=90000->Zj q.length 1 1=true:=fun q hq=>Em (by omega) (by omega);have z: ∀l:Str,l.length<=5000->(ZU l).length<=20000:=fun l hl=>by have:=Lj (l==[45]) (qm l) l;unfold ZU;omega
 unfold Uv txS;simp only[za];cases H:t.kind==1 with
 |true=>simp only[Ca,ku,Aa,ww (show t.text.length<=100000 by omega) (show acc.length<=100000000 by omega)]
 |false=>
 cases L:t.kind==2 with
 |true=> simp only[Ca,Ba,ku,Aa,ww (show t.text.length<=100000 by omega) (show acc.length<=100000000 by omega)];have:=z t.text R;rw[zo (one _ (by grind)),Na]
 |false=>
 cases M:t.kind==3 with
 |true=> simp only[Ca,Ba,ku,Aa];rw[zo (one _ (by omega)),ww (by omega) (by grind),Na];rfl
 |false=>
 cases Q:t.kind==4 with
 |true=>
  simp only[Ca,Ba,ku,Aa];cases t.flag with
  |true=> simp only[Ca,zk];rw[zo (one _ (by omega)),ww (by omega) (by grind),Na];rfl
  |false=> simp only[Ba,zk];rw[zo (one _ (by omega)),show(0:Int)=((0:Nat):Int)from rfl,BK (by omega) (by grind),Na];rfl
 |false=>
 cases P:t.kind==5 with
 |true=>
  simp only[Ca,Ba];have k:maxLen=9223372036854775807:=rfl;rw[zo (one _ (by omega)),zo (Ga (by omega))];have C:=om quoB t.text;rw[Zk (XT (p:=quoB) (l:=t.text) (acc:=acc++[34]) (by omega) (by grind) (fun i a F y=> ?_) (fun a=> ?_))]
  ·rw[zo (one _ (by grind)),Na,Na];rfl
  ·have D:decide ((i:Int)<(t.text.length:Int))=true:=Ga (by omega);have A:decide ((0:Int)<=(i:Int))=true:=Ga (by omega);simp only[D,A,Lb,Ca,zF,Oa,Xa F,Aa,mr,zIi];cases quoB t.text[i]with
   |true=>simp only[Ca,ko _ (show a.length<=1000000000 by omega),Aa,zk]
   |false=>simp only[Ba,Ey,Aa,zo (Lh (show a.length+1<=2000000000 by omega)),zk]
  ·grind
 |false=>
 cases O:t.kind==7 with
 |true=>
  simp only[Ca,Ba];have k:maxLen=9223372036854775807:=rfl;rw[zo (Em (by grind) (by omega)),zo (Ga (by omega))];have C:=om urB t.text;rw[Zk (XT (p:=urB) (l:=t.text) (acc:=acc++[117,114,108,40]) (by omega) (by grind) (fun i a F y=> ?_) (fun a=> ?_))]
  ·rw[zo (one _ (by grind)),Na,Na]
  ·have D:decide ((i:Int)<(t.text.length:Int))=true:=Ga (by omega);have A:decide ((0:Int)<=(i:Int))=true:=Ga (by omega);simp only[D,A,Lb,Ca,zF,Oa,Xa F,Aa,mr];rw[<-zIy];cases decide ((t.text[i].toNat:Int)<=32)with
   |true=>simp only[Ta,zU,Aa,Ca,jc,ko _ (show a.length<=1000000000 by omega),zk]
   |false=>
    simp only[Ra,zu,Aa,Ba,Xb];cases decide (Lib.indexByte [34,39,40,41,92,127] t.text[i].toNat.toUInt8>=0)with
    |true=>simp only[Ca,ko _ (show a.length<=1000000000 by omega),Aa,zk]
    |false=>simp only[Ba,Ey,Aa,zo (Lh (show a.length+1<=2000000000 by omega)),zk]
  ·grind
 |false=>
 cases N:t.kind==9 with
 |true=> simp only[Ca,Ba];rw[zo (Em (by omega) (by omega))]
 |false=>
 have g:(t.kind==10||t.kind==11||t.kind==12)=true->rngS t=true/\(!(t.unit==[])==(t.kind==12))=true:=by intro Z;unfold Og at x;simp only[H,L,M,Q,P,O,N,Z,Ue,Ba,Ca,Da]at x;exact⟨x.1,x.2.1⟩
 have b:rngS t=true-> -1000000000000<=t.num/\t.num<=1000000000000:=by intro j;unfold rngS at j;simp only[Da,Eb]at j;exact⟨j.1,j.2.1⟩
 cases s:t.kind==10 with
 |true=> obtain⟨u,w⟩:=b (g (by rw[s];rfl)).1;simp only[Ca,Ba,AL u w _ (show acc.length<=80000 by omega),Aa]
 |false=>
 cases E:t.kind==11 with
 |true=>
  obtain⟨u,w⟩:=b (g (by grind)).1;have T:(numT t.num false).length<=25:=by
   have:=wy (m:=t.num.natAbs) (by omega) false;unfold numT;rw[Ea];split
   ·grind
   ·grind
  simp only[Ca,Ba,AL u w _ (show acc.length<=80000 by omega),Aa];rw[zo (one _ (by grind)),Na]
 |false=>
 cases o:t.kind==12 with
 |true=>
  obtain⟨j,X⟩:=g (by grind);obtain⟨u,w⟩:=b j;rw[o]at X;have T:(numT t.num (!t.flag)).length<=25:=by
   have:=wy (m:=t.num.natAbs) (by omega) (!t.flag);unfold numT;rw[Ea];split
   ·grind
   ·grind
  simp only[Ca,Ba,AL u w _ (show acc.length<=80000 by omega),Aa];cases G:t.unit with
  |nil=>grind
  |cons c r=>
   rw[G,Fa]at h2;have h:geti (c::r) 0=some c:=rfl;have B:List.drop 1 (c::r)=r:=rfl;have f:decide (1<=((c::r:Str).length:Int))=true:=Ga (by grind);simp only[h,B,f,jc,zF,Aa,zHB,LY,Jp,ku];have v:(acc++numT t.num (!t.flag)).length<=100000000:=by rw[Ea];omega
   have d:=ww (l:=c::r) (acc:=acc++numT t.num (!t.flag)) (by grind) v;have e:Vg (c::r)=(bif (c==101||c==69)&&numS r&& !(List.isPrefixOf [45,45] r)then escC c++encW false 0 r else ZU (c::r)):=rfl;rw[e];have Y:(c==101||c==69)=true->Z9 ((c.toNat:Int),acc++numT t.num (!t.flag))=some (acc++numT t.num (!t.flag)++escC c):=fun _=>ko c (by grind);cases S:c==101||c==69 with
   |false=> simp_all
   |true=>
    simp only[zu,Aa,Ca,aa];cases J:numS r with
    |false=> simp_all
    |true=>
     simp only[zu,Aa,Ca,aa];cases hp:List.isPrefixOf [45,45] r with
     |true=> simp only[Ta,Ba,d,Aa];rw[Na]
     |false=> simp only[Ra,Ca,Y S,Aa];have K:=Kj c;rw[show(0:Int)=((0:Nat):Int)from rfl,BK (by omega) (by rw[Ea,Ea];omega)];rw[Na,Na];rfl
 |false=>
 obtain⟨W,V⟩:=RU x H L M Q P O N s E o;obtain⟨n,J⟩: ∃n:Nat,t.kind=13+(n:Int):=⟨(t.kind - 13).toNat,by omega⟩;have h:=zET n (by omega);rw[<-J]at h;have k:=MK t.kind;simp only[Ba];have U:cz ()=some ⟨[32],[60,33,45,45],[45,45,62],[58],[59],[44],[91],[93],[40],[41],[123],[125]⟩:=rfl;rw[U]at h ⊢;simp only[Aa]at h ⊢;rw[h];simp only[Aa];rw[zo (Em (by omega) (by omega))]
theorem Ar{c:UInt8}(h0:c≠0)(h:c.toNat<128)(R:Str): ∃d t,escC c++R=92::d::t/\(d==10)=false/\zA (d::t)=([c],R):=by
 unfold escC;cases hg:decide (32<c.toNat)&&decide (c.toNat<127)&& !digB c&& !alB c with
 |true=>
  have hx:Qw c=false/\(c==10)=false:=by
   have: ∀n:Nat,n<256->(decide (32<(UInt8.ofNat n).toNat)&&decide ((UInt8.ofNat n).toNat<127)&& !digB (UInt8.ofNat n)&& !alB (UInt8.ofNat n))=true->Qw (UInt8.ofNat n)=false/\(UInt8.ofNat n==10)=false:=by decide+kernel
   have:=this c.toNat (Ib c);rw[Yc]at this;exact this hg
  exact⟨c,R,rfl,hx.2,by show(if Qw c then _ else _)=_;grind⟩
 |false=> obtain⟨d,t,e,hd,h10⟩:=uK (n:=c.toNat) (Ib c) ([32]++R);refine⟨d,t,by grind,h10,?_⟩;have hh:=N8 (n:=c.toNat) (Ib c) R;rw[show(32::R:Str)=[32]++R from rfl,e]at hh;show(if Qw d then(xg (hexes 6 0 (d::t)).1,unsp (hexes 6 0 (d::t)).2)else _)=_;rw[Ka hd,hh,PR h0 h];rfl
theorem zIA(n:Nat):xg n≠[]:=by
 unfold xg Hl
 grind
theorem U9(r:Str):(zA r).1≠[]:=by
 cases r with
 |nil=>show Hl≠[];decide
 |cons c r=>
  show(if Qw c then(xg (hexes 6 0 (c::r)).1,unsp (hexes 6 0 (c::r)).2)else([c],r)).1≠[];split
  ·exact zIA _
  ·simp
theorem rE{x:Str}(h:(zt x).1=[]):(zt x).2=x:=by
 cases x with
 |nil=>rw[Qx]
 |cons c r=>
  rw[zZ]at h ⊢;split
  ·grind
  ·rename_i b;rw[Ja b]at h;split
   ·rename_i a;rw[Ka a]at h;exact absurd (List.append_eq_nil_iff.1 h).1 (U9 r)
   ·rfl
theorem Yl{c:UInt8}{r:Str}(h:Zz (c::r)=true):c≠0/\Zz r=true:=by
 unfold Zz at h ⊢
 grind
theorem VK{dash:Bool}(R:Str): ∀(k:Nat) (l:Str),Zz l=true->(dash=true-> ∀c∈l,c.toNat<128)->zt (encW dash k l++R)=(l++(zt R).1,(zt R).2)
 |_,[],_,_=>by rw[encW];rfl
 |k,c::r,h,a=>by obtain⟨f,d⟩:=Yl h;rw[encW,Na,u7 f (fun e=>a e c (Ac ..)),VK R (k - 1) r d (fun e x b=>a e x (Cc _ b))];rfl
theorem oo{l:Str}(R:Str)(h:Zz l=true):zt (ZU l++R)=(l++(zt R).1,(zt R).2):=by refine VK R _ _ h (fun e c a=> ?_);simp_all
theorem WS{l:Str}(R:Str)(k:Nat)(h:Zz l=true):zt (encW false k l++R)=(l++(zt R).1,(zt R).2):=VK R k l h (fun e=>by cases e)
theorem zCW(c:UInt8):(quoB c=true->c.toNat<128)/\(quoB c=false->(c==34)=false/\(c==10)=false/\(c==92)=false):=by
 have: ∀n:Nat,n<256->(quoB (UInt8.ofNat n)=true->(UInt8.ofNat n).toNat<128)/\(quoB (UInt8.ofNat n)=false->(UInt8.ofNat n==34)=false/\(UInt8.ofNat n==10)=false/\(UInt8.ofNat n==92)=false):=by decide+kernel
 have:=this c.toNat (Ib c);simp_all
theorem sP(x:Str): ∀(l:Str),Zz l=true->Zo 34 (encB quoB l++34::x)=(some l,x)
 |[],_=>by rw[encB,Vb,Q0,Ka (by decide)]
 |c::r,h=>by
  obtain⟨f,k⟩:=Yl h;have m:=sP x r k;obtain⟨p,j⟩:=zCW c;rw[encB,Na];cases a:quoB c with
  |true=>
   obtain⟨d,t,o,n,b⟩:=Ar f (p a) (encB quoB r++34::x);rw[Ca,o,Q0,Ja (by decide),Ja (by decide),Ka (by decide),show(d::t).isEmpty=false from rfl,Ja (by decide),show atS (d::t) 0=d from rfl,n,Ja (by decide),b]
   grind
  |false=> obtain⟨g,i,e⟩:=j a;rw[Ba,Ld,Q0,g,Ja (by decide),i,Ja (by decide),e,Ja (by decide),m];rfl
theorem WP(c:UInt8):(urB c=true->c.toNat<128)/\(urB c=false->(c==41)=false/\spB c=false/\(c==34||c==39||c==40||unB c)=false/\(c==92)=false/\(c==34)=false/\(c==39)=false):=by
 have: ∀n:Nat,n<256->(urB (UInt8.ofNat n)=true->(UInt8.ofNat n).toNat<128)/\(urB (UInt8.ofNat n)=false->(UInt8.ofNat n==41)=false/\spB (UInt8.ofNat n)=false/\(UInt8.ofNat n==34||UInt8.ofNat n==39||UInt8.ofNat n==40||unB (UInt8.ofNat n))=false/\(UInt8.ofNat n==92)=false/\(UInt8.ofNat n==34)=false/\(UInt8.ofNat n==39)=false):=by decide+kernel
 have:=this c.toNat (Ib c);simp_all
theorem rP(x:Str): ∀(l:Str),Zz l=true->urlS (encB urB l++41::x)=(some l,x)
 |[],_=>by rw[encB,Vb,Xj,Ka (by decide)]
 |c::r,h=>by
  obtain⟨g,n⟩:=Yl h;have o:=rP x r n;obtain⟨s,k⟩:=WP c;rw[encB,Na];cases a:urB c with
  |true=>
   obtain⟨d,t,q,p,e⟩:=Ar g (s a) (encB urB r++41::x);have m:escS (92::d::t)=true:=by unfold escS;rw[show atS (92::d::t) 1=d from rfl,p];rfl
   rw[Ca,q,Xj,Ja (by decide),Ja (by decide),m,Ja (by decide),Ka (by decide),e]
   grind
  |false=> obtain⟨i,j,f,b,_,_⟩:=k a;rw[Ba,Ld,Xj,i,Ja (by decide),j,Ja (by decide),f,b,Ob,Rc,Ja (by decide),Ja (by decide),o];rfl
theorem zFN(x:Str)(l:Str)(h:Zz l=true):past spB (encB urB l++41::x)=encB urB l++41::x/\(atS (encB urB l++41::x) 0==34||atS (encB urB l++41::x) 0==39)=false:=by
 cases l with
 |nil=>exact⟨rfl,rfl⟩
 |cons c r=>
  obtain⟨b,q⟩:=Yl h;obtain⟨k,f⟩:=WP c;rw[encB,Na];cases a:urB c with
  |true=> obtain⟨d,t,i,s,n⟩:=Ar b (k a) (encB urB r++41::x);rw[Ca,i];exact⟨rfl,rfl⟩
  |false=> obtain⟨p,e,o,m,j,g⟩:=f a;rw[Ba,Ld];refine⟨by rw[past,e];rfl,?_⟩;show(c==34||c==39)=false;rw[j,g];rfl
theorem zH5{n:Int}{p:Bool}:(partT (n.natAbs%1000) p).isEmpty=((n.natAbs%1000==0)&& !p):=(Sm (r:=n.natAbs%1000) (by omega) p).2.2.2.2
def sgT(n:Int):Str:=if n<0 then [45]else []
theorem Vx(n:Int)(p:Bool):numT n p=sgT n++(Lib.decDigits (n.natAbs / 1000)++dotS (if(partT (n.natAbs%1000) p).isEmpty then none else some (partT (n.natAbs%1000) p))):=by
 have h:=(Sm (r:=n.natAbs%1000) (by omega) p).2.2.2.1;unfold numT Ug sgT;rw[h];cases (partT (n.natAbs%1000) p).isEmpty with
 |true=>rfl
 |false=>rfl
theorem q2_T(n:Int)(p:Bool)(x:Str):Ag (numT n p++x)=past digB (dotS (if(partT (n.natAbs%1000) p).isEmpty then none else some (partT (n.natAbs%1000) p))++x):=by
 obtain⟨d,f,g⟩:=Iu (n.natAbs / 1000);obtain⟨c,r,e,a⟩:=Az (n.natAbs / 1000);rw[Vx];generalize dotS _=t;unfold Ag;have b:unsign ((sgT n++(Lib.decDigits (n.natAbs / 1000)++t))++x)=Lib.decDigits (n.natAbs / 1000)++(t++x):=by
  unfold sgT;split
  ·rw[Na,Ld,Na];rfl
  ·rw[Vb,Na,e,Bb];unfold unsign Lg;rw[show atS (c::(r++(t++x))) 0=c from rfl,Ia.2 (Nh a).2.1,Ia.2 (Nh a).1];rfl
 rw[b,gy _ _ d]
theorem RJ{n:Int}{p:Bool}:(partT (n.natAbs%1000) p).all digB=true:=(Sm (r:=n.natAbs%1000) (by omega) p).1
theorem bI{n:Int}{p:Bool}(h:(partT (n.natAbs%1000) p).isEmpty=true)(x:Str):zJ (numT n p++x)=(match expS (Zi (past digB x)).1 with|some r=>(r,false)|none=>Zi (past digB x)):=by rw[Mj,q2_T,h];rfl
theorem uO{n:Int}{p:Bool}(h:(partT (n.natAbs%1000) p).isEmpty=false)(x:Str):zJ (numT n p++x)=(match expS (past digB x)with|some r=>(r,false)|none=>(past digB x,false)):=by
 obtain⟨c,r,b⟩: ∃c r,partT (n.natAbs%1000) p=c::r:=by
  cases f:partT (n.natAbs%1000) p with
  |nil=>grind
  |cons c r=>grind
 have a:=RJ (n:=n) (p:=p);rw[Mj,q2_T,h];have e:past digB (dotS (some (partT (n.natAbs%1000) p))++x)=46::(partT (n.natAbs%1000) p++x):=rfl;rw[show(if false=true then none else some (partT (n.natAbs%1000) p))=some (partT (n.natAbs%1000) p)from rfl,e];have g:Zi (46::(partT (n.natAbs%1000) p++x))=(past digB x,false):=by
  have d:digB c=true:=by rw[b,Xc,Da]at a;exact a.1
  unfold Zi;rw[show atS (46::(partT (n.natAbs%1000) p++x)) 1=c by rw[b];rfl,d,show(atS (46::(partT (n.natAbs%1000) p++x)) 0==46&&true)=true from rfl,Ka rfl];rw[show(46::(partT (n.natAbs%1000) p++x)).drop 1=partT (n.natAbs%1000) p++x from rfl,gy _ _ a]
 grind
theorem RZ(n:Int)(p:Bool)(x:Str):nbS (numT n p++x)=true:=by
 obtain⟨c,r,b,a⟩:=Az (n.natAbs / 1000);rw[Vx,b];unfold nbS;have d:unsign ((sgT n++(c::r++dotS (if(partT (n.natAbs%1000) p).isEmpty then none else some (partT (n.natAbs%1000) p))))++x)=c::(r++dotS (if(partT (n.natAbs%1000) p).isEmpty then none else some (partT (n.natAbs%1000) p))++x):=by
  unfold sgT;split
  ·rfl
  ·unfold unsign Lg;show(if(c==43||c==45)then _ else _)=_;rw[Ia.2 (Nh a).2.1,Ia.2 (Nh a).1];rfl
 rw[d];unfold undot;rw[show atS (c::(r++dotS (if(partT (n.natAbs%1000) p).isEmpty then none else some (partT (n.natAbs%1000) p))++x)) 0=c from rfl,Ia.2 (Nh a).2.2.1,Ja (by decide)];exact a
theorem YN{n:Int}(c: -1000000000000<=n)(h2:n<=1000000000000){p:Bool}{x:Str}(f:(zJ (numT n p++x)).1=x):(numP (numT n p++x)).val=n:=by
 have h:=nE (numT n p++x);rw[f]at h;have b:=YC (RZ n p x);have d:=(Xn c h2 p).1;have a:=zq7 c h2 p;generalize numP (numT n p++x)=N at h b ⊢;have g:N.txt=numT n p:=(List.append_left_inj x).1 h;rw[<-g]at a d;have e:=yX b (Gc d (by decide));rw[a]at e
 grind
theorem Kq(n:Int)(p:Bool)(x:Str): ∃c r,numT n p++x=c::r/\(c==45||digB c)=true/\spB c=false/\(c==34||c==39)=false/\(c==35)=false/\c≠47:=by
 obtain⟨c,r,hc,hcd⟩:=Az (n.natAbs / 1000);have key: ∀d:UInt8,(d==45||digB d)=true->spB d=false/\(d==34||d==39)=false/\(d==35)=false/\d≠47:=by
  intro d;have: ∀n:Nat,n<256->(UInt8.ofNat n==45||digB (UInt8.ofNat n))=true->spB (UInt8.ofNat n)=false/\(UInt8.ofNat n==34||UInt8.ofNat n==39)=false/\(UInt8.ofNat n==35)=false/\UInt8.ofNat n≠47:=by decide+kernel
  have:=this d.toNat (Ib d)
  rwa [Yc]at this
 rw[Vx,hc];unfold sgT
 grind
theorem Fx(n:Int)(p:Bool)(x:Str):ZV (numT n p++x)=zN (numT n p++x):=by obtain⟨c,r,e,g,f,d,b,h⟩:=Kq n p x;have a:=RZ n p x;rw[e]at a ⊢;rw[Pv,f,Ja (by decide),d,Ja (by decide),b,Ob,Ja (by decide),a,Ka rfl]
inductive zje:ze->Prop
 |cId (l:Str) (h0:l≠[]) (h:Zz l=true):zje ⟨1,l,0,[],false⟩
 |cFn (l:Str) (h0:l≠[]) (h:Zz l=true):zje ⟨2,l,0,[],false⟩
 |cAt (l:Str) (h0:l≠[]) (h:Zz l=true):zje ⟨3,l,0,[],false⟩
 |cHash (l:Str) (f:Bool) (h0:l≠[]) (h:Zz l=true) (hb:f=true\/Jk l=true):zje ⟨4,l,0,[],f⟩
 |cStr (l:Str) (h:Zz l=true):zje ⟨5,l,0,[],false⟩
 |cUrl (l:Str) (h:Zz l=true):zje ⟨7,l,0,[],false⟩
 |cDel (c:UInt8) (h:Ki c.toNat=true):zje ⟨9,[c],0,[],false⟩
 |cNum (n:Int) (f:Bool) (h1: -1000000000000<=n) (h2:n<=1000000000000) (hf:f=true->Int.tmod n 1000=0):zje ⟨10,[],n,[],f⟩
 |cPct (n:Int) (h1: -1000000000000<=n) (h2:n<=1000000000000):zje ⟨11,[],n,[],false⟩
 |cDim (n:Int) (u:Str) (f:Bool) (h1: -1000000000000<=n) (h2:n<=1000000000000) (hf:f=true->Int.tmod n 1000=0) (h0:u≠[]) (h:Zz u=true):zje ⟨12,[],n,u,f⟩
 |cMark (k:Int) (h1:13<=k) (h2:k<=24):zje ⟨k,[],0,[],false⟩
theorem Mq{t:ze}(h:Og t=true):zje t:=by
 obtain⟨k,l,n,u,f⟩:=t;unfold Og at h;simp only at h;by_cases h1:(k==1||k==2||k==3)=true
 ·rw[h1,Ca]at h;simp only[Da,He,Ia,ma]at h;obtain⟨a,b,rfl,rfl,rfl⟩:=h;simp only[Sb,ma]at h1;rcases h1 with(rfl|rfl)|rfl
  ·exact .cId l a b
  ·exact .cFn l a b
  ·exact .cAt l a b
 ·rw[Bool.not_eq_true]at h1;rw[h1,Ba]at h;by_cases h4:(k==4)=true
  ·rw[h4,Ca]at h;simp only[Da,He,Ia,ma,Sb]at h;obtain⟨a,b,c,rfl,rfl⟩:=h;rw[ma]at h4;subst h4;exact .cHash l f a b c
  ·rw[Bool.not_eq_true]at h4;rw[h4,Ba]at h;by_cases h5:(k==5||k==7)=true
   ·rw[h5,Ca]at h;simp only[Da,He,ma]at h;obtain⟨b,rfl,rfl,rfl⟩:=h;simp only[Sb,ma]at h5;rcases h5 with rfl|rfl
    ·exact .cStr l b
    ·exact .cUrl l b
   ·rw[Bool.not_eq_true]at h5;rw[h5,Ba]at h;by_cases h9:(k==9)=true
    ·rw[h9,Ca]at h;simp only[Da,He,ma]at h;obtain⟨b,rfl,rfl,rfl⟩:=h;rw[ma]at h9;subst h9;unfold delS at b;split at b
     ·exact .cDel _ b
     ·cases b
    ·rw[Bool.not_eq_true]at h9;rw[h9,Ba]at h;by_cases h10:(k==10||k==11||k==12)=true
     ·rw[h10,Ca]at h;unfold rngS at h;simp only[Da,Eb,Sb,He,ma]at h;obtain⟨⟨a1,a2,a3⟩,a4,a5,a6,rfl⟩:=h;have hf:f=true->Int.tmod n 1000=0:=by
       intro e;rcases a3 with a3|a3
       ·grind
       ·exact a3
      simp only[Sb,ma]at h10;rcases h10 with(rfl|rfl)|rfl
      ·have:u=[]:=by
        cases u with
        |nil=>rfl
        |cons c r=>grind
       subst this;exact .cNum n f a1 a2 hf
      ·have:u=[]:=by
        cases u with
        |nil=>rfl
        |cons c r=>grind
       subst this;have:f=false:=by
        rcases a6 with a6|a6
        ·grind
        ·exact a6
       subst this;exact .cPct n a1 a2
      ·have:u≠[]:=by rintro rfl;exact absurd a4 (by decide)
       exact .cDim n u f a1 a2 hf this a5
     ·rw[Bool.not_eq_true]at h10;rw[h10,Ba]at h;simp only[Da,He,Eb,ma]at h;obtain⟨⟨a1,a2⟩,rfl,rfl,rfl,rfl⟩:=h;exact .cMark k a1 a2
def neu(x:Str):Prop:=x=[]\/ ∃y,x=47::y
theorem zIW{x:Str}(a:neu x)(c:UInt8)(r:Str):brS c (r++x)=brS c r:=by
 rcases a with rfl|⟨y,rfl⟩
 ·grind
 ·exact sZ c r y
theorem iC{x:Str}(a:neu x)(q:Str):nmS (q++x)=nmS q:=by
 rcases a with rfl|⟨y,rfl⟩
 ·grind
 ·exact gB q y
theorem uE{x:Str}(a:neu x):zt x=([],x):=by
 rcases a with rfl|⟨y,rfl⟩
 ·exact Qx
 ·rw[zZ,Ja (by decide),show escS (47::y)=false from rfl,Ja (by decide)]
theorem uQ{p:UInt8->Bool}(h:p 47=false){x:Str}(a:neu x):past p x=x:=by
 rcases a with rfl|⟨y,rfl⟩
 ·rfl
 ·rw[past,h];rfl
theorem zIR{x:Str}(a:neu x):atS x 0=0\/atS x 0=47:=by
 rcases a with rfl|⟨y,rfl⟩
 ·exact .inl rfl
 ·exact .inr rfl
theorem kT(c:UInt8)(r:Str):Aj (c::r)=((c==101||c==69)&&numS r&& !(List.isPrefixOf [45,45] r)):=rfl
theorem LK(b:UInt8)(r:Str):numS (b::r)=bif b==45 then !(r==[])&&digN (r.headD 0).toNat else digN b.toNat:=rfl
theorem tL{c:UInt8}{r:Str}(h:Aj (c::r)=true):c=101\/c=69:=by
 unfold Aj at h
 grind
theorem zEr{d:UInt8}{t:Str}(h:(d==10)=false):escS (92::d::t)=true:=by unfold escS;rw[show atS (92::d::t) 1=d from rfl,h];rfl
theorem Dn(c:UInt8)(r:Str):Vg (c::r)=bif Aj (c::r)then escC c++encW false 0 r else ZU (c::r):=rfl
theorem ML{w:Str}(f:w≠[])(h:Zz w=true)(x:Str):zt (Vg w++x)=(w++(zt x).1,(zt x).2):=by
 cases w with
 |nil=>grind
 |cons c r=>
  obtain⟨a,e⟩:=Yl h;rw[Dn];cases b:Aj (c::r)with
  |true=>
   have d:c.toNat<128:=by rcases tL b with rfl|rfl<;>decide
   rw[Ca,Na,uP a d,WS x 0 e];rfl
  |false=>rw[Ba];exact oo x h
theorem OI{w:Str}(i:w≠[])(h:Zz w=true):nmS (Vg w)=true:=by
 cases w with
 |nil=>grind
 |cons c r=>
  obtain⟨a,j⟩:=Yl h;rw[Dn];cases e:Aj (c::r)with
  |true=>
   have f:c.toNat<128:=by rcases tL e with rfl|rfl<;>decide
   obtain⟨d,t,b,g,_⟩:=Ar a f (encW false 0 r);rw[Ca,b];exact Y3 rfl (zEr g)
  |false=>rw[Ba];exact Tm (by simp)
theorem Cm{q:Str}(h:nmS q=true):q≠[]:=by rintro rfl;exact absurd h (by decide)
theorem AJ{q:Str}(h:nmS q=true)(x:Str):past digB (q++x)=q++x/\Zi (q++x)=(q++x,true):=by
 obtain⟨_,_,_,_,_,_,_,_,b,a,_⟩:=Dx (Ws h);cases q with
 |nil=>exact absurd rfl (Cm h)
 |cons c r=> refine⟨by rw[Bb,past,show digB c=false from a];rfl,?_⟩;unfold Zi;rw[show atS ((c::r)++x) 0=c from rfl,show(c==46)=false from b];rfl
theorem XP{w:Str}(h0:w≠[])(h:Zz w=true)(x:Str):expS (Vg w++x)=none\/ ∃e s,(e=101\/e=69)/\(s=[]\/s=[45])/\w=e::s/\Vg w=e::s:=by
 cases w with
 |nil=>grind
 |cons c r=>
  obtain⟨h1,h2⟩:=Yl h;have he92: ∀t:Str,expS (92::t)=none:=fun t=>rfl;cases he:Aj (c::r)with
  |true=>
   left;have hc:c.toNat<128:=by rcases tL he with rfl|rfl<;>decide
   obtain⟨d,t,e1,e2,_⟩:=Ar h1 hc (encW false 0 r++x);have:Vg (c::r)++x=92::d::t:=by rw[Dn,he,Ca,Na,e1]
   grind
  |false=>
   have hu:Vg (c::r)=ZU (c::r):=by rw[Dn,he,Ba]
   rw[hu];have hn:ZU (c::r)=pcW ((c::r:Str)==[45]) (qm (c::r)) c++encW ((c::r:Str)==[45]) (qm (c::r) - 1) r:=rfl;obtain⟨d,t,e,hd⟩:=YE (dash:=(c::r:Str)==[45]) (k:=qm (c::r)) (by unfold qm;split<;>omega) c (encW ((c::r:Str)==[45]) (qm (c::r) - 1) r);rw[hn,e];rcases hd with⟨rfl,h3⟩|⟨rfl,h3,h4,h5,h6⟩
   ·grind
   ·by_cases hee:d=101\/d=69
    ·have hf:qm (d::r)=1:=by rcases hee with rfl|rfl<;>rfl
     have hdash:((d::r:Str)==[45])=false:=h3;rw[hdash,hf]at h6;have h6':t=encW false 0 r:=h6;have hee':(d==101||d==69)=true:=by rcases hee with rfl|rfl<;>rfl
     cases r with
     |nil=>
      right;rw[encW]at h6'
      grind
     |cons d2 r2=>
      obtain⟨g1,g2⟩:=Yl h2;have hnum:numS (d2::r2)=false:=by
       cases hq:numS (d2::r2)with
       |false=>rfl
       |true=>
        exfalso;rw[kT,hee',hq,aa,aa]at he;have hp:List.isPrefixOf [45,45] (d2::r2)=true:=by
         cases hh:List.isPrefixOf [45,45] (d2::r2)with
         |true=>rfl
         |false=>grind
        obtain⟨z,hz⟩:=Hf.1 hp;rw[<-hz]at hq;exact absurd hq (by show numS (45::45::z)≠true;unfold numS;simp[digN])
      have hgoal: ∀q:Str,digB (atS (unsign q) 0)=false->expS (d::q)=none:=by intro q hq;rw[Vo];show((d==101||d==69)&&digB (atS (unsign q) 0))=false;rw[hq,Ec]
      have hpc:encW false 0 (d2::r2)=pcW false 0 d2++encW false 0 r2:=rfl;by_cases h45:d2=45
      ·subst h45;have hp1:pcW false 0 45=[45]:=rfl;cases r2 with
       |nil=>
        right;rw[hpc,hp1,encW]at h6'
        grind
       |cons d3 r3=>
        left;obtain⟨k1,k2⟩:=Yl g2;have hdg:digB d3=false:=by
         have:digN d3.toNat=false:=by have:=hnum;unfold numS at this;simpa using this
         exact this
        rw[Bb];refine hgoal _ ?_;rw[h6',hpc,hp1];show digB (atS (encW false 0 (d3::r3)++x) 0)=false;rw[show encW false 0 (d3::r3)=pcW false 0 d3++encW false 0 r3 from rfl];unfold pcW;cases hl:letB d3 with
        |true=>exact hdg
        |false=>
         rw[Ob,Ob,Ba];have hc:d3.toNat<128:=by
          by_cases hc:d3.toNat<128
          ·exact hc
          ·rw[(FI hc).1]at hl;cases hl
         obtain⟨d4,t4,e4,_,_⟩:=Ar k1 hc (encW false 0 r3++x);rw[Na,e4];rfl
      ·left;have hdg:digB d2=false:=by
        have:digN d2.toNat=false:=by have:=hnum;rw[LK,Ia.2 h45,Ba]at this;exact this
        exact this
       rw[Bb];refine hgoal _ ?_;rw[h6',hpc];unfold pcW;cases hl:letB d2 with
       |true=>
        have hs:Lg d2=false:=by unfold Lg;rw[Ia.2 h45,Rc,Ia];rintro rfl;exact absurd hl (by decide)
        show digB (atS (if Lg d2 then _ else d2::_) 0)=false;rw[hs,Ja (by decide)];exact hdg
       |false=>
        rw[Ob,Ob,Ba];have hc:d2.toNat<128:=by
         by_cases hc:d2.toNat<128
         ·exact hc
         ·rw[(FI hc).1]at hl;cases hl
        obtain⟨d4,t4,e4,_,_⟩:=Ar g1 hc (encW false 0 r2++x);rw[Na,e4];rfl
    ·left;rw[Vo];have:(d==101||d==69)=false:=by rw[Xe,Ia,Ia];exact not_or.1 hee
     rw[Bb,show atS (d::(t++x)) 0=d from rfl,this,Ob]
theorem wU{w:Str}(d:w≠[])(h:Zz w=true){x:Str}(a:neu x):expS (Vg w++x)=none:=by
 rcases XP d h x with c|⟨e,s,i,b,_,f⟩
 ·exact c
 ·rw[f,Vo];have g:digB (atS (unsign (s++x)) 0)=false:=by
   rcases b with rfl|rfl
   ·rcases a with rfl|⟨y,rfl⟩<;>rfl
   ·rcases a with rfl|⟨y,rfl⟩<;>rfl
  grind
theorem fK{n:Int}{f:Bool}(a:f=true->Int.tmod n 1000=0):(partT (n.natAbs%1000) (!f)).isEmpty=f:=by
 rw[zH5,Eg];cases f with
 |false=>grind
 |true=>
  grind
theorem UC{n:Int}{p:Bool}{z:Str}(b:past digB z=z)(h2:Zi z=(z,true))(a:expS z=none):zJ (numT n p++z)=(z,(partT (n.natAbs%1000) p).isEmpty):=by
 cases c:(partT (n.natAbs%1000) p).isEmpty with
 |true=>rw[bI c,b,h2];simp only[a]
 |false=>rw[uO c,b];simp only[a]
theorem zHR{x:Str}(a:neu x):past digB x=x/\Zi x=(x,true)/\expS x=none:=by
 rcases a with rfl|⟨y,rfl⟩
 ·exact⟨rfl,rfl,rfl⟩
 ·exact⟨rfl,rfl,rfl⟩
theorem zAa{q:Str}(h:[45,45,62].isPrefixOf q=true): ∃t,(zt q).2=62::t:=by obtain⟨t,rfl⟩:=Hf.1 h;refine⟨t,?_⟩;rw[show [45,45,62]++t=45::45::62::t from rfl,zZ,Ka (by decide),zZ,Ka (by decide),zZ,Ja (by decide),Ja (by unfold escS;rw[show atS (62::t) 0=62 from rfl];simp)]
theorem vD{c:UInt8}{r:Str}(h:nmS (c::r)=true)(u: ∀t,(zt (c::r)).2≠62::t):brS c r=7:=by
 obtain⟨i,b,g,d,f,p,a,v,s,l,k⟩:=Dx (Ws h);have o:[45,45,62].isPrefixOf (c::r)=false:=by
  cases j:[45,45,62].isPrefixOf (c::r)with
  |false=>rfl
  |true=>obtain⟨t,e⟩:=zAa j;grind
 have n:atS (c::r) 0=c:=rfl;rw[n]at i b g d f a;unfold brS;rw[i,Ja (by decide),b,g,Ja (by decide),d,Ob,Ja (by decide),OZ h,Ja (by decide),o,Ja (by decide),zIh (q:=c::r) (m:=[33,45,45]) (show(60:UInt8)≠0 by decide) a,Ja (by decide),f,Ob,Ja (by decide),h,Ka rfl]
theorem F7{q z:Str}(h:nmS q=true)(i:atS z 0≠10):nmS (q++z)=true:=by
 have b:(atS z 0==10)=false:=Ia.2 i
 match q with
 |[]=>exact absurd h (by decide)
 |[c]=>
  unfold nmS at h ⊢;have f:atS ([c]++z) 0=c:=rfl;rw[show atS [c] 0=c from rfl]at h;rw[f];cases a:c==45 with
  |true=>rw[a,Ka rfl]at h;exact absurd (show(fstB 0||(0:UInt8)==45||escS [])=true from h) (by decide)
  |false=> rw[a,Ja (by decide)]at h;rw[Ja (by decide)];unfold escS at h ⊢;rw[show atS [c] 0=c from rfl,show atS [c] 1=0 from rfl]at h;rw[f,show atS ([c]++z) 1=atS z 0 from rfl,b];exact h
 |c::d::t=>
  unfold nmS at h ⊢;have f:atS ((c::d::t)++z) 0=c:=rfl;have g:atS ((c::d::t)++z) 1=d:=rfl;have j:((c::d::t)++z).drop 1=(d::t)++z:=rfl;rw[show atS (c::d::t) 0=c from rfl,show atS (c::d::t) 1=d from rfl,show(c::d::t:Str).drop 1=d::t from rfl]at h;rw[f,g,j];cases a:c==45 with
  |true=>
   rw[a,Ka rfl]at h;rw[Ka rfl];cases t with
   |nil=> unfold escS at h ⊢;rw[show atS [d] 0=d from rfl,show atS [d] 1=0 from rfl]at h;rw[show atS ([d]++z) 0=d from rfl,show atS ([d]++z) 1=atS z 0 from rfl,b];exact h
   |cons e t=>exact h
  |false=> rw[a,Ja (by decide)]at h;rw[Ja (by decide)];exact h
theorem yJ(x:Str):zt (40::x)=([],40::x):=by rw[zZ,Ja (by decide),Ja (by unfold escS;rw[show atS (40::x) 0=40 from rfl];simp)]
theorem H7{l:Str}(h:Zz l=true)(x:Str):zt (ZU l++40::x)=(l,40::x):=by rw[oo _ h,yJ,Db]
theorem ai{q:Str}(h:q≠[]): ∃c r,q=c::r:=by
 cases q with
 |nil=>grind
 |cons c r=>grind
def Yh(f:Bool)(l:Str):Str:=bif f then ZU l else encW false 0 l
theorem rT{f:Bool}{l:Str}(h:Zz l=true)(x:Str):zt (Yh f l++x)=(l++(zt x).1,(zt x).2):=by
 cases f with
 |true=>exact oo x h
 |false=>exact WS x 0 h
theorem zBI{f:Bool}{l:Str}(h0:l≠[])(h:Zz l=true)(hb:f=true\/Jk l=true):(letB (atS (Yh f l) 0)||escS (Yh f l))=true/\(f=true->nmS (Yh f l)=true)/\(f=false->nmS (Yh f l)=false):=by
 cases f with
 |true=>
  have hn:=Tm h0;obtain⟨c,r,e⟩:=ai (Cm hn);refine⟨?_,fun _=>hn,fun e=>by cases e⟩;show(letB (atS (ZU l) 0)||escS (ZU l))=true;rw[e]at hn ⊢;rcases YQ hn with h1|h1
  ·rw[show letB (atS (c::r) 0)=true from h1];rfl
  ·grind
 |false=>
  have hb':Jk l=true:=by rcases hb with hb|hb;cases hb;exact hb
  cases l with
  |nil=>grind
  |cons c r=>
   have hw:Yh false (c::r)=pcW false 0 c++encW false 0 r:=rfl;have hb2:(digN c.toNat||(c==45&&(r==[]||digN (r.headD 0).toNat)))=true:=hb';by_cases h45:c=45
   ·subst h45;rw[hw,show pcW false 0 45=[45]from rfl];refine⟨rfl,fun e=>by(cases e),fun _=> ?_⟩;cases r with
    |nil=>rfl
    |cons d t=>
     have hd:digB d=true:=hb2;have hp:pcW false 0 d=[d]:=by
      unfold pcW;have:letB d=true:=by unfold letB;rw[hd,Fe];rfl
      rw[this];rfl
     rw[show encW false 0 (d::t)=pcW false 0 d++encW false 0 t from rfl,hp];have hk: ∀n:Nat,n<256->digB (UInt8.ofNat n)=true->fstB (UInt8.ofNat n)=false/\(UInt8.ofNat n==45)=false/\(UInt8.ofNat n==92)=false:=by decide+kernel
     have:=hk d.toNat (Ib d);rw[Yc]at this;obtain⟨k1,k2,k3⟩:=this hd;show(fstB d||d==45||escS (d::(encW false 0 t)))=false;unfold escS;rw[k1,k2,show atS (d::encW false 0 t) 0=d from rfl,k3];rfl
   ·have hd:digB c=true:=by
     have:digN c.toNat=true:=by rw[Ia.2 h45,Ob,Rc]at hb2;exact hb2
     exact this
    have hl:letB c=true:=by unfold letB;rw[hd,Fe];rfl
    have hp:pcW false 0 c=[c]:=by unfold pcW;rw[hl];rfl
    rw[hw,hp];refine⟨by rw[show letB (atS ([c]++encW false 0 r) 0)=letB c from rfl,hl];rfl,fun e=>by(cases e),fun _=> ?_⟩;have hk: ∀n:Nat,n<256->digB (UInt8.ofNat n)=true->fstB (UInt8.ofNat n)=false/\(UInt8.ofNat n==45)=false/\(UInt8.ofNat n==92)=false:=by decide+kernel
    have:=hk c.toNat (Ib c);rw[Yc]at this;obtain⟨k1,k2,k3⟩:=this hd;unfold nmS escS;rw[show atS ([c]++encW false 0 r) 0=c from rfl,k2,Ja (by decide),k1,k3];rfl
theorem zI3(c:UInt8)(h:Ki c.toNat=true)(h2:c≠92):brS c []=8:=by
 have: ∀n:Nat,n<256->Ki (UInt8.ofNat n).toNat=true->UInt8.ofNat n≠92->brS (UInt8.ofNat n) []=8:=by decide+kernel
 have:=this c.toNat (Ib c);simp_all
theorem zH7(x:Str):past digB (37::x)=37::x/\Zi (37::x)=(37::x,true)/\expS (37::x)=none:=⟨rfl,rfl,rfl⟩
theorem GQ{n:Int}{u:Str}{p:Bool}(x:Str):(numT n p++Vg u)++x=numT n p++(Vg u++x):=Na ..
theorem wJ{c:UInt8}{r x:Str}(a:neu x):ZV (c::(r++x))=nxB (brS c r) c (r++x):=by rw[Qq,zIW a]
theorem tQ{n:Int}(b: -1000000000000<=n)(h2:n<=1000000000000)(x:Str):ZV ((numT n false++[37])++x)=(⟨11,[],n,[],false⟩,x):=by rw[Na,Ld];obtain⟨c,e,d⟩:=zH7 x;have a:=UC (n:=n) (p:=false) c e d;have f:=YN b h2 (p:=false) (x:=37::x) (by rw[a]);rw[Fx];unfold zN;rw[a,f,Ja (by unfold nmS escS;rw[show atS (37::x) 0=37 from rfl];simp[fstB,alB]),Ka (by rfl)];rfl
theorem D8{l:Str}(d:l≠[])(h:Zz l=true)(hu:(lowS l==[117,114,108])=false)(x:Str):ZV ((ZU l++[40])++x)=(⟨2,l,0,[],false⟩,x):=by rw[Na,Ld];have b:=F7 (z:=40::x) (Tm d) (by show(40:UInt8)≠10;decide);have a:=H7 h x;obtain⟨c,r,e⟩:=ai (Cm b);rw[e]at b a ⊢;rw[Qq,vD b (by grind),Rj];unfold Qm;rw[a];simp only;rw[Ka (by rfl),hu,Ob,Ja (by decide)];rfl
theorem IJ{l:Str}(h:Zz l=true)(x:Str):ZV ((34::(encB quoB l++[34]))++x)=(⟨5,l,0,[],false⟩,x):=by rw[Bb,Na,Ld,Qq,show brS 34 (encB quoB l++34::x)=1 from rfl,Vs,sP x l h];rfl
theorem VP{l:Str}(h:Zz l=true)(x:Str):ZV (([117,114,108,40]++(encB urB l++[41]))++x)=(⟨7,l,0,[],false⟩,x):=by
 have e:([117,114,108,40]++(encB urB l++[41]))++x=117::114::108::40::(encB urB l++41::x):=by simp
 obtain⟨c,b⟩:=zFN x l h;have a:zt (117::114::108::40::(encB urB l++41::x))=([117,114,108],40::(encB urB l++41::x)):=by rw[zZ,Ka (by decide),zZ,Ka (by decide),zZ,Ka (by decide),yJ]
 rw[e,Qq,vD (by rfl) (by grind),Rj];unfold Qm;rw[a];simp only;rw[Ka (by rfl),Gu,show(40::(encB urB l++41::x)).drop 1=encB urB l++41::x from rfl,c,b,Ka (by decide),rP x l h];rfl
theorem uR{k:Int}(b:13<=k)(h2:k<=24)(x:Str):ZV (Rn k++x)=(⟨k,[],0,[],false⟩,if k=13 then past spB x else x):=by
 have a:k=13\/k=14\/k=15\/k=16\/k=17\/k=18\/k=19\/k=20\/k=21\/k=22\/k=23\/k=24:=by omega
 rcases a with rfl|rfl|rfl|rfl|rfl|rfl|rfl|rfl|rfl|rfl|rfl|rfl<;>rfl
theorem Vp(l:Str):txS ⟨1,l,0,[],false⟩=ZU l:=by rw[txS];rfl
theorem Am(l:Str):txS ⟨2,l,0,[],false⟩=ZU l++[40]:=by rw[txS];rfl
theorem Wp(l:Str):txS ⟨3,l,0,[],false⟩=64::ZU l:=by rw[txS];rfl
theorem Oq(l:Str)(f:Bool):txS ⟨4,l,0,[],f⟩=35::Yh f l:=by rw[txS];rfl
theorem dn(l:Str):txS ⟨5,l,0,[],false⟩=34::(encB quoB l++[34]):=by rw[txS];rfl
theorem Bq(l:Str):txS ⟨7,l,0,[],false⟩=[117,114,108,40]++(encB urB l++[41]):=by rw[txS];rfl
theorem Gq(c:UInt8):txS ⟨9,[c],0,[],false⟩=[c]:=by rw[txS];rfl
theorem Dq(n:Int)(f:Bool):txS ⟨10,[],n,[],f⟩=numT n (!f):=by rw[txS];rfl
theorem Cq(n:Int):txS ⟨11,[],n,[],false⟩=numT n false++[37]:=by rw[txS];rfl
theorem Fq(n:Int)(u:Str)(f:Bool):txS ⟨12,[],n,u,f⟩=numT n (!f)++Vg u:=by rw[txS];rfl
theorem Nq{k:Int}(b:13<=k)(h2:k<=24):txS ⟨k,[],0,[],false⟩=Rn k:=by
 have a:k=13\/k=14\/k=15\/k=16\/k=17\/k=18\/k=19\/k=20\/k=21\/k=22\/k=23\/k=24:=by omega
 rcases a with rfl|rfl|rfl|rfl|rfl|rfl|rfl|rfl|rfl|rfl|rfl|rfl<;>rfl
theorem zGY{t:ze}(h:zje t)(hb: ¬(t.kind=9/\t.text=[92]))(hu:ug t=false){x:Str}(hx:neu x):ZV (txS t++x)=(t,x):=by
 have ha:=zIR hx;have hn0:nmS x=false:=by have:=iC hx [];rw[Vb]at this;rw[this];rfl
 cases h with
 |cId l h0 h=>
  have hn:=Tm h0;have hnd:=oo x h;rw[uE hx,Db]at hnd;obtain⟨c,r,e⟩:=ai (Cm hn);rw[Vp];have hr:=zC1 h;rw[e]at hn hr hnd ⊢;rw[Bb,wJ hx,vD hn (by grind),Rj];unfold Qm;rw[show c::(r++x)=(c::r)++x from rfl,hnd]
  grind
 |cFn l h0 h=>rw[Am];exact D8 h0 h (by unfold ug at hu;exact hu) x
 |cAt l h0 h=>
  have hnd:=oo x h;rw[uE hx,Db]at hnd;rw[Wp,Bb];have hb6:brS 64 (ZU l++x)=6:=by unfold brS;rw[iC hx,Tm h0];rfl
  rw[Qq,hb6,Us,hnd]
 |cHash l f h0 h hbb=>
  obtain⟨g1,g2,g3⟩:=zBI h0 h hbb;have hnd:=rT (f:=f) h x;rw[uE hx,Db]at hnd;rw[Oq,Bb];have hb2:brS 35 (Yh f l)=2:=by unfold brS;rw[g1];rfl
  have hf:nmS (Yh f l)=f:=by
   cases f with
   |true=>exact g2 rfl
   |false=>exact g3 rfl
  rw[wJ hx,hb2,Un,hnd,iC hx,hf]
 |cStr l h=>rw[dn];exact IJ h x
 |cUrl l h=>rw[Bq];exact VP h x
 |cDel c h=>
  have h92:c≠92:=by rintro rfl;exact hb ⟨rfl,rfl⟩
  rw[Gq,Bb,wJ hx,zI3 c h h92,fB,Vb]
 |cNum n f h1 h2 hf=>
  obtain⟨e1,e2,e3⟩:=zHR hx;have he:=UC (n:=n) (p:= !f) e1 e2 e3;rw[fK hf]at he;rw[Dq,Fx];unfold zN;rw[YN h1 h2 (by rw[he]),he]
  grind
 |cPct n h1 h2=>rw[Cq];exact tQ h1 h2 x
 |cDim n u f h1 h2 hf h0 h=> have hnm:=OI h0 h;obtain⟨e1,e2⟩:=AJ hnm x;have he:=UC (n:=n) (p:= !f) e1 e2 (wU h0 h hx);rw[fK hf]at he;rw[Fq,GQ,Fx];unfold zN;rw[YN h1 h2 (by rw[he]),he];simp only;rw[iC hx,hnm,Ka rfl,ML h0 h,uE hx,Db]
 |cMark k h1 h2=> rw[Nq h1 h2,uR h1 h2,uQ (by decide) hx,ite_self]
def Y8(t:ze)(x r:Str):Prop:=zJ (numT t.num (!t.flag)++x)=(r,t.flag)/\nmS r=false/\(atS r 0==37)=false
def zGH(x r:Str):Prop:= ∃s,(s=[]\/s=[45])/\digB (atS (unsign (s++x)) 0)=true/\nmS (past digB (unsign (s++x)))=true/\r=(zt (past digB (unsign (s++x)))).2
def yZ(t:ze)(x r:Str):Prop:=r=x\/(t.kind=13/\r=past spB x)\/(t.kind=10/\Y8 t x r)\/(t.kind=12/\zGH x r)
theorem CQ{w r:Str}(h:expS w=some r):(atS w 0=101\/atS w 0=69)/\digB (atS (unsign (w.drop 1)) 0)=true/\r=past digB (unsign (w.drop 1)):=by
 unfold expS at h
 grind
theorem UE{l a:Str}(h:l++a=l):a=[]:=by simp_all
theorem FJ{a b:ze}(h:a=b):a.text=b.text:=by rw[h]
theorem zD5{t:ze}(h:zje t)(hu:ug t=false){x:Str}(ht:(ZV (txS t++x)).1=t):yZ t x (ZV (txS t++x)).2:=by
 cases h with
 |cId l h0 h=>
  left;have hn:=Tm h0;have hnd:=oo x h;obtain⟨c,r,e⟩:=ai (Cm hn);rw[Vp]at ht ⊢;rw[e,Bb]at ht ⊢;have hbr:=Mo c (r++x);rw[ht]at hbr;have hbr':brS c (r++x)=7:=hbr.symm;rw[Qq,hbr',Rj]at ht ⊢;rw[show c::(r++x)=ZU l++x by rw[e];rfl]at ht ⊢;unfold Qm at ht ⊢;rw[hnd]at ht ⊢;simp only at ht ⊢;split at ht
  ·rename_i h40;exfalso;split at ht
   ·have:=congrArg ze.kind ht;rcases DJ (urlS (past spB ((zt x).2.drop 1))).1 with hk|hk<;>rw[hk]at this<;>cases this
   grind
  ·rename_i h40;rw[Ja h40];have:=FJ ht;exact rE (UE this)
 |cFn l h0 h=> left;rw[Am,D8 h0 h (by unfold ug at hu;exact hu)]
 |cAt l h0 h=> left;rw[Wp,Bb]at ht ⊢;have hbr:=Mo 64 (ZU l++x);rw[ht]at hbr;have hbr':brS 64 (ZU l++x)=6:=hbr.symm;rw[Qq,hbr',Us,oo x h]at ht ⊢;exact rE (UE (FJ ht))
 |cHash l f h0 h hbb=> left;rw[Oq,Bb]at ht ⊢;have hbr:=Mo 35 (Yh f l++x);rw[ht]at hbr;have hbr':brS 35 (Yh f l++x)=2:=hbr.symm;rw[Qq,hbr',Un,rT h x]at ht ⊢;exact rE (UE (FJ ht))
 |cStr l h=>left;rw[dn,IJ h]
 |cUrl l h=>left;rw[Bq,VP h]
 |cDel c h=> left;rw[Gq,Bb]at ht ⊢;have hbr:=Mo c ([]++x);rw[ht]at hbr;have hbr':brS c ([]++x)=8:=hbr.symm;rw[Qq,hbr',fB,Vb]
 |cNum n f h1 h2 hf=>
  right;right;left;refine⟨rfl,?_⟩;rw[Dq,Fx]at ht ⊢;unfold Y8;show zJ (numT n (!f)++x)=_/\_;unfold zN at ht ⊢
  grind
 |cPct n h1 h2=>left;rw[Cq,tQ h1 h2]
 |cDim n u f h1 h2 hf h0 h=>
  have hnm:=OI h0 h;obtain⟨e1,e2⟩:=AJ hnm x;rw[Fq,GQ,Fx]at ht ⊢;have plain:expS (Vg u++x)=none->(zN (numT n (!f)++(Vg u++x))).2=x:=by
   intro hexp;have he:=UC (n:=n) (p:= !f) e1 e2 hexp;unfold zN at ht ⊢;rw[he]at ht ⊢;simp only at ht ⊢;split at ht
   ·rename_i hn;rw[Ka hn];rw[ML h0 h]at ht ⊢;have:(u++(zt x).1)=u:=congrArg ze.unit ht;exact rE (UE this)
   ·grind
  rcases XP h0 h x with hx|⟨e,s,he,hs,_,hu'⟩
  ·left;exact plain hx
  ·cases hexp:expS (Vg u++x)with
   |none=>left;exact plain hexp
   |some z=>
    right;right;right;refine⟨rfl,s,hs,?_⟩;obtain⟨_,hd,hz⟩:=CQ hexp;have hdrop:(Vg u++x).drop 1=s++x:=by rw[hu'];rfl
    rw[hdrop]at hd hz;have hend:zJ (numT n (!f)++(Vg u++x))=(z,false):=by
     cases hp:(partT (n.natAbs%1000) (!f)).isEmpty with
     |true=>rw[bI hp,e1,e2];simp only[hexp]
     |false=>rw[uO hp,e1];simp only[hexp]
    unfold zN at ht ⊢
    grind
 |cMark k h1 h2=>
  rw[Nq h1 h2,uR h1 h2];by_cases hk:k=13
  ·right;grind
  ·left
   grind
abbrev tkSp:ze:=⟨13,[],0,[],false⟩
inductive PcT:Str->List ze->Prop
 |one (t:ze) (h:zje t) (hb: ¬(t.kind=9/\t.text=[92])) (hu:ug t=false):PcT (txS t) [t]
 |back:PcT [92,10] [⟨9,[92],0,[],false⟩,tkSp]
 |url (l m:Str) (s:Bool) (h:Zz l=true) (hl:lowS l=[117,114,108]) (hm:Zz m=true):
   PcT (ZU l++40::((if s then [32]else [])++34::(encB quoB m++[34]))) (⟨2,l,0,[],false⟩::((if s then [tkSp]else [])++[⟨5,m,0,[],false⟩]))
theorem dQ{l:Str}(h:lowS l=[117,114,108]): ∃a r,l=a::r/\(a=117\/a=85):=by
 cases l with
 |nil=>cases h
 |cons a r=>
  have h1:Rk a=117:=by unfold lowS at h;rw[ib]at h;injection h
  have: ∀n:Nat,n<256->Rk (UInt8.ofNat n)=117->UInt8.ofNat n=117\/UInt8.ofNat n=85:=by decide+kernel
  have:=this a.toNat (Ib a);simp_all
theorem kH{l:Str}(a:l≠[])(z:Str):nmS (ZU l++40::z)=true:=F7 (Tm a) (by show(40:UInt8)≠10;decide)
theorem Fu{k:Int}(a:13<=k)(h2:k<=24):k=13\/k=14\/k=15\/k=16\/k=17\/k=18\/k=19\/k=20\/k=21\/k=22\/k=23\/k=24:=by omega
theorem XE{s:Str}{P:List ze}(h:PcT s P):nmS s=true\/(∃n p U t,P=[t]/\s=numT n p++U/\t.num=n/\(U=[]/\t.kind=10\/U=[37]\/ ∃u,u≠[]/\Zz u=true/\U=Vg u))\/
  (∃c r,s=c::r/\(c=64\/c=35\/c=34)/\nbS s=false)\/(∃c,s=[c]/\Ki c.toNat=true)\/(∃k,13<=k/\k<=24/\s=Rn k)\/s=[92,10]:=by
 cases h with
 |one t h q v=>
  cases h with
  |cId l b h=>left;rw[Vp];exact Tm b
  |cFn l b h=>left;rw[Am];exact kH b []
  |cAt l b h=>right;right;left;rw[Wp];exact⟨64,_,rfl, .inl rfl,rfl⟩
  |cHash l f b h j=>right;right;left;rw[Oq];exact⟨35,_,rfl, .inr (.inl rfl),rfl⟩
  |cStr l h=>right;right;left;rw[dn];exact⟨34,_,rfl, .inr (.inr rfl),rfl⟩
  |cUrl l h=>left;rw[Bq];rfl
  |cDel c h=>right;right;right;left;rw[Gq];grind
  |cNum n f d e g=>right;left;exact⟨n, !f,[],_,rfl,by rw[Dq,Db],rfl, .inl ⟨rfl,rfl⟩⟩
  |cPct n d e=>right;left;exact⟨n,false,[37],_,rfl,Cq n,rfl, .inr (.inl rfl)⟩
  |cDim n u f d e g b h=>right;left;exact⟨n, !f,Vg u,_,rfl,Fq n u f,rfl, .inr (.inr ⟨u,b,h,rfl⟩)⟩
  |cMark k d e=>right;right;right;right;left;exact⟨k,d,e,Nq d e⟩
 |back=>grind
 |url l m s h i o=> left;obtain⟨a,r,rfl,_⟩:=dQ i;exact kH (by simp) _
theorem kK(c:UInt8)(h:Ki c.toNat=true):spB c=false/\nbS [c]=false/\c≠101/\c≠69:=by
 have: ∀n:Nat,n<256->Ki (UInt8.ofNat n).toNat=true->spB (UInt8.ofNat n)=false/\nbS [UInt8.ofNat n]=false/\UInt8.ofNat n≠101/\UInt8.ofNat n≠69:=by decide+kernel
 have:=this c.toNat (Ib c);simp_all
theorem zE1{s:Str}(h:digB (atS (unsign s) 0)=true):nbS s=true:=by
 unfold nbS undot;have:(atS (unsign s) 0==46)=false:=Ia.2 (Nh h).2.2.1
 grind
theorem UH{s:Str}{P:List ze}(h:PcT s P)(d:digB (atS (unsign s) 0)=true): ∃n p U t,P=[t]/\s=numT n p++U/\t.num=n/\(U=[]/\t.kind=10\/U=[37]\/ ∃u,u≠[]/\Zz u=true/\U=Vg u):=by
 have a:=zE1 d;rcases XE h with h|h|⟨c,r,e,_,h⟩|⟨c,rfl,f⟩|⟨k,b,g,rfl⟩|rfl
 ·rw[OZ h]at a;cases a
 ·exact h
 ·grind
 ·rw[(kK c f).2.1]at a;cases a
 ·rcases Fu b g with rfl|rfl|rfl|rfl|rfl|rfl|rfl|rfl|rfl|rfl|rfl|rfl<;>cases a
 ·cases a
theorem zKt{s:Str}{P:List ze}(h:PcT s P)(a:spB (atS s 0)=true):s=[32]:=by
 rcases XE h with h|⟨n,p,U,t,_,rfl,_⟩|⟨c,r,rfl,g,_⟩|⟨c,rfl,f⟩|⟨k,d,b,rfl⟩|rfl
 ·rw[(Dx (Ws h)).1]at a;cases a
 ·obtain⟨c,r,e,_,b,_⟩:=Kq n p U;rw[e]at a;rw[show atS (c::r) 0=c from rfl,b]at a;cases a
 ·rcases g with rfl|rfl|rfl<;>cases a
 ·rw[show atS [c] 0=c from rfl,(kK c f).1]at a;cases a
 ·rcases Fu d b with rfl|rfl|rfl|rfl|rfl|rfl|rfl|rfl|rfl|rfl|rfl|rfl<;>first|rfl|cases a
 ·cases a
theorem LD{s:Str}{P:List ze}(h:PcT s P){b:UInt8}(f:b=47\/b=42)(d:atS s 0=b):s=[b]:=by
 rcases XE h with h|⟨n,p,U,t,_,rfl,_⟩|⟨c,r,rfl,g,_⟩|⟨c,rfl,j⟩|⟨k,a,i,rfl⟩|rfl
 ·have a:=Ws h;rw[d]at a;rcases f with rfl|rfl<;>cases a
 ·obtain⟨c,r,e,a,_⟩:=Kq n p U;rw[e]at d;rw[show c=b from d]at a;rcases f with rfl|rfl<;>cases a
 ·rw[show c=b from d]at g
  grind
 ·rw[show c=b from d]
 ·rcases Fu a i with rfl|rfl|rfl|rfl|rfl|rfl|rfl|rfl|rfl|rfl|rfl|rfl<;>rcases f with rfl|rfl<;>cases d
 ·rcases f with rfl|rfl<;>cases d
theorem Ik{s:Str}{P:List ze}(h:PcT s P):s≠[]:=by
 rcases XE h with h|⟨n,p,U,t,_,rfl,_⟩|⟨c,r,rfl,d,_⟩|⟨c,rfl,f⟩|⟨k,b,a,rfl⟩|rfl
 ·exact Cm h
 ·obtain⟨c,r,e,_⟩:=Kq n p U;rw[e];simp
 ·simp
 ·simp
 ·rcases Fu b a with rfl|rfl|rfl|rfl|rfl|rfl|rfl|rfl|rfl|rfl|rfl|rfl<;>decide
 ·simp
theorem zEY{l:Str}{c:UInt8}{r:Str}(b:c=101\/c=69)(h:ZU l=c::r): ∃t,l=c::t:=by
 cases l with
 |nil=>unfold ZU at h;rw[encW]at h;cases h
 |cons a t=>
  have g:ZU (a::t)=pcW ((a::t:Str)==[45]) (qm (a::t)) a++encW ((a::t:Str)==[45]) (qm (a::t) - 1) t:=rfl;obtain⟨d,u,e,f⟩:=YE (dash:=(a::t:Str)==[45]) (k:=qm (a::t)) (by unfold qm;split<;>omega) a (encW ((a::t:Str)==[45]) (qm (a::t) - 1) t)
  grind
theorem zJG{s:Str}{P:List ze}(h:PcT s P)(b:atS s 0=101\/atS s 0=69): ∃l t z,Zz l=true/\P=[t]/\(t.kind=1\/t.kind=2)/\t.text=l/\s=ZU l++z/\(z=[]\/z=[40]):=by
 cases h with
 |one t h B C=>
  cases h with
  |cId l i h=>exact⟨l,_,[],h,rfl, .inl rfl,rfl,by rw[Vp,Db], .inl rfl⟩
  |cFn l i h=>exact⟨l,_,[40],h,rfl, .inr rfl,rfl,Am l, .inr rfl⟩
  |cAt l i h=>rw[Wp]at b;rcases b with b|b<;>cases b
  |cHash l f i h v=>rw[Oq]at b;rcases b with b|b<;>cases b
  |cStr l h=>rw[dn]at b;rcases b with b|b<;>cases b
  |cUrl l h=>rw[Bq]at b;rcases b with b|b<;>cases b
  |cDel c h=>
   rw[Gq]at b;obtain⟨_,_,p,q⟩:=kK c h;rcases b with b|b
   ·exact absurd b p
   ·exact absurd b q
  |cNum n f d g w=>
   rw[Dq]at b;obtain⟨c,r,e,d,_⟩:=Kq n (!f) [];rw[Db]at e;rw[e]at b;rcases b with b|b<;>(rw[show c=_ from b]at d;cases d)
  |cPct n d g=>
   rw[Cq]at b;obtain⟨c,r,e,d,_⟩:=Kq n false [37];rw[e]at b;rcases b with b|b<;>(rw[show c=_ from b]at d;cases d)
  |cDim n u f d g w i h=>
   rw[Fq]at b;obtain⟨c,r,e,d,_⟩:=Kq n (!f) (Vg u);rw[e]at b;rcases b with b|b<;>(rw[show c=_ from b]at d;cases d)
  |cMark k d g=> rw[Nq d g]at b;rcases Fu d g with rfl|rfl|rfl|rfl|rfl|rfl|rfl|rfl|rfl|rfl|rfl|rfl<;>rcases b with b|b<;>cases b
 |back=>rcases b with b|b<;>cases b
 |url l m s h o y=>
  exfalso;obtain⟨a,r,rfl,D⟩:=dQ o;obtain⟨c,A,e⟩:=ai (Cm (Tm (l:=a::r) (by simp)));have j:c=101\/c=69:=by rw[e]at b;exact b
  obtain⟨t,x⟩:=zEY j e;injection x with e3 _
  grind
def ShS(s r:Str):Prop:=r=s\/ ∃d y,digB d=true/\s=48::46::d::y/\r=46::d::y
theorem BR(cap:Nat)(l:Str):capF cap 0 (48::l)=capF cap 0 l:=by show capF cap (min cap (decN 0 48)) l=_;rw[show decN 0 48=0 from rfl,Nat.min_zero]
theorem zFF(A:Str)(p:Int):thoV (48::A) p=thoV A p:=by
 unfold thoV;by_cases a:p<0
 ·rw[Ka a,Ka a];by_cases c:(A.length:Int)+p<0
  ·have b:(((48::A:Str).length:Int)+p).toNat=0:=by rw[Fa];omega
   grind
  ·have b:(((48::A:Str).length:Int)+p).toNat=((A.length:Int)+p).toNat+1:=by rw[Fa];omega
   rw[b,Md,BR]
 ·rw[Ja a,Ja a,BR]
theorem gF(d:UInt8)(y:Str)(e:digB d=true):ZV (48::46::d::y)=ZV (46::d::y):=by
 have j:Lg 48=false/\Lg 46=false:=by decide
 have b:Ag (48::46::d::y)=46::d::y:=rfl;have a:Ag (46::d::y)=46::d::y:=rfl;have h:zJ (48::46::d::y)=zJ (46::d::y):=by rw[Mj,Mj,b,a]
 have g:(numP (48::46::d::y)).val=(numP (46::d::y)).val:=by have c:numP (48::46::d::y)=⟨[],[48],dotP (46::d::y),expP (Zi (46::d::y)).1⟩:=rfl;have i:numP (46::d::y)=⟨[],[],dotP (46::d::y),expP (Zi (46::d::y)).1⟩:=rfl;rw[c,i];unfold NumP.val;simp only[Ld,Vb,zFF]
 have f:nbS (46::d::y)=true:=e;rw[Pv,Ja (by decide),Ja (by decide),show((48:UInt8)==35)=false from rfl,Ob,Ja (by decide),show nbS (48::46::d::y)=true from rfl,Ka rfl,
  Pv,Ja (by decide),Ja (by decide),show((46:UInt8)==35)=false from rfl,Ob,Ja (by decide),f,Ka rfl]
 unfold zN;rw[h,g]
theorem capG(cap:Nat): ∀(l:Str) (n:Nat),valG n l<=cap->capF cap n l=valG n l
 |[],n,_=>rfl
 |c::l,n,h=>by
  have b:valG n (c::l)=valG (decN n c) l:=rfl;rw[b]at h ⊢;have a:decN n c<=valG (decN n c) l:=by rw[Xx l (decN n c)];have:=Ie (decN n c) (jf (n:=l.length) (show 0<10 by omega));omega
  rw[capF,Nat.min_eq_right (Gc a h)];exact capG cap l (decN n c) h
theorem Y0: ∀(k n:Nat),n*10 ^ k<=1000->Mh k n=n*10 ^ k
 |0,n,_=>by rw[Mh,Nat.pow_zero,Tf]
 |k+1,n,h=>by
  have c:Pg=1000000000000:=rfl;rw[Mh];have a:0<10 ^ k:=jf (by omega);have e:n*10 ^ (k+1)=10*n*10 ^ k:=by rw[Dg,Ph 10 n,og,Ph (10 ^ k) 10]
  have d:10*n<=10*n*10 ^ k:=Ie _ a;by_cases b:n=0
  ·subst b;simp
  ·rw[Ja (by omega),Nat.min_eq_right (by omega),Y0 k (10*n) (by omega),e]
theorem zEx{n:Int}{p:Bool}(hp:(partT (n.natAbs%1000) p).isEmpty=false){U:Str}(hU:past digB U=U)(hx:expS U=none):
  (numP (46::(partT (n.natAbs%1000) p++U))).val=((n.natAbs%1000:Nat):Int):=by
 obtain⟨k1,k2,k3,_,_⟩:=Sm (r:=n.natAbs%1000) (by omega) p;generalize partT (n.natAbs%1000) p=F at*;obtain⟨c,r,rfl⟩:=ai (show F≠[] by grind);have hc:digB c=true:=by rw[Xc,Da]at k1;exact k1.1
 have hq:Ag (46::(c::r++U))=46::(c::r++U):=rfl;have hpast:past digB (c::r++U)=U:=by rw[gy _ _ k1,hU]
 have hw:Zi (46::(c::r++U))=(U,false):=by unfold Zi;rw[show atS (46::(c::r++U)) 1=c from rfl,hc,show(atS (46::(c::r++U)) 0==46&&true)=true from rfl,Ka rfl,show(46::(c::r++U)).drop 1=c::r++U from rfl,hpast]
 have hrun:List.takeWhile digB (c::r++U)=c::r:=by have:=uu digB (c::r++U);rw[hpast]at this;exact List.append_cancel_right this
 have hd:dotP (46::(c::r++U))=some (c::r):=by unfold dotP;rw[show atS (46::(c::r++U)) 1=c from rfl,hc,show(atS (46::(c::r++U)) 0==46&&true)=true from rfl,Ka rfl,show(46::(c::r++U)).drop 1=c::r++U from rfl,hrun]
 have he:expP U=none:=by unfold expP;rw[Vo]at hx;rw[hx,Ja (by decide)]
 have hP:numP (46::(c::r++U))=⟨[],[],some (c::r),none⟩:=by show(⟨sgOf (46::(c::r++U)),_,dotP (46::(c::r++U)),expP (Zi (46::(c::r++U))).1⟩:NumP)=_;rw[hd,hw,he];rfl
 rw[hP];unfold NumP.val;show(((thoV ([]++(c::r)) (3+0 - ((c::r:Str).length:Int))):Nat):Int)=_;unfold thoV;rw[Vb,Ja (by omega),show(3+0 - ((c::r:Str).length:Int)).toNat=3 - (c::r:Str).length by omega];have hle:valG 0 (c::r)<=1000:=by have:=Ie (valG 0 (c::r)) (jf (n:=3 - (c::r:Str).length) (show 0<10 by omega));omega
 rw[capG _ _ _ (by unfold Pg;omega),Y0 _ _ (by omega),k3]
theorem zEk{m:Nat}(h:m=0):Lib.decDigits m=[48]:=by subst h;decide+kernel
theorem jD{t:ze}{U:Str}(f:U=[]/\t.kind=10\/U=[37]\/ ∃u,u≠[]/\Zz u=true/\U=Vg u):past digB U=U/\expS U=none/\(U=[]\/U=[37]\/(nmS U=true/\(zt U).2=[])):=by
 rcases f with⟨rfl,_⟩|rfl|⟨u,a,h,rfl⟩
 ·exact⟨rfl,rfl, .inl rfl⟩
 ·exact⟨rfl,rfl, .inr (.inl rfl)⟩
 ·have c:=OI a h;have e:=(AJ c []).1;have d:=wU a h (x:=[]) (.inl rfl);have b:=ML a h [];rw[Db]at e d b;exact⟨e,d, .inr (.inr ⟨c,by rw[b,Qx]⟩)⟩
theorem mO(n:Int)(p:Bool)(U:Str):past digB (unsign (numT n p++U))=past digB (dotS (if(partT (n.natAbs%1000) p).isEmpty then none else some (partT (n.natAbs%1000) p))++U):=q2_T n p U
theorem uH{n:Int}{p:Bool}(U:Str)(a:(partT (n.natAbs%1000) p).isEmpty=true):past digB (unsign (numT n p++U))=past digB U:=by rw[mO,a];rfl
theorem tH{n:Int}{p:Bool}(U:Str)(a:(partT (n.natAbs%1000) p).isEmpty=false):past digB (unsign (numT n p++U))=46::(partT (n.natAbs%1000) p++U):=by rw[mO,a];rfl
theorem zI8(z:Str):expS (46::z)=none:=rfl
theorem PZ(z:Str):nmS (46::z)=false:=rfl
theorem zEM{s r:Str}{P:List ze}(h:PcT s P)(x:digB (atS s 0)=true)(f:r=past digB s)(F:nmS r=false)(m:(atS r 0==37)=false)(d:Qc r=P):ShS s r:=by
 have u:unsign s=s:=by unfold unsign Lg;rw[Ia.2 (Nh x).1,Ia.2 (Nh x).2.1];rfl
 obtain⟨n,p,U,t,rfl,rfl,g,z⟩:=UH h (by grind);obtain⟨w,D,A⟩:=jD z;rw[<-u,mO]at f;cases j:(partT (n.natAbs%1000) p).isEmpty with
 |true=>
  rw[j]at f;have a:r=U:=by rw[f];exact w
  subst a;rcases A with rfl|rfl|⟨G,_⟩
  ·rw[di (qQ rfl)]at d;cases d
  ·cases m
  grind
 |false=>
  rw[j]at f;have a:r=46::(partT (n.natAbs%1000) p++U):=by rw[f];rfl
  have B:=zEx j w D;obtain⟨c,q,i⟩:=ai (show partT (n.natAbs%1000) p≠[] by grind);have b:=RJ (n:=n) (p:=p);have v:digB c=true:=by rw[i,Xc,Da]at b;exact b.1
  have k:cmtS r=46::(partT (n.natAbs%1000) p++U):=by rw[a];exact qQ rfl
  rw[Yj k]at d;injection d with d _;have l:ZV (46::(partT (n.natAbs%1000) p++U))=zN (46::(partT (n.natAbs%1000) p++U)):=by
   have o:nbS (46::(partT (n.natAbs%1000) p++U))=true:=by rw[i];exact v
   rw[Pv,Ja (by decide),Ja (by decide),show((46:UInt8)==35)=false from rfl,Ob,Ja (by decide),o,Ka rfl]
  have e: ∀q:Str,(zN q).1.num=(numP q).val:=by
   intro q;unfold zN;split
   ·rfl
   ·split<;>rfl
  rw[l]at d;have y:=e (46::(partT (n.natAbs%1000) p++U));rw[d,B,g]at y;have E:n.natAbs / 1000=0:=by omega
  have C:numT n p++U=48::46::c::(q++U):=by rw[Vx,j,zEk E,i];unfold sgT;rw[Ja (by omega)];rfl
  right;exact⟨c,q++U,v,C,by rw[a,i];rfl⟩
theorem pR: ∀(y r:Str),y.all letB=true->zt (y++r)=(y++(zt r).1,(zt r).2)
 |[],r,_=>rfl
 |c::y,r,h=>by rw[Xc,Da]at h;rw[Bb,zZ,Ka h.1,pR y r h.2];rfl
theorem zHe{l:Str}(h:l.all digB=true):l.all letB=true:=by
 rw[Ab]at h ⊢;intro b a;unfold letB
 grind
theorem zEL{s r:Str}{P:List ze}(h:PcT s P)(he:atS s 0=101\/atS s 0=69)(hd:digB (atS (unsign (s.drop 1)) 0)=true)(hr:r=past digB (unsign (s.drop 1)))(hT:Qc r=P):False:=by
 obtain⟨l,t,z,hl,rfl,hk,ht,rfl,hz⟩:=zJG h he;obtain⟨c,q,e⟩:=ai (Ik h);have hnz:zt z=([],z):=by rcases hz with rfl|rfl;exact Qx;exact yJ []
 have hname:zt (ZU l++z)=(l,z):=by rw[oo z hl,hnz,Db]
 rw[e]at he hd hr hname;rw[show(c::q).drop 1=q from rfl]at hd hr;have hc:letB c=true:=by rcases he with h|h<;>(rw[show c=_ from h];rfl)
 -- the sign is a dash, or none
 have hsg:(sgOf q).all letB=true:=by
  unfold sgOf;cases hs:Lg (atS q 0)with
  |false=>rfl
  |true=>
   rw[Ka rfl];unfold Lg at hs;rw[Sb,ma,ma]at hs;rcases hs with hs|hs
   ·exfalso;cases q with
    |nil=>cases hs
    |cons d q'=>
     rw[show d=43 from hs,zZ,Ka hc,zZ,Ja (by decide),Ja (by unfold escS;rw[show atS (43::q') 0=43 from rfl];simp)]at hname
     grind
   ·rw[hs];rfl
 have hsplit:c::q=(c::(sgOf q++(unsign q).takeWhile digB))++r:=by rw[hr,Bb,Na,uu,SN]
 have hall:(c::(sgOf q++(unsign q).takeWhile digB)).all letB=true:=by rw[Xc,hc,List.all_append,hsg,zHe (DD digB _)];rfl
 rw[hsplit,pR _ _ hall]at hname;injection hname with hn1 hn2;have hcm:cmtS r=r:=by
  refine qQ ?_;cases r with
  |nil=>rfl
  |cons d u=>
   refine fO (Ia.2 ?_);rintro rfl;rw[zZ,Ja (by decide),Ja (by unfold escS;rw[show atS (47::u) 0=47 from rfl];simp)]at hn2
   grind
 cases r with
 |nil=>rw[di hcm]at hT;cases hT
 |cons d u=>
  rw[Yj hcm]at hT;injection hT with hT _;have hbr:=Mo d u;rw[hT]at hbr;have hbr':brS d u=7:=by rcases hk with hk|hk<;>(rw[hk]at hbr;exact hbr.symm)
  have hx:t.text=(zt (d::u)).1:=by
   rw[<-hT,Qq,hbr',Rj];have hk':(Qm (d::u)).1.kind=1\/(Qm (d::u)).1.kind=2:=by
    have:(Qm (d::u)).1=t:=by rw[<-hT,Qq,hbr',Rj]
    rw[this];exact hk
   unfold Qm at hk' ⊢;split
   ·rename_i h40;rw[Ka h40]at hk';split
    ·rename_i h2;rw[Ka h2]at hk';rcases DJ (urlS (past spB ((zt (d::u)).2.drop 1))).1 with hh|hh<;>rcases hk' with hk'|hk'<;>rw[show(Bi (urlS (past spB ((zt (d::u)).2.drop 1))).1).kind=_ from hk']at hh<;>cases hh
    ·rfl
   ·rfl
  rw[<-hx,ht]at hn1;have:=congrArg List.length hn1
  grind
theorem zAr{z r:Str}(h:Zi z=(r,true)):r=z:=by
 unfold Zi at h
 grind
theorem zD8{z r:Str}(h:(match expS (Zi z).1 with|some r=>(r,false)|none=>Zi z)=(r,true)):r=z:=by
 cases a:expS (Zi z).1 with
 |some y=>grind
 |none=>rw[a]at h;exact zAr h
theorem zGZ{z r:Str}{b:Bool}(h:(match expS z with|some r=>(r,false)|none=>(z,false))=(r,b)):r=z\/expS z=some r:=by
 grind
theorem xR{t:ze}{s r:Str}{P:List ze}(N:zje t)(h:PcT s P)(b:yZ t s r)(v:Qc r=P):ShS s r:=by
 have M:P≠[]:=by cases h<;>simp
 have p:r≠[]:=by rintro rfl;rw[di (qQ rfl)]at v;exact M v.symm
 have j:digB (atS s 0)=false->past digB s=s:=by
  intro i;cases s with
  |nil=>rfl
  |cons c q=>rw[past,show digB c=false from i];rfl
 rcases b with b|⟨_,b⟩|⟨R,Q,g,G⟩|⟨_,K,y,i,g,b⟩
 ·exact .inl b
 ·cases u:spB (atS s 0)with
  |true=> rw[zKt h u]at b;exact absurd b p
  |false=>
   left;rw[b];cases s with
   |nil=>rfl
   |cons c q=>rw[past,show spB c=false from u];rfl
 ·cases N with
  |cNum n f w E S=>
   have e:zJ (numT n (!f)++s)=(r,f):=Q;have a:r=past digB s\/expS (past digB s)=some r:=by
    cases d:(partT (n.natAbs%1000) (!f)).isEmpty with
    |true=> left;rw[bI d]at e;rw[fK S]at d;subst d;exact zD8 e
    |false=> rw[uO d]at e;exact zGZ e
   cases i:digB (atS s 0)with
   |true=>
    rcases a with b|l
    ·exact zEM h i b g G v
    ·exfalso;have o:unsign s=s:=by unfold unsign Lg;rw[Ia.2 (Nh i).1,Ia.2 (Nh i).2.1];rfl
     obtain⟨A,B,U,J,rfl,rfl,_,x⟩:=UH h (by grind);obtain⟨z,O,_⟩:=jD x;rw[<-o]at l;cases d:(partT (A.natAbs%1000) B).isEmpty with
     |true=>rw[uH U d,z,O]at l;cases l
     |false=>rw[tH U d,zI8]at l;cases l
   |false=>
    rw[j i]at a;rcases a with b|l
    ·exact .inl b
    ·obtain⟨w,E,L⟩:=CQ l;exact(zEL h w E L v).elim
  |cId|cFn|cAt|cHash|cStr|cUrl|cDel|cPct|cDim=>simp at R
  |cMark k w E=>grind
 ·exfalso;have D:digB (atS (unsign s) 0)=true/\past digB (unsign (K++s))=past digB (unsign s):=by
   rcases y with rfl|rfl
   ·grind
   ·have m:digB (atS s 0)=true:=i;have o:unsign s=s:=by unfold unsign Lg;rw[Ia.2 (Nh m).1,Ia.2 (Nh m).2.1];rfl
    rw[o];exact⟨m,rfl⟩
  obtain⟨C,F⟩:=D;rw[F]at g b;obtain⟨A,B,U,J,rfl,rfl,_,x⟩:=UH h C;obtain⟨z,_,H⟩:=jD x;cases d:(partT (A.natAbs%1000) B).isEmpty with
  |true=>
   rw[uH U d,z]at g b;rcases H with rfl|rfl|⟨_,T⟩
   ·cases g
   ·cases g
   grind
  |false=>rw[tH U d,PZ]at g;cases g
abbrev cmtW:Str:=[47,42,42,47]
theorem jO{s:Str}{P:List ze}(h:PcT s P)(x:Str)(hx:atS x 0≠42):([47,42]:Str).isPrefixOf (s++x)=false:=by
 obtain⟨c,r,rfl⟩:=ai (Ik h);by_cases hc:c=47
 ·have:=LD h (.inl rfl) hc;rw[this];cases x with
  |nil=>rfl
  |cons d t=>
   show((47==(47:UInt8))&&((42==d)&&_))=false;have:((42:UInt8)==d)=false:=Ia.2 (fun e=>hx e.symm)
   grind
 grind
theorem rC{s:Str}{P:List ze}(h:PcT s P):cmtS s=s:=by
 refine qQ ?_;have:=jO h [] (by decide)
 grind
theorem tO(x:Str):ZV (92::10::x)=(⟨9,[92],0,[],false⟩,10::x):=rfl
theorem T9{l:Str}(g:l≠[])(h:Zz l=true)(f:lowS l=[117,114,108])(b:Bool)(w:Str):
  ZV (ZU l++40::((if b then [32]else [])++34::w))=(⟨2,l,0,[],false⟩,(if b then [32]else [])++34::w):=by
 have d:=kH g ((if b then [32]else [])++34::w);have a:=H7 h ((if b then [32]else [])++34::w);obtain⟨c,r,e⟩:=ai (Cm d);rw[e]at d a ⊢;rw[Qq,vD d (by grind),Rj];unfold Qm;rw[a];simp only;have i:atS (past spB ((40::((if b then [32]else [])++34::w)).drop 1)) 0=34:=by cases b<;>rfl
 rw[Ka (by rfl),f,i,Ja (by decide)];rfl
theorem K4{l:Str}(h:lowS l=[117,114,108]):l≠[]:=by rintro rfl;cases h
theorem zFM(l m x:Str)(b:Bool):(ZU l++40::((if b then [32]else [])++34::(encB quoB m++[34])))++x=ZU l++40::((if b then [32]else [])++34::((encB quoB m++[34])++x)):=by
 grind
theorem l6{l m:Str}{b:Bool}(h:Zz l=true)(hl:lowS l=[117,114,108])(hm:Zz m=true)(x:Str):
  run ((ZU l++40::((if b then [32]else [])++34::(encB quoB m++[34])))++x) (⟨2,l,0,[],false⟩::((if b then [tkSp]else [])++[⟨5,m,0,[],false⟩])) x:=by
 rw[zFM];have hf:=T9 (K4 hl) h hl b ((encB quoB m++[34])++x);have hn:=kH (K4 hl) ((if b then [32]else [])++34::((encB quoB m++[34])++x));have hs: ∀q:Str,q=34::((encB quoB m++[34])++x)->run q [⟨5,m,0,[],false⟩] x:=by rintro q rfl;have:=IJ hm x;rw[Bb]at this;exact⟨34,_,qQ rfl,by rw[this],by rw[this];rfl⟩
 obtain⟨c,r,e⟩:=ai (Cm hn);rw[e]at hf hn ⊢;have hc:c≠47:=by rintro rfl;exact absurd (show hdB 47=true from Ws hn) (by decide)
 refine⟨c,r,qQ (fO (Ia.2 hc)),by rw[hf],?_⟩;rw[hf];cases b with
 |false=>exact hs _ rfl
 |true=> exact⟨32,34::((encB quoB m++[34])++x),qQ rfl,rfl,hs _ rfl⟩
theorem R3{s:Str}{P:List ze}(h:PcT s P){x:Str}(a:neu x):run (s++x) P x:=by
 cases h with
 |one t h d f=>
  have g:=zGY h d f a;have i:=jO (.one t h d f) x (by rcases a with rfl|⟨y,rfl⟩;exact(show(0:UInt8)≠42 by decide);exact(show(47:UInt8)≠42 by decide));obtain⟨c,r,e⟩:=ai (Ik (.one t h d f));rw[e]at g i ⊢;exact⟨c,r++x,qQ i,by grind,by rw[show c::(r++x)=(c::r)++x from rfl,g];rfl⟩
 |back=> refine⟨92,10::x,qQ rfl,by rw[tO],?_⟩;rw[tO];refine⟨10,x,qQ rfl,rfl,?_⟩;show past spB x=x;exact uQ rfl a
 |url l m b h j k=>exact l6 h j k x
theorem zH6{u s r:Str}{p P:List ze}(hu:PcT u p)(hs:PcT s P)(hr:run (u++s) p r)(hT:Qc r=P):ShS s r:=by
 cases hu with
 |one t h hb hu=>
  obtain⟨c,q,h1,h2,h3⟩:=hr;have hpu:PcT (txS t) [t]:= .one t h hb hu;rw[run]at h3;cases hp:([47,42]:Str).isPrefixOf (txS t++s)with
  |true=>
   exfalso;obtain⟨c0,r0,e⟩:=ai (Ik hpu);by_cases hc:c0=47
   ·have e2:=LD hpu (.inl rfl) (by rw[e];exact hc);rw[e2]at hp h1;have h42:atS s 0=42:=by
     cases s with
     |nil=>cases hp
     |cons d t'=>
      have:((42:UInt8)==d)=true:=by have h':((47==(47:UInt8))&&((42==d)&&true))=true:=hp;simpa using h'
      exact(ma.1 this).symm
    rw[LD hs (.inr rfl) h42]at h1;have:cmtS ([47]++[42])=[]:=by rw[Fj];rfl
    grind
   grind
  |false=> rw[qQ hp]at h1;rw[<-h1]at h2 h3;have:=zD5 h hu h2;rw[h3]at this;exact xR h hs this hT
 |back=> obtain⟨c,q,h1,h2,h3⟩:=hr;rw[show cmtS ([92,10]++s)=92::10::s from qQ rfl]at h1;injection h1 with e1 e2;subst e1 e2;rw[tO]at h3;obtain⟨c',q',g1,g2,g3⟩:=h3;rw[show cmtS (10::s)=10::s from qQ rfl]at g1;injection g1 with e1 e2;subst e1 e2;rw[run]at g3;have g3':past spB s=r:=g3;exact xR (t:=tkSp) (.cMark 13 (by omega) (by omega)) hs (.inr (.inl ⟨rfl,g3'.symm⟩)) hT
 |url l m b h hl hm=>exact .inl (R6 hr (l6 h hl hm s))
def Lk(R A:Str):Prop:=cmtS R=A\/ ∃d y,digB d=true/\A=48::46::d::y/\cmtS R=46::d::y
theorem Ls{R A:Str}(h:Lk R A)(a:A≠[]):cmtS R≠[]:=by
 rcases h with h|⟨d,y,_,_,h⟩
 ·rw[h];exact a
 ·rw[h];simp
theorem R4{R A x:Str}(h:Lk R A)(b:A≠[])(c:([47,42]:Str).isPrefixOf (A++x)=false):Lk (R++x) (A++x):=by
 rcases h with h|⟨d,y,a,rfl,h⟩
 ·left;rw[Ky (by rw[h];exact b) (by rw[h];exact c),h]
 ·right;exact⟨d,y++x,a,rfl,by rw[Ky (by rw[h];simp) (by rw[h];rfl),h];rfl⟩
theorem M4{R A:Str}(h:Lk R A)(g:([47,42]:Str).isPrefixOf A=false){t:ze}{ts:List ze}{r:Str}:run R (t::ts) r↔run A (t::ts) r:=by
 rcases h with h|⟨d,y,f,rfl,h⟩
 ·rw[<-U6 (q:=R) (by simp),h]
 ·rw[<-U6 (q:=R) (by simp),h];constructor
  ·rintro⟨c,q,a,e,b⟩;rw[qQ rfl]at a;rw[<-a]at e b;exact⟨48,46::d::y,qQ rfl,by rw[gF d y f];exact e,by rw[gF d y f];exact b⟩
  ·rintro⟨c,q,a,e,b⟩;rw[qQ rfl]at a;rw[<-a,gF d y f]at e b;exact⟨46,d::y,qQ rfl,e,b⟩
theorem N7{R A:Str}(h:Lk R A):Qc R=Qc A:=by
 rcases h with h|⟨d,y,a,rfl,h⟩
 ·rw[<-au R,h]
 ·rw[<-au R,h,Yj (qQ rfl),Yj (l:=48::46::d::y) (qQ rfl),gF d y a]
inductive Syn:Str->List ze->List (List ze×Str)->Prop
 |nil:Syn [] [] []
 |cmt (b s:Str) (ts P:List ze) (st:List (List ze×Str)) (h:Syn b ts st) (hb:b≠[]) (hp:PcT s P):Syn (b++cmtW++s) (ts++P) (st++[(ts,b++cmtW)])
 |no (b s:Str) (ts P:List ze) (st:List (List ze×Str)) (h:Syn b ts st) (hp:PcT s P) (ht:Qc (b++s)=ts++P):Syn (b++s) (ts++P) (st++[(ts,b)])
def Bd(b:Str)(ts L:List ze)(B:Str)(m:Nat):Prop:= ∃A R a,b=B++A/\A≠[]/\ts=L++a/\a≠[]/\run b L R/\Lk R A/\m<=R.length/\m<=A.length
structure zIM (b:Str) (ts:List ze) (st:List (List ze×Str)):Prop where
 tok:Qc b=ts
 bd: ∀k (h:k<st.length),Bd b ts st[k].1 st[k].2 (st.length - k)
 last:(st=[]/\b=[]/\ts=[])\/ ∃L B u p R,PcT u p/\b=B++u/\ts=L++p/\run b L R/\Lk R u
theorem pc_P{s:Str}{P:List ze}(h:PcT s P): ∃t us,P=t::us:=by cases h<;>exact⟨_,_,rfl⟩
theorem M5 {b x:Str} {ts P L:List ze} {B:Str} {m:Nat} (h:Bd b ts L B m) (hx:x≠[])
  (hrun: ∀R,R≠[]->run b L R->(∃A,A≠[]/\Lk R A/\b=B++A)->run (b++x) L (R++x)/\(∀A,A≠[]->Lk R A->b=B++A->Lk (R++x) (A++x))):Bd (b++x) (ts++P) L B (m+1):=by
 obtain⟨A,R,us,h1,h2,h3,h4,h5,h6,h7,h8⟩:=h;have hR:R≠[]:=by intro e;have:=Ls h6 h2;rw[e]at this;exact this (qQ rfl)
 obtain⟨g1,g2⟩:=hrun R hR h5 ⟨A,h2,h6,h1⟩;refine⟨A++x,R++x,us++P,by grind,by simp[h2],by grind,by simp[h4],g1,g2 A h2 h6 h1,?_⟩;have:=ae.2 hx
 grind
theorem D6{q:Str}(h:cmtS q=[47]):cmtS (q++[42])=[]:=by
 rw[Fj q]at h;cases a:([47,42]:Str).isPrefixOf q with
 |true=>
  have b:=Wj a;rw[show([47,42]:Str).length=2 from rfl]at b;rw[a,Ka rfl]at h;cases c:clsS (q.drop 2)with
  |none=>grind
  |some p=>
   rw[c]at h;have d:p.length<q.length:=by have d:=(Wm _ c).2;rw[Dc]at d;omega
   rw[Fj,Cu [42] (by exact b),a,Ka rfl,nu b,jI [42] c];exact D6 h
 |false=> rw[a,Ja (by decide)]at h;subst h;rw[Fj];rfl
termination_by q.length
end Go.Lv.VT
