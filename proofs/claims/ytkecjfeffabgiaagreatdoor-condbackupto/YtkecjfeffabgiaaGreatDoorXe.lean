/- The text of a token, as it is written. -/
import Derived.Test.YtkecjfeffabgiaaGreatDoorXc
import Derived.Test.YtkecjfeffabgiaaGreatDoorXb
import Derived.Test.YtkecjfeffabgiaaGreatDoorXa
import Derived.Test.YtkecjfeffabgiaaGreatDoorXd
set_option linter.unusedSimpArgs false
set_option linter.unusedVariables false
namespace Go.Lv.VT
set_option maxRecDepth 100000
def encB(p:UInt8->Bool):Str->Str
 |[]=>[]
 |c::r=>(bif p c then escC c else [c])++encB p r
def quoB(c:UInt8):Bool:=c==10||c==12||c==13||c==34||c==92
def urB(c:UInt8):Bool:=decide (c.toNat<=32)||c==34||c==39||c==40||c==41||c==92||c==127
def Bl:Str->Bool
 |[]=>false
 |c::r=>(c==101||c==69)&&numS r&& !(List.isPrefixOf [45,45] r)
def jg:Str->Str
 |[]=>[]
 |c::r=>bif Bl (c::r)then escC c++encW false 0 r else ZB (c::r)
def Wo(k:Int):Str:=
 bif k==13 then [32]else bif k==14 then [60,33,45,45]else bif k==15 then [45,45,62]else bif k==16 then [58]else bif k==17 then [59]else bif k==18 then [44]else
 bif k==19 then [91]else bif k==20 then [93]else bif k==21 then [40]else bif k==22 then [41]else bif k==23 then [123]else [125]
def txS(t:zg):Str:=
 bif t.kind==1 then ZB t.text
 else bif t.kind==2 then ZB t.text++[40]
 else bif t.kind==3 then 64::ZB t.text
 else bif t.kind==4 then 35::(bif t.flag then ZB t.text else encW false 0 t.text)
 else bif t.kind==5 then 34::(encB quoB t.text++[34])
 else bif t.kind==7 then [117,114,108,40]++(encB urB t.text++[41])
 else bif t.kind==9 then t.text
 else bif t.kind==10 then numT t.num (!t.flag)
 else bif t.kind==11 then numT t.num false++[37]
 else bif t.kind==12 then numT t.num (!t.flag)++jg t.unit
 else Wo t.kind
theorem JA(p:UInt8->Bool): ∀l:Str,(encB p l).length<=4*l.length
 |[]=>by unfold encB;simp
 |c::r=>by
  have:=IA c;have:=JA p r;unfold encB
  grind
theorem zHi{p:UInt8->Bool}{i:Nat}{l:Str}(h:i<l.length):encB p (l.drop i)=(bif p l[i]then escC l[i]else [l[i]])++encB p (l.drop (i+1)):=by rw[Lb h,encB]
theorem MU {R:Type} {step:Int×List UInt8->Option (LO (Int×List UInt8) (List UInt8) R)} {l acc:Str} {p:UInt8->Bool} (hl:l.length<=100000) (ha:acc.length<=100000000)
  (h1: ∀(i:Nat) (a:Str) (hi:i<l.length),a.length<=500000000->step ((i:Int),a)=some (.again (w64 ((i:Int)+1),a++(bif p l[i]then escC l[i]else [l[i]]))))
  (h2: ∀a,step ((l.length:Int),a)=some (.out a)):Ph step (0,acc)=some (.out (acc++encB p l)):=by
 refine qa (fun z=> ∃(i:Nat) (a:Str),z=((i:Int),a)/\i<=l.length/\a.length<=acc.length+4*i/\a++encB p (l.drop i)=acc++encB p l) (fun z=>l.length - z.1.toNat) _ ?_ ⟨0,acc,rfl,by omega,by omega,rfl⟩;rintro _ ⟨i,a,rfl,hi,hal,he⟩;rcases Xd i l.length with h|h
 ·refine .inl ⟨_,h1 i a h (by omega),⟨i+1,_,by rw[Zq (by omega) (by omega)];rfl,by omega,?_,?_⟩,by simp only;rw[Zq (by omega) (by omega)];omega⟩
  ·have:=IA l[i]
   grind
  ·rw[<-he,zHi h,La]
 ·have:i=l.length:=by omega
  subst this;refine .inr (.inl ⟨_,h2 a,?_⟩);rw[<-he,je (Ua _)];rw[show encB p []=[] by rw[encB],Xa]
theorem WJ{l acc:Str}{k:Nat}(d:l.length<=100000)(b:acc.length<=100000000):Qu ((l,(k:Int)),acc)=some (acc++encW (Fj k l) k l):=by
 unfold Qu;rw[qK (Y7 (dash:=Fj k l) (k:=k) (l:=l) (acc:=acc) d b (fun i a f b=> ?_) (fun a=> ?_))]
 ·have g:decide ((i:Int)<(l.length:Int))=true:=Ga (by omega);have e:geti l (i:Int)=some l[i]:=Zo f;have j:decide ((i:Int)>=(k:Int))=(k - i==0):=by
   by_cases h:k<=i
   ·grind
   ·grind
  have m:((k:Int)==0)=(k==0):=by
   by_cases h:k=0
   ·subst h;rfl
   ·grind
  simp only[g,Da,e,j,m,ze,Aa,zAA,RI];have c:(bif k==0 then true else !(l==[45]))= !Fj k l:=by unfold Fj;cases k==0<;>cases l==[45]<;>rfl
  rw[c];unfold pcW;cases letB l[i]with
  |false=>
   cases k - i==0<;>simp only[zA,Va,Ta,Ic,Ub,ib,Da,Ba,Aa,Xq l[i] (show a.length<=1000000000 by omega),zq]
  |true=> cases k - i==0<;>cases digB l[i]<;>cases Fj k l<;>simp only[zA,Va,Ta,Ic,Ub,ib,Df,Gd,Cb,Jc,Td,Da,Ba,Aa,gz,zF (jh (show a.length+1<=2000000000 by omega)),Xq l[i] (show a.length<=1000000000 by omega),zq]
 grind
theorem zyt(l:Str):Fj (ng l) l=(l==[45]):=by unfold Fj ng;split<;>rfl
theorem uy{l acc:Str}(a:l.length<=100000)(b:acc.length<=100000000):Qu ((l,((ng l:Nat):Int)),acc)=some (acc++ZB l):=by rw[WJ a b,zyt];rfl
theorem zGO{n:Nat}{b:Str}(c:n<=1000000000000)(d:b.length<=100000):Lt (((n:Int),10),b)=some (b++Lib.decDigits n):=by have a:short b=true:=Ga (by omega);unfold Lt;simp only[a,ib,Nb,decide_true,Cb];rw[Ga (by omega),Ga (by omega)];rfl
theorem aW{m:Nat}(n:m<=1000000000000)(p:Bool)(b:Str)(o:b.length<=90000):
  ((Lt ((w64 (Int.tdiv (m:Int) 1000),10),b)).bind fun a=>(Rs (w64 (1000+Int.tmod (m:Int) 1000),10)).bind fun d=>need (decide (1<=(d.length:Int)))<|
   (Xp (List.drop 1 d,[48])).bind fun c=>Zk (X:=List UInt8) (R:=List UInt8) (bif !(c==[])then need (zW a.length 1 1)<|need (zW (a++[(46:UInt8)]).length c.length 1)<|some (LX.out (a++[(46:UInt8)]++c))else bif p then need (zW a.length ([46,48]:Str).length 1)<|some (LX.out (a++([46,48]:Str)))else some (LX.out a)) fun l=>some l)=some (b++ig m p):=by
 have k:w64 (Int.tdiv (m:Int) 1000)=((m / 1000:Nat):Int):=by rw[show Int.tdiv (m:Int) 1000=((m / 1000:Nat):Int)from rfl,Zq (by omega) (by omega)]
 have j:w64 (1000+Int.tmod (m:Int) 1000)=((1000+m%1000:Nat):Int):=by rw[show Int.tmod (m:Int) 1000=((m%1000:Nat):Int)from rfl,Zq (by omega) (by omega)];omega
 have f:m%1000<1000:=by omega
 rw[k,j];have i:Rs (((1000+m%1000:Nat):Int),10)=some (49::[d48 (m%1000 / 100),d48 (m%1000 / 10%10),d48 (m%1000%10)]):=by unfold Rs i64B;simp only[decide_true,Cb];rw[Ga (by omega),Ga (by omega)];rw[<-zDN f];show some (Lib.itoa _)=_;unfold Lib.itoa;rw[Ia (by omega),Nb]
 have e:=sK (u:=m / 1000) (by omega);rw[zGO (by omega) (by omega),Aa,i,Aa,zF (Ga (by simp))];have g:Xp (List.drop 1 (49::[d48 (m%1000 / 100),d48 (m%1000 / 10%10),d48 (m%1000%10)]),[48])=some (Tj (m%1000)):=rfl;rw[g,Aa,zzB];have h:=CK _ f;simp only[bD,Ca,Ab]at h;unfold ig Ck;cases (Tj (m%1000)).isEmpty with
 |true=>
  simp only[Va,Ba,Da];cases p with
  |true=>rw[Da,zF (Vm (by grind) (by omega)),zq,La];rfl
  |false=>simp_all
 |false=> simp only[Ta,Ba,Da];rw[zF (Vm (by grind) (by omega)),zF (Vm (by grind) (by omega)),zq,La,La];rfl
theorem nL{n:Int}(d: -1000000000000<=n)(h2:n<=1000000000000)(p:Bool){acc:Str}(c:acc.length<=80000):Hu ((n,p),acc)=some (acc++numT n p):=by
 unfold Hu numT;simp only[ze];by_cases a:n<0
 ·obtain⟨m,rfl⟩: ∃m:Nat,n= -(m:Int):=⟨n.natAbs,by omega⟩;rw[Ga a,Da,zF (Vm (by omega) (by omega)),zq,Ka a];simp only;have b:w64 (0 - -(m:Int))=(m:Int):=by rw[show(0 - -(m:Int))=(m:Int) by omega,Zq (by omega) (by omega)]
  rw[b,Int.natAbs_neg,Int.natAbs_natCast,<-La];exact aW (by omega) p (acc++[45]) (by grind)
 ·obtain⟨m,rfl⟩: ∃m:Nat,n=(m:Int):=⟨n.toNat,by omega⟩;rw[Db a,Ba,zq,Ia a];simp only;rw[Int.natAbs_natCast,Pb];exact aW (by omega) p acc (by omega)
theorem zHB: ∀n:Nat,n<256->(ibOr IntKind.u8 (n:Int) 32==101)=(UInt8.ofNat n==101||UInt8.ofNat n==69):=by decide+kernel
theorem zHA(c:UInt8):(ibOr IntKind.u8 (c.toNat:Int) 32==101)=(c==101||c==69):=by have:=zHB c.toNat (Sb c);simp_all
theorem zIu(c:UInt8):decide (Lib.indexByte [10,12,13,34,92] c.toNat.toUInt8>=0)=quoB c:=by
 have: ∀n:Nat,n<256->decide (Lib.indexByte [10,12,13,34,92] n.toUInt8>=0)=quoB (UInt8.ofNat n):=by decide+kernel
 have:=this c.toNat (Sb c);simp_all
theorem zIL(c:UInt8):(decide ((c.toNat:Int)<=32)||decide (Lib.indexByte [34,39,40,41,92,127] c.toNat.toUInt8>=0))=urB c:=by
 have: ∀n:Nat,n<256->(decide ((n:Int)<=32)||decide (Lib.indexByte [34,39,40,41,92,127] n.toUInt8>=0))=urB (UInt8.ofNat n):=by decide+kernel
 have:=this c.toNat (Sb c);simp_all
theorem zvu {t:zg} (h:Uh t=true) (e:(t.kind==1)=false) (h2:(t.kind==2)=false) (g:(t.kind==3)=false) (d:(t.kind==4)=false) (i:(t.kind==5)=false) (j:(t.kind==7)=false) (f:(t.kind==9)=false)
  (c:(t.kind==10)=false) (b:(t.kind==11)=false) (a:(t.kind==12)=false):13<=t.kind/\t.kind<=24:=by
 unfold Uh at h
 grind
theorem zEz: ∀n:Nat,n<12->(OB ()).bind (fun a=>geti [a.e0,a.e1,a.e2,a.e3,a.e4,a.e5,a.e6,a.e7,a.e8,a.e9,a.e10,a.e11] (wu8 ((13+n:Int) - 13)))=some (Wo (13+n:Int)):=by decide+kernel
theorem WT(k:Int):(Wo k).length<=4:=by
 unfold Wo;cases k==13<;>cases k==14<;>cases k==15<;>simp only[Da,Ba]<;>try (simp;done)
 grind
theorem zFo{t:zg}{acc:Str}(x:Uh t=true)(R:t.text.length<=5000)(h2:t.unit.length<=5000)(ha:acc.length<=60000):Vx (t,acc)=some (acc++txS t):=by
 have one: ∀q:Str,q.length<=90000->zW q.length 1 1=true:=fun q hq=>Vm (by omega) (by omega);have z: ∀l:Str,l.length<=5000->(ZB l).length<=20000:=fun l hl=>by have:=Gt (l==[45]) (ng l) l;unfold ZB;omega
 unfold Vx txS;simp only[ze];cases H:t.kind==1 with
 |true=>simp only[Da,Mw,Aa,uy (show t.text.length<=100000 by omega) (show acc.length<=100000000 by omega)]
 |false=>
 cases L:t.kind==2 with
 |true=> simp only[Da,Ba,Mw,Aa,uy (show t.text.length<=100000 by omega) (show acc.length<=100000000 by omega)];have:=z t.text R;rw[zF (one _ (by grind)),La]
 |false=>
 cases M:t.kind==3 with
 |true=> simp only[Da,Ba,Mw,Aa];rw[zF (one _ (by omega)),uy (by omega) (by grind),La];rfl
 |false=>
 cases Q:t.kind==4 with
 |true=>
  simp only[Da,Ba,Mw,Aa];cases t.flag with
  |true=> simp only[Da,zq];rw[zF (one _ (by omega)),uy (by omega) (by grind),La];rfl
  |false=> simp only[Ba,zq];rw[zF (one _ (by omega)),show(0:Int)=((0:Nat):Int)from rfl,WJ (by omega) (by grind),La];rfl
 |false=>
 cases P:t.kind==5 with
 |true=>
  simp only[Da,Ba];have k:maxLen=9223372036854775807:=rfl;rw[zF (one _ (by omega)),zF (Ga (by omega))];have C:=JA quoB t.text;rw[qK (MU (p:=quoB) (l:=t.text) (acc:=acc++[34]) (by omega) (by grind) (fun i a F y=> ?_) (fun a=> ?_))]
  ·rw[zF (one _ (by grind)),La,La];rfl
  ·have D:decide ((i:Int)<(t.text.length:Int))=true:=Ga (by omega);have A:decide ((0:Int)<=(i:Int))=true:=Ga (by omega);simp only[D,A,ib,Da,zK,Nb,Ya F,Aa,Ou,zIu];cases quoB t.text[i]with
   |true=>simp only[Da,Xq _ (show a.length<=1000000000 by omega),Aa,zq]
   |false=>simp only[Ba,gz,Aa,zF (jh (show a.length+1<=2000000000 by omega)),zq]
  ·grind
 |false=>
 cases O:t.kind==7 with
 |true=>
  simp only[Da,Ba];have k:maxLen=9223372036854775807:=rfl;rw[zF (Vm (by grind) (by omega)),zF (Ga (by omega))];have C:=JA urB t.text;rw[qK (MU (p:=urB) (l:=t.text) (acc:=acc++[117,114,108,40]) (by omega) (by grind) (fun i a F y=> ?_) (fun a=> ?_))]
  ·rw[zF (one _ (by grind)),La,La]
  ·have D:decide ((i:Int)<(t.text.length:Int))=true:=Ga (by omega);have A:decide ((0:Int)<=(i:Int))=true:=Ga (by omega);simp only[D,A,ib,Da,zK,Nb,Ya F,Aa,Ou];rw[<-zIL];cases decide ((t.text[i].toNat:Int)<=32)with
   |true=>simp only[Va,Zw,Aa,Da,Td,Xq _ (show a.length<=1000000000 by omega),zq]
   |false=>
    simp only[Ta,zB,Aa,Ba,Jc];cases decide (Lib.indexByte [34,39,40,41,92,127] t.text[i].toNat.toUInt8>=0)with
    |true=>simp only[Da,Xq _ (show a.length<=1000000000 by omega),Aa,zq]
    |false=>simp only[Ba,gz,Aa,zF (jh (show a.length+1<=2000000000 by omega)),zq]
  ·grind
 |false=>
 cases N:t.kind==9 with
 |true=> simp only[Da,Ba];rw[zF (Vm (by omega) (by omega))]
 |false=>
 have g:(t.kind==10||t.kind==11||t.kind==12)=true->rngS t=true/\(!(t.unit==[])==(t.kind==12))=true:=by intro Z;unfold Uh at x;simp only[H,L,M,Q,P,O,N,Z,Nf,Ba,Da,Ca]at x;exact⟨x.1,x.2.1⟩
 have b:rngS t=true-> -1000000000000<=t.num/\t.num<=1000000000000:=by intro j;unfold rngS at j;simp only[Ca,Ab]at j;exact⟨j.1,j.2.1⟩
 cases s:t.kind==10 with
 |true=> obtain⟨u,w⟩:=b (g (by rw[s];rfl)).1;simp only[Da,Ba,nL u w _ (show acc.length<=80000 by omega),Aa]
 |false=>
 cases E:t.kind==11 with
 |true=>
  obtain⟨u,w⟩:=b (g (by grind)).1;have T:(numT t.num false).length<=25:=by
   have:=NF (m:=t.num.natAbs) (by omega) false;unfold numT;rw[Ja];split
   ·grind
   ·grind
  simp only[Da,Ba,nL u w _ (show acc.length<=80000 by omega),Aa];rw[zF (one _ (by grind)),La]
 |false=>
 cases o:t.kind==12 with
 |true=>
  obtain⟨j,X⟩:=g (by grind);obtain⟨u,w⟩:=b j;rw[o]at X;have T:(numT t.num (!t.flag)).length<=25:=by
   have:=NF (m:=t.num.natAbs) (by omega) (!t.flag);unfold numT;rw[Ja];split
   ·grind
   ·grind
  simp only[Da,Ba,nL u w _ (show acc.length<=80000 by omega),Aa];cases G:t.unit with
  |nil=>grind
  |cons c r=>
   rw[G,Fa]at h2;have h:geti (c::r) 0=some c:=rfl;have B:List.drop 1 (c::r)=r:=rfl;have f:decide (1<=((c::r:Str).length:Int))=true:=Ga (by grind);simp only[h,B,f,Td,zK,Aa,zHA,OY,QL,Mw];have v:(acc++numT t.num (!t.flag)).length<=100000000:=by rw[Ja];omega
   have d:=uy (l:=c::r) (acc:=acc++numT t.num (!t.flag)) (by grind) v;have e:jg (c::r)=(bif (c==101||c==69)&&numS r&& !(List.isPrefixOf [45,45] r)then escC c++encW false 0 r else ZB (c::r)):=rfl;rw[e];have Y:(c==101||c==69)=true->Z4 ((c.toNat:Int),acc++numT t.num (!t.flag))=some (acc++numT t.num (!t.flag)++escC c):=fun _=>Xq c (by grind);cases S:c==101||c==69 with
   |false=> simp_all
   |true=>
    simp only[zB,Aa,Da,Cb];cases J:numS r with
    |false=> simp_all
    |true=>
     simp only[zB,Aa,Da,Cb];cases hp:List.isPrefixOf [45,45] r with
     |true=> simp only[Va,Ba,d,Aa];rw[La]
     |false=> simp only[Ta,Da,Y S,Aa];have K:=IA c;rw[show(0:Int)=((0:Nat):Int)from rfl,WJ (by omega) (by rw[Ja,Ja];omega)];rw[La,La];rfl
 |false=>
 obtain⟨W,V⟩:=zvu x H L M Q P O N s E o;obtain⟨n,J⟩: ∃n:Nat,t.kind=13+(n:Int):=⟨(t.kind - 13).toNat,by omega⟩;have h:=zEz n (by omega);rw[<-J]at h;have k:=WT t.kind;simp only[Ba];have U:OB ()=some ⟨[32],[60,33,45,45],[45,45,62],[58],[59],[44],[91],[93],[40],[41],[123],[125]⟩:=rfl;rw[U]at h ⊢;simp only[Aa]at h ⊢;rw[h];simp only[Aa];rw[zF (Vm (by omega) (by omega))]
theorem Ut{c:UInt8}(h0:c≠0)(h:c.toNat<128)(R:Str): ∃d t,escC c++R=92::d::t/\(d==10)=false/\zy (d::t)=([c],R):=by
 unfold escC;cases hg:decide (32<c.toNat)&&decide (c.toNat<127)&& !digB c&& !alB c with
 |true=>
  have hx:QW c=false/\(c==10)=false:=by
   have: ∀n:Nat,n<256->(decide (32<(UInt8.ofNat n).toNat)&&decide ((UInt8.ofNat n).toNat<127)&& !digB (UInt8.ofNat n)&& !alB (UInt8.ofNat n))=true->QW (UInt8.ofNat n)=false/\(UInt8.ofNat n==10)=false:=by decide+kernel
   have:=this c.toNat (Sb c);rw[jd]at this;exact this hg
  exact⟨c,R,rfl,hx.2,by show(if QW c then _ else _)=_;grind⟩
 |false=> obtain⟨d,t,e,hd,h10⟩:=kK (n:=c.toNat) (Sb c) ([32]++R);refine⟨d,t,by grind,h10,?_⟩;have hh:=zAN (n:=c.toNat) (Sb c) R;rw[show(32::R:Str)=[32]++R from rfl,e]at hh;show(if QW d then(Yh (hexes 6 0 (d::t)).1,unsp (hexes 6 0 (d::t)).2)else _)=_;rw[Ka hd,hh,KT h0 h];rfl
theorem zIN(n:Nat):Yh n≠[]:=by
 unfold Yh Xo
 grind
theorem zyx(r:Str):(zy r).1≠[]:=by
 cases r with
 |nil=>show Xo≠[];decide
 |cons c r=>
  show(if QW c then(Yh (hexes 6 0 (c::r)).1,unsp (hexes 6 0 (c::r)).2)else([c],r)).1≠[];split
  ·exact zIN _
  ·simp
theorem vF{x:Str}(h:(zu x).1=[]):(zu x).2=x:=by
 cases x with
 |nil=>rw[Ql]
 |cons c r=>
  rw[zZ]at h ⊢;split
  ·grind
  ·rename_i b;rw[Ia b]at h;split
   ·rename_i a;rw[Ka a]at h;exact absurd (List.append_eq_nil_iff.1 h).1 (zyx r)
   ·rfl
theorem Mm{c:UInt8}{r:Str}(h:Zy (c::r)=true):c≠0/\Zy r=true:=by
 unfold Zy at h ⊢
 grind
theorem dK{dash:Bool}(R:Str): ∀(k:Nat) (l:Str),Zy l=true->(dash=true-> ∀c∈l,c.toNat<128)->zu (encW dash k l++R)=(l++(zu R).1,(zu R).2)
 |_,[],_,_=>by rw[encW];rfl
 |k,c::r,h,a=>by obtain⟨f,d⟩:=Mm h;rw[encW,La,I8 f (fun e=>a e c (Fb ..)),dK R (k - 1) r d (fun e x b=>a e x (ja _ b))];rfl
theorem Lm{l:Str}(R:Str)(h:Zy l=true):zu (ZB l++R)=(l++(zu R).1,(zu R).2):=by refine dK R _ _ h (fun e c a=> ?_);simp_all
theorem DU{l:Str}(R:Str)(k:Nat)(h:Zy l=true):zu (encW false k l++R)=(l++(zu R).1,(zu R).2):=dK R k l h (fun e=>by cases e)
theorem zCb(c:UInt8):(quoB c=true->c.toNat<128)/\(quoB c=false->(c==34)=false/\(c==10)=false/\(c==92)=false):=by
 have: ∀n:Nat,n<256->(quoB (UInt8.ofNat n)=true->(UInt8.ofNat n).toNat<128)/\(quoB (UInt8.ofNat n)=false->(UInt8.ofNat n==34)=false/\(UInt8.ofNat n==10)=false/\(UInt8.ofNat n==92)=false):=by decide+kernel
 have:=this c.toNat (Sb c);simp_all
theorem jQ(x:Str): ∀(l:Str),Zy l=true->Zg 34 (encB quoB l++34::x)=(some l,x)
 |[],_=>by rw[encB,Pb,QO,Ka (by decide)]
 |c::r,h=>by
  obtain⟨f,k⟩:=Mm h;have m:=jQ x r k;obtain⟨p,j⟩:=zCb c;rw[encB,La];cases a:quoB c with
  |true=>
   obtain⟨d,t,o,n,b⟩:=Ut f (p a) (encB quoB r++34::x);rw[Da,o,QO,Ia (by decide),Ia (by decide),Ka (by decide),show(d::t).isEmpty=false from rfl,Ia (by decide),show atS (d::t) 0=d from rfl,n,Ia (by decide),b]
   grind
  |false=> obtain⟨g,i,e⟩:=j a;rw[Ba,xc,QO,g,Ia (by decide),i,Ia (by decide),e,Ia (by decide),m];rfl
theorem tQ(c:UInt8):(urB c=true->c.toNat<128)/\(urB c=false->(c==41)=false/\spB c=false/\(c==34||c==39||c==40||unB c)=false/\(c==92)=false/\(c==34)=false/\(c==39)=false):=by
 have: ∀n:Nat,n<256->(urB (UInt8.ofNat n)=true->(UInt8.ofNat n).toNat<128)/\(urB (UInt8.ofNat n)=false->(UInt8.ofNat n==41)=false/\spB (UInt8.ofNat n)=false/\(UInt8.ofNat n==34||UInt8.ofNat n==39||UInt8.ofNat n==40||unB (UInt8.ofNat n))=false/\(UInt8.ofNat n==92)=false/\(UInt8.ofNat n==34)=false/\(UInt8.ofNat n==39)=false):=by decide+kernel
 have:=this c.toNat (Sb c);simp_all
theorem iQ(x:Str): ∀(l:Str),Zy l=true->urlS (encB urB l++41::x)=(some l,x)
 |[],_=>by rw[encB,Pb,Bo,Ka (by decide)]
 |c::r,h=>by
  obtain⟨g,n⟩:=Mm h;have o:=iQ x r n;obtain⟨s,k⟩:=tQ c;rw[encB,La];cases a:urB c with
  |true=>
   obtain⟨d,t,q,p,e⟩:=Ut g (s a) (encB urB r++41::x);have m:escS (92::d::t)=true:=by unfold escS;rw[show atS (92::d::t) 1=d from rfl,p];rfl
   rw[Da,q,Bo,Ia (by decide),Ia (by decide),m,Ia (by decide),Ka (by decide),e]
   grind
  |false=> obtain⟨i,j,f,b,_,_⟩:=k a;rw[Ba,xc,Bo,i,Ia (by decide),j,Ia (by decide),f,b,Ub,Gd,Ia (by decide),Ia (by decide),o];rfl
theorem zFD(x:Str)(l:Str)(h:Zy l=true):past spB (encB urB l++41::x)=encB urB l++41::x/\(atS (encB urB l++41::x) 0==34||atS (encB urB l++41::x) 0==39)=false:=by
 cases l with
 |nil=>exact⟨rfl,rfl⟩
 |cons c r=>
  obtain⟨b,q⟩:=Mm h;obtain⟨k,f⟩:=tQ c;rw[encB,La];cases a:urB c with
  |true=> obtain⟨d,t,i,s,n⟩:=Ut b (k a) (encB urB r++41::x);rw[Da,i];exact⟨rfl,rfl⟩
  |false=> obtain⟨p,e,o,m,j,g⟩:=f a;rw[Ba,xc];refine⟨by rw[past,e];rfl,?_⟩;show(c==34||c==39)=false;rw[j,g];rfl
theorem zIg{n:Int}{p:Bool}:(partT (n.natAbs%1000) p).isEmpty=((n.natAbs%1000==0)&& !p):=(Kn (r:=n.natAbs%1000) (by omega) p).2.2.2.2
def sgT(n:Int):Str:=if n<0 then [45]else []
theorem Dz(n:Int)(p:Bool):numT n p=sgT n++(Lib.decDigits (n.natAbs / 1000)++dotS (if(partT (n.natAbs%1000) p).isEmpty then none else some (partT (n.natAbs%1000) p))):=by
 have h:=(Kn (r:=n.natAbs%1000) (by omega) p).2.2.2.1;unfold numT ig sgT;rw[h];cases (partT (n.natAbs%1000) p).isEmpty with
 |true=>rfl
 |false=>rfl
theorem q2_T(n:Int)(p:Bool)(x:Str):Eg (numT n p++x)=past digB (dotS (if(partT (n.natAbs%1000) p).isEmpty then none else some (partT (n.natAbs%1000) p))++x):=by
 obtain⟨d,f,g⟩:=Aw (n.natAbs / 1000);obtain⟨c,r,e,a⟩:=NA (n.natAbs / 1000);rw[Dz];generalize dotS _=t;unfold Eg;have b:unsign ((sgT n++(Lib.decDigits (n.natAbs / 1000)++t))++x)=Lib.decDigits (n.natAbs / 1000)++(t++x):=by
  unfold sgT;split
  ·rw[La,xc,La];rfl
  ·rw[Pb,La,e,Sa];unfold unsign Ng;rw[show atS (c::(r++(t++x))) 0=c from rfl,Ha.2 (Ri a).2.1,Ha.2 (Ri a).1];rfl
 rw[b,lF _ _ d]
theorem kJ{n:Int}{p:Bool}:(partT (n.natAbs%1000) p).all digB=true:=(Kn (r:=n.natAbs%1000) (by omega) p).1
theorem WI{n:Int}{p:Bool}(h:(partT (n.natAbs%1000) p).isEmpty=true)(x:Str):zX (numT n p++x)=(match expS (Zf (past digB x)).1 with|some r=>(r,false)|none=>Zf (past digB x)):=by rw[Yk,q2_T,h];rfl
theorem EP{n:Int}{p:Bool}(h:(partT (n.natAbs%1000) p).isEmpty=false)(x:Str):zX (numT n p++x)=(match expS (past digB x)with|some r=>(r,false)|none=>(past digB x,false)):=by
 obtain⟨c,r,b⟩: ∃c r,partT (n.natAbs%1000) p=c::r:=by
  cases f:partT (n.natAbs%1000) p with
  |nil=>grind
  |cons c r=>grind
 have a:=kJ (n:=n) (p:=p);rw[Yk,q2_T,h];have e:past digB (dotS (some (partT (n.natAbs%1000) p))++x)=46::(partT (n.natAbs%1000) p++x):=rfl;rw[show(if false=true then none else some (partT (n.natAbs%1000) p))=some (partT (n.natAbs%1000) p)from rfl,e];have g:Zf (46::(partT (n.natAbs%1000) p++x))=(past digB x,false):=by
  have d:digB c=true:=by rw[b,Od,Ca]at a;exact a.1
  unfold Zf;rw[show atS (46::(partT (n.natAbs%1000) p++x)) 1=c by rw[b];rfl,d,show(atS (46::(partT (n.natAbs%1000) p++x)) 0==46&&true)=true from rfl,Ka rfl];rw[show(46::(partT (n.natAbs%1000) p++x)).drop 1=partT (n.natAbs%1000) p++x from rfl,lF _ _ a]
 grind
theorem I1(n:Int)(p:Bool)(x:Str):nbS (numT n p++x)=true:=by
 obtain⟨c,r,b,a⟩:=NA (n.natAbs / 1000);rw[Dz,b];unfold nbS;have d:unsign ((sgT n++(c::r++dotS (if(partT (n.natAbs%1000) p).isEmpty then none else some (partT (n.natAbs%1000) p))))++x)=c::(r++dotS (if(partT (n.natAbs%1000) p).isEmpty then none else some (partT (n.natAbs%1000) p))++x):=by
  unfold sgT;split
  ·rfl
  ·unfold unsign Ng;show(if(c==43||c==45)then _ else _)=_;rw[Ha.2 (Ri a).2.1,Ha.2 (Ri a).1];rfl
 rw[d];unfold undot;rw[show atS (c::(r++dotS (if(partT (n.natAbs%1000) p).isEmpty then none else some (partT (n.natAbs%1000) p))++x)) 0=c from rfl,Ha.2 (Ri a).2.2.1,Ia (by decide)];exact a
theorem UC{n:Int}(c: -1000000000000<=n)(h2:n<=1000000000000){p:Bool}{x:Str}(f:(zX (numT n p++x)).1=x):(numP (numT n p++x)).val=n:=by
 have h:=yK (numT n p++x);rw[f]at h;have b:=wO (I1 n p x);have d:=(fH c h2 p).1;have a:=zpj c h2 p;generalize numP (numT n p++x)=N at h b ⊢;have g:N.txt=numT n p:=(List.append_left_inj x).1 h;rw[<-g]at a d;have e:=PY b (Ob d (by decide));rw[a]at e
 grind
theorem Gp(n:Int)(p:Bool)(x:Str): ∃c r,numT n p++x=c::r/\(c==45||digB c)=true/\spB c=false/\(c==34||c==39)=false/\(c==35)=false/\c≠47:=by
 obtain⟨c,r,hc,hcd⟩:=NA (n.natAbs / 1000);have key: ∀d:UInt8,(d==45||digB d)=true->spB d=false/\(d==34||d==39)=false/\(d==35)=false/\d≠47:=by
  intro d;have: ∀n:Nat,n<256->(UInt8.ofNat n==45||digB (UInt8.ofNat n))=true->spB (UInt8.ofNat n)=false/\(UInt8.ofNat n==34||UInt8.ofNat n==39)=false/\(UInt8.ofNat n==35)=false/\UInt8.ofNat n≠47:=by decide+kernel
  have:=this d.toNat (Sb d)
  rwa [jd]at this
 rw[Dz,hc];unfold sgT
 grind
theorem mr(n:Int)(p:Bool)(x:Str):ZC (numT n p++x)=zS (numT n p++x):=by obtain⟨c,r,e,g,f,d,b,h⟩:=Gp n p x;have a:=I1 n p x;rw[e]at a ⊢;rw[Yt,f,Ia (by decide),d,Ia (by decide),b,Ub,Ia (by decide),a,Ka rfl]
inductive zgM:zg->Prop
 |cId (l:Str) (h0:l≠[]) (h:Zy l=true):zgM ⟨1,l,0,[],false⟩
 |cFn (l:Str) (h0:l≠[]) (h:Zy l=true):zgM ⟨2,l,0,[],false⟩
 |cAt (l:Str) (h0:l≠[]) (h:Zy l=true):zgM ⟨3,l,0,[],false⟩
 |cHash (l:Str) (f:Bool) (h0:l≠[]) (h:Zy l=true) (hb:f=true\/Jr l=true):zgM ⟨4,l,0,[],f⟩
 |cStr (l:Str) (h:Zy l=true):zgM ⟨5,l,0,[],false⟩
 |cUrl (l:Str) (h:Zy l=true):zgM ⟨7,l,0,[],false⟩
 |cDel (c:UInt8) (h:Tk c.toNat=true):zgM ⟨9,[c],0,[],false⟩
 |cNum (n:Int) (f:Bool) (h1: -1000000000000<=n) (h2:n<=1000000000000) (hf:f=true->Int.tmod n 1000=0):zgM ⟨10,[],n,[],f⟩
 |cPct (n:Int) (h1: -1000000000000<=n) (h2:n<=1000000000000):zgM ⟨11,[],n,[],false⟩
 |cDim (n:Int) (u:Str) (f:Bool) (h1: -1000000000000<=n) (h2:n<=1000000000000) (hf:f=true->Int.tmod n 1000=0) (h0:u≠[]) (h:Zy u=true):zgM ⟨12,[],n,u,f⟩
 |cMark (k:Int) (h1:13<=k) (h2:k<=24):zgM ⟨k,[],0,[],false⟩
theorem Ev{t:zg}(h:Uh t=true):zgM t:=by
 obtain⟨k,l,n,u,f⟩:=t;unfold Uh at h;simp only at h;by_cases h1:(k==1||k==2||k==3)=true
 ·rw[h1,Da]at h;simp only[Ca,Lc,Ha,Bb]at h;obtain⟨a,b,rfl,rfl,rfl⟩:=h;simp only[Vb,Bb]at h1;rcases h1 with(rfl|rfl)|rfl
  ·exact .cId l a b
  ·exact .cFn l a b
  ·exact .cAt l a b
 ·rw[Bool.not_eq_true]at h1;rw[h1,Ba]at h;by_cases h4:(k==4)=true
  ·rw[h4,Da]at h;simp only[Ca,Lc,Ha,Bb,Vb]at h;obtain⟨a,b,c,rfl,rfl⟩:=h;rw[Bb]at h4;subst h4;exact .cHash l f a b c
  ·rw[Bool.not_eq_true]at h4;rw[h4,Ba]at h;by_cases h5:(k==5||k==7)=true
   ·rw[h5,Da]at h;simp only[Ca,Lc,Bb]at h;obtain⟨b,rfl,rfl,rfl⟩:=h;simp only[Vb,Bb]at h5;rcases h5 with rfl|rfl
    ·exact .cStr l b
    ·exact .cUrl l b
   ·rw[Bool.not_eq_true]at h5;rw[h5,Ba]at h;by_cases h9:(k==9)=true
    ·rw[h9,Da]at h;simp only[Ca,Lc,Bb]at h;obtain⟨b,rfl,rfl,rfl⟩:=h;rw[Bb]at h9;subst h9;unfold delS at b;split at b
     ·exact .cDel _ b
     ·cases b
    ·rw[Bool.not_eq_true]at h9;rw[h9,Ba]at h;by_cases h10:(k==10||k==11||k==12)=true
     ·rw[h10,Da]at h;unfold rngS at h;simp only[Ca,Ab,Vb,Lc,Bb]at h;obtain⟨⟨a1,a2,a3⟩,a4,a5,a6,rfl⟩:=h;have hf:f=true->Int.tmod n 1000=0:=by
       intro e;rcases a3 with a3|a3
       ·grind
       ·exact a3
      simp only[Vb,Bb]at h10;rcases h10 with(rfl|rfl)|rfl
      ·have:u=[]:=by
        cases u with
        |nil=>rfl
        |cons c r=>grind
       subst this;exact .cNum n f a1 a2 hf
      ·have:u=[]:=by
        cases u with
        |nil=>rfl
        |cons c r=>grind
       subst this;have:f=false:=by
        rcases a6 with a6|a6
        ·grind
        ·exact a6
       subst this;exact .cPct n a1 a2
      ·have:u≠[]:=by rintro rfl;exact absurd a4 (by decide)
       exact .cDim n u f a1 a2 hf this a5
     ·rw[Bool.not_eq_true]at h10;rw[h10,Ba]at h;simp only[Ca,Lc,Ab,Bb]at h;obtain⟨⟨a1,a2⟩,rfl,rfl,rfl,rfl⟩:=h;exact .cMark k a1 a2
def neu(x:Str):Prop:=x=[]\/ ∃y,x=47::y
theorem zJc{x:Str}(a:neu x)(c:UInt8)(r:Str):brS c (r++x)=brS c r:=by
 rcases a with rfl|⟨y,rfl⟩
 ·grind
 ·exact yZ c r y
theorem OD{x:Str}(a:neu x)(q:Str):nmS (q++x)=nmS q:=by
 rcases a with rfl|⟨y,rfl⟩
 ·grind
 ·exact vC q y
theorem wF{x:Str}(a:neu x):zu x=([],x):=by
 rcases a with rfl|⟨y,rfl⟩
 ·exact Ql
 ·rw[zZ,Ia (by decide),show escS (47::y)=false from rfl,Ia (by decide)]
theorem pQ{p:UInt8->Bool}(h:p 47=false){x:Str}(a:neu x):past p x=x:=by
 rcases a with rfl|⟨y,rfl⟩
 ·rfl
 ·rw[past,h];rfl
theorem zI6{x:Str}(a:neu x):atS x 0=0\/atS x 0=47:=by
 rcases a with rfl|⟨y,rfl⟩
 ·exact .inl rfl
 ·exact .inr rfl
theorem NV(c:UInt8)(r:Str):Bl (c::r)=((c==101||c==69)&&numS r&& !(List.isPrefixOf [45,45] r)):=rfl
theorem AL(b:UInt8)(r:Str):numS (b::r)=bif b==45 then !(r==[])&&digN (r.headD 0).toNat else digN b.toNat:=rfl
theorem OM{c:UInt8}{r:Str}(h:Bl (c::r)=true):c=101\/c=69:=by
 unfold Bl at h
 grind
theorem zDZ{d:UInt8}{t:Str}(h:(d==10)=false):escS (92::d::t)=true:=by unfold escS;rw[show atS (92::d::t) 1=d from rfl,h];rfl
theorem Fx(c:UInt8)(r:Str):jg (c::r)=bif Bl (c::r)then escC c++encW false 0 r else ZB (c::r):=rfl
theorem SG{w:Str}(f:w≠[])(h:Zy w=true)(x:Str):zu (jg w++x)=(w++(zu x).1,(zu x).2):=by
 cases w with
 |nil=>grind
 |cons c r=>
  obtain⟨a,e⟩:=Mm h;rw[Fx];cases b:Bl (c::r)with
  |true=>
   have d:c.toNat<128:=by rcases OM b with rfl|rfl<;>decide
   rw[Da,La,kQ a d,DU x 0 e];rfl
  |false=>rw[Ba];exact Lm x h
theorem mD{w:Str}(i:w≠[])(h:Zy w=true):nmS (jg w)=true:=by
 cases w with
 |nil=>grind
 |cons c r=>
  obtain⟨a,j⟩:=Mm h;rw[Fx];cases e:Bl (c::r)with
  |true=>
   have f:c.toNat<128:=by rcases OM e with rfl|rfl<;>decide
   obtain⟨d,t,b,g,_⟩:=Ut a f (encW false 0 r);rw[Da,b];exact V5 rfl (zDZ g)
  |false=>rw[Ba];exact Wj (by simp)
theorem Kk{q:Str}(h:nmS q=true):q≠[]:=by rintro rfl;exact absurd h (by decide)
theorem iE{q:Str}(h:nmS q=true)(x:Str):past digB (q++x)=q++x/\Zf (q++x)=(q++x,true):=by
 obtain⟨_,_,_,_,_,_,_,_,b,a,_⟩:=jr (oo h);cases q with
 |nil=>exact absurd rfl (Kk h)
 |cons c r=> refine⟨by rw[Sa,past,show digB c=false from a];rfl,?_⟩;unfold Zf;rw[show atS ((c::r)++x) 0=c from rfl,show(c==46)=false from b];rfl
theorem RJ{w:Str}(h0:w≠[])(h:Zy w=true)(x:Str):expS (jg w++x)=none\/ ∃e s,(e=101\/e=69)/\(s=[]\/s=[45])/\w=e::s/\jg w=e::s:=by
 cases w with
 |nil=>grind
 |cons c r=>
  obtain⟨h1,h2⟩:=Mm h;have he92: ∀t:Str,expS (92::t)=none:=fun t=>rfl;cases he:Bl (c::r)with
  |true=>
   left;have hc:c.toNat<128:=by rcases OM he with rfl|rfl<;>decide
   obtain⟨d,t,e1,e2,_⟩:=Ut h1 hc (encW false 0 r++x);have:jg (c::r)++x=92::d::t:=by rw[Fx,he,Da,La,e1]
   grind
  |false=>
   have hu:jg (c::r)=ZB (c::r):=by rw[Fx,he,Ba]
   rw[hu];have hn:ZB (c::r)=pcW ((c::r:Str)==[45]) (ng (c::r)) c++encW ((c::r:Str)==[45]) (ng (c::r) - 1) r:=rfl;obtain⟨d,t,e,hd⟩:=kF (dash:=(c::r:Str)==[45]) (k:=ng (c::r)) (by unfold ng;split<;>omega) c (encW ((c::r:Str)==[45]) (ng (c::r) - 1) r);rw[hn,e];rcases hd with⟨rfl,h3⟩|⟨rfl,h3,h4,h5,h6⟩
   ·grind
   ·by_cases hee:d=101\/d=69
    ·have hf:ng (d::r)=1:=by rcases hee with rfl|rfl<;>rfl
     have hdash:((d::r:Str)==[45])=false:=h3;rw[hdash,hf]at h6;have h6':t=encW false 0 r:=h6;have hee':(d==101||d==69)=true:=by rcases hee with rfl|rfl<;>rfl
     cases r with
     |nil=>
      right;rw[encW]at h6'
      grind
     |cons d2 r2=>
      obtain⟨g1,g2⟩:=Mm h2;have hnum:numS (d2::r2)=false:=by
       cases hq:numS (d2::r2)with
       |false=>rfl
       |true=>
        exfalso;rw[NV,hee',hq,Cb,Cb]at he;have hp:List.isPrefixOf [45,45] (d2::r2)=true:=by
         cases hh:List.isPrefixOf [45,45] (d2::r2)with
         |true=>rfl
         |false=>grind
        obtain⟨z,hz⟩:=Ii.1 hp;rw[<-hz]at hq;exact absurd hq (by show numS (45::45::z)≠true;unfold numS;simp[digN])
      have hgoal: ∀q:Str,digB (atS (unsign q) 0)=false->expS (d::q)=none:=by intro q hq;rw[Ll];show((d==101||d==69)&&digB (atS (unsign q) 0))=false;rw[hq,Ic]
      have hpc:encW false 0 (d2::r2)=pcW false 0 d2++encW false 0 r2:=rfl;by_cases h45:d2=45
      ·subst h45;have hp1:pcW false 0 45=[45]:=rfl;cases r2 with
       |nil=>
        right;rw[hpc,hp1,encW]at h6'
        grind
       |cons d3 r3=>
        left;obtain⟨k1,k2⟩:=Mm g2;have hdg:digB d3=false:=by
         have:digN d3.toNat=false:=by have:=hnum;unfold numS at this;simpa using this
         exact this
        rw[Sa];refine hgoal _ ?_;rw[h6',hpc,hp1];show digB (atS (encW false 0 (d3::r3)++x) 0)=false;rw[show encW false 0 (d3::r3)=pcW false 0 d3++encW false 0 r3 from rfl];unfold pcW;cases hl:letB d3 with
        |true=>exact hdg
        |false=>
         rw[Ub,Ub,Ba];have hc:d3.toNat<128:=by
          by_cases hc:d3.toNat<128
          ·exact hc
          ·rw[(EI hc).1]at hl;cases hl
         obtain⟨d4,t4,e4,_,_⟩:=Ut k1 hc (encW false 0 r3++x);rw[La,e4];rfl
      ·left;have hdg:digB d2=false:=by
        have:digN d2.toNat=false:=by have:=hnum;rw[AL,Ha.2 h45,Ba]at this;exact this
        exact this
       rw[Sa];refine hgoal _ ?_;rw[h6',hpc];unfold pcW;cases hl:letB d2 with
       |true=>
        have hs:Ng d2=false:=by unfold Ng;rw[Ha.2 h45,Gd,Ha];rintro rfl;exact absurd hl (by decide)
        show digB (atS (if Ng d2 then _ else d2::_) 0)=false;rw[hs,Ia (by decide)];exact hdg
       |false=>
        rw[Ub,Ub,Ba];have hc:d2.toNat<128:=by
         by_cases hc:d2.toNat<128
         ·exact hc
         ·rw[(EI hc).1]at hl;cases hl
        obtain⟨d4,t4,e4,_,_⟩:=Ut g1 hc (encW false 0 r2++x);rw[La,e4];rfl
    ·left;rw[Ll];have:(d==101||d==69)=false:=by rw[ic,Ha,Ha];exact not_or.1 hee
     rw[Sa,show atS (d::(t++x)) 0=d from rfl,this,Ub]
theorem oW{w:Str}(d:w≠[])(h:Zy w=true){x:Str}(a:neu x):expS (jg w++x)=none:=by
 rcases RJ d h x with c|⟨e,s,i,b,_,f⟩
 ·exact c
 ·rw[f,Ll];have g:digB (atS (unsign (s++x)) 0)=false:=by
   rcases b with rfl|rfl
   ·rcases a with rfl|⟨y,rfl⟩<;>rfl
   ·rcases a with rfl|⟨y,rfl⟩<;>rfl
  grind
theorem jA{n:Int}{f:Bool}(a:f=true->Int.tmod n 1000=0):(partT (n.natAbs%1000) (!f)).isEmpty=f:=by
 rw[zIg,Cg];cases f with
 |false=>grind
 |true=>
  grind
theorem ou{n:Int}{p:Bool}{z:Str}(b:past digB z=z)(h2:Zf z=(z,true))(a:expS z=none):zX (numT n p++z)=(z,(partT (n.natAbs%1000) p).isEmpty):=by
 cases c:(partT (n.natAbs%1000) p).isEmpty with
 |true=>rw[WI c,b,h2];simp only[a]
 |false=>rw[EP c,b];simp only[a]
theorem zHU{x:Str}(a:neu x):past digB x=x/\Zf x=(x,true)/\expS x=none:=by
 rcases a with rfl|⟨y,rfl⟩
 ·exact⟨rfl,rfl,rfl⟩
 ·exact⟨rfl,rfl,rfl⟩
theorem zy0{q:Str}(h:[45,45,62].isPrefixOf q=true): ∃t,(zu q).2=62::t:=by obtain⟨t,rfl⟩:=Ii.1 h;refine⟨t,?_⟩;rw[show [45,45,62]++t=45::45::62::t from rfl,zZ,Ka (by decide),zZ,Ka (by decide),zZ,Ia (by decide),Ia (by unfold escS;rw[show atS (62::t) 0=62 from rfl];simp)]
theorem bz{c:UInt8}{r:Str}(h:nmS (c::r)=true)(u: ∀t,(zu (c::r)).2≠62::t):brS c r=7:=by
 obtain⟨i,b,g,d,f,p,a,v,s,l,k⟩:=jr (oo h);have o:[45,45,62].isPrefixOf (c::r)=false:=by
  cases j:[45,45,62].isPrefixOf (c::r)with
  |false=>rfl
  |true=>obtain⟨t,e⟩:=zy0 j;grind
 have n:atS (c::r) 0=c:=rfl;rw[n]at i b g d f a;unfold brS;rw[i,Ia (by decide),b,g,Ia (by decide),d,Ub,Ia (by decide),X0 h,Ia (by decide),o,Ia (by decide),V9 (q:=c::r) (m:=[33,45,45]) (show(60:UInt8)≠0 by decide) a,Ia (by decide),f,Ub,Ia (by decide),h,Ka rfl]
theorem R9{q z:Str}(h:nmS q=true)(i:atS z 0≠10):nmS (q++z)=true:=by
 have b:(atS z 0==10)=false:=Ha.2 i
 match q with
 |[]=>exact absurd h (by decide)
 |[c]=>
  unfold nmS at h ⊢;have f:atS ([c]++z) 0=c:=rfl;rw[show atS [c] 0=c from rfl]at h;rw[f];cases a:c==45 with
  |true=>rw[a,Ka rfl]at h;exact absurd (show(fstB 0||(0:UInt8)==45||escS [])=true from h) (by decide)
  |false=> rw[a,Ia (by decide)]at h;rw[Ia (by decide)];unfold escS at h ⊢;rw[show atS [c] 0=c from rfl,show atS [c] 1=0 from rfl]at h;rw[f,show atS ([c]++z) 1=atS z 0 from rfl,b];exact h
 |c::d::t=>
  unfold nmS at h ⊢;have f:atS ((c::d::t)++z) 0=c:=rfl;have g:atS ((c::d::t)++z) 1=d:=rfl;have j:((c::d::t)++z).drop 1=(d::t)++z:=rfl;rw[show atS (c::d::t) 0=c from rfl,show atS (c::d::t) 1=d from rfl,show(c::d::t:Str).drop 1=d::t from rfl]at h;rw[f,g,j];cases a:c==45 with
  |true=>
   rw[a,Ka rfl]at h;rw[Ka rfl];cases t with
   |nil=> unfold escS at h ⊢;rw[show atS [d] 0=d from rfl,show atS [d] 1=0 from rfl]at h;rw[show atS ([d]++z) 0=d from rfl,show atS ([d]++z) 1=atS z 0 from rfl,b];exact h
   |cons e t=>exact h
  |false=> rw[a,Ia (by decide)]at h;rw[Ia (by decide)];exact h
theorem VJ(x:Str):zu (40::x)=([],40::x):=by rw[zZ,Ia (by decide),Ia (by unfold escS;rw[show atS (40::x) 0=40 from rfl];simp)]
theorem A9{l:Str}(h:Zy l=true)(x:Str):zu (ZB l++40::x)=(l,40::x):=by rw[Lm _ h,VJ,Xa]
theorem Si{q:Str}(h:q≠[]): ∃c r,q=c::r:=by
 cases q with
 |nil=>grind
 |cons c r=>grind
def yh(f:Bool)(l:Str):Str:=bif f then ZB l else encW false 0 l
theorem aL{f:Bool}{l:Str}(h:Zy l=true)(x:Str):zu (yh f l++x)=(l++(zu x).1,(zu x).2):=by
 cases f with
 |true=>exact Lm x h
 |false=>exact DU x 0 h
theorem kT{f:Bool}{l:Str}(h0:l≠[])(h:Zy l=true)(hb:f=true\/Jr l=true):(letB (atS (yh f l) 0)||escS (yh f l))=true/\(f=true->nmS (yh f l)=true)/\(f=false->nmS (yh f l)=false):=by
 cases f with
 |true=>
  have hn:=Wj h0;obtain⟨c,r,e⟩:=Si (Kk hn);refine⟨?_,fun _=>hn,fun e=>by cases e⟩;show(letB (atS (ZB l) 0)||escS (ZB l))=true;rw[e]at hn ⊢;rcases IQ hn with h1|h1
  ·rw[show letB (atS (c::r) 0)=true from h1];rfl
  ·grind
 |false=>
  have hb':Jr l=true:=by rcases hb with hb|hb;cases hb;exact hb
  cases l with
  |nil=>grind
  |cons c r=>
   have hw:yh false (c::r)=pcW false 0 c++encW false 0 r:=rfl;have hb2:(digN c.toNat||(c==45&&(r==[]||digN (r.headD 0).toNat)))=true:=hb';by_cases h45:c=45
   ·subst h45;rw[hw,show pcW false 0 45=[45]from rfl];refine⟨rfl,fun e=>by(cases e),fun _=> ?_⟩;cases r with
    |nil=>rfl
    |cons d t=>
     have hd:digB d=true:=hb2;have hp:pcW false 0 d=[d]:=by
      unfold pcW;have:letB d=true:=by unfold letB;rw[hd,Df];rfl
      rw[this];rfl
     rw[show encW false 0 (d::t)=pcW false 0 d++encW false 0 t from rfl,hp];have hk: ∀n:Nat,n<256->digB (UInt8.ofNat n)=true->fstB (UInt8.ofNat n)=false/\(UInt8.ofNat n==45)=false/\(UInt8.ofNat n==92)=false:=by decide+kernel
     have:=hk d.toNat (Sb d);rw[jd]at this;obtain⟨k1,k2,k3⟩:=this hd;show(fstB d||d==45||escS (d::(encW false 0 t)))=false;unfold escS;rw[k1,k2,show atS (d::encW false 0 t) 0=d from rfl,k3];rfl
   ·have hd:digB c=true:=by
     have:digN c.toNat=true:=by rw[Ha.2 h45,Ub,Gd]at hb2;exact hb2
     exact this
    have hl:letB c=true:=by unfold letB;rw[hd,Df];rfl
    have hp:pcW false 0 c=[c]:=by unfold pcW;rw[hl];rfl
    rw[hw,hp];refine⟨by rw[show letB (atS ([c]++encW false 0 r) 0)=letB c from rfl,hl];rfl,fun e=>by(cases e),fun _=> ?_⟩;have hk: ∀n:Nat,n<256->digB (UInt8.ofNat n)=true->fstB (UInt8.ofNat n)=false/\(UInt8.ofNat n==45)=false/\(UInt8.ofNat n==92)=false:=by decide+kernel
    have:=hk c.toNat (Sb c);rw[jd]at this;obtain⟨k1,k2,k3⟩:=this hd;unfold nmS escS;rw[show atS ([c]++encW false 0 r) 0=c from rfl,k2,Ia (by decide),k1,k3];rfl
theorem P6(c:UInt8)(h:Tk c.toNat=true)(h2:c≠92):brS c []=8:=by
 have: ∀n:Nat,n<256->Tk (UInt8.ofNat n).toNat=true->UInt8.ofNat n≠92->brS (UInt8.ofNat n) []=8:=by decide+kernel
 have:=this c.toNat (Sb c);simp_all
theorem zIj(x:Str):past digB (37::x)=37::x/\Zf (37::x)=(37::x,true)/\expS (37::x)=none:=⟨rfl,rfl,rfl⟩
theorem IK{n:Int}{u:Str}{p:Bool}(x:Str):(numT n p++jg u)++x=numT n p++(jg u++x):=La ..
theorem UJ{c:UInt8}{r x:Str}(a:neu x):ZC (c::(r++x))=nxB (brS c r) c (r++x):=by rw[qp,zJc a]
theorem jJ{n:Int}(b: -1000000000000<=n)(h2:n<=1000000000000)(x:Str):ZC ((numT n false++[37])++x)=(⟨11,[],n,[],false⟩,x):=by rw[La,xc];obtain⟨c,e,d⟩:=zIj x;have a:=ou (n:=n) (p:=false) c e d;have f:=UC b h2 (p:=false) (x:=37::x) (by rw[a]);rw[mr];unfold zS;rw[a,f,Ia (by unfold nmS escS;rw[show atS (37::x) 0=37 from rfl];simp[fstB,alB]),Ka (by rfl)];rfl
theorem UI{l:Str}(d:l≠[])(h:Zy l=true)(hu:(lowS l==[117,114,108])=false)(x:Str):ZC ((ZB l++[40])++x)=(⟨2,l,0,[],false⟩,x):=by rw[La,xc];have b:=R9 (z:=40::x) (Wj d) (by show(40:UInt8)≠10;decide);have a:=A9 h x;obtain⟨c,r,e⟩:=Si (Kk b);rw[e]at b a ⊢;rw[qp,bz b (by grind),Jk];unfold Qi;rw[a];simp only;rw[Ka (by rfl),hu,Ub,Ia (by decide)];rfl
theorem eF{l:Str}(h:Zy l=true)(x:Str):ZC ((34::(encB quoB l++[34]))++x)=(⟨5,l,0,[],false⟩,x):=by rw[Sa,La,xc,qp,show brS 34 (encB quoB l++34::x)=1 from rfl,uC,jQ x l h];rfl
theorem NJ{l:Str}(h:Zy l=true)(x:Str):ZC (([117,114,108,40]++(encB urB l++[41]))++x)=(⟨7,l,0,[],false⟩,x):=by
 have e:([117,114,108,40]++(encB urB l++[41]))++x=117::114::108::40::(encB urB l++41::x):=by simp
 obtain⟨c,b⟩:=zFD x l h;have a:zu (117::114::108::40::(encB urB l++41::x))=([117,114,108],40::(encB urB l++41::x)):=by rw[zZ,Ka (by decide),zZ,Ka (by decide),zZ,Ka (by decide),VJ]
 rw[e,qp,bz (by rfl) (by grind),Jk];unfold Qi;rw[a];simp only;rw[Ka (by rfl),xD,show(40::(encB urB l++41::x)).drop 1=encB urB l++41::x from rfl,c,b,Ka (by decide),iQ x l h];rfl
theorem BG{k:Int}(b:13<=k)(h2:k<=24)(x:Str):ZC (Wo k++x)=(⟨k,[],0,[],false⟩,if k=13 then past spB x else x):=by
 have a:k=13\/k=14\/k=15\/k=16\/k=17\/k=18\/k=19\/k=20\/k=21\/k=22\/k=23\/k=24:=by omega
 rcases a with rfl|rfl|rfl|rfl|rfl|rfl|rfl|rfl|rfl|rfl|rfl|rfl<;>rfl
theorem Vo(l:Str):txS ⟨1,l,0,[],false⟩=ZB l:=by rw[txS];rfl
theorem Rm(l:Str):txS ⟨2,l,0,[],false⟩=ZB l++[40]:=by rw[txS];rfl
theorem Ar(l:Str):txS ⟨3,l,0,[],false⟩=64::ZB l:=by rw[txS];rfl
theorem Gs(l:Str)(f:Bool):txS ⟨4,l,0,[],f⟩=35::yh f l:=by rw[txS];rfl
theorem Vp(l:Str):txS ⟨5,l,0,[],false⟩=34::(encB quoB l++[34]):=by rw[txS];rfl
theorem Xr(l:Str):txS ⟨7,l,0,[],false⟩=[117,114,108,40]++(encB urB l++[41]):=by rw[txS];rfl
theorem Mr(c:UInt8):txS ⟨9,[c],0,[],false⟩=[c]:=by rw[txS];rfl
theorem Lr(n:Int)(f:Bool):txS ⟨10,[],n,[],f⟩=numT n (!f):=by rw[txS];rfl
theorem Yr(n:Int):txS ⟨11,[],n,[],false⟩=numT n false++[37]:=by rw[txS];rfl
theorem Wp(n:Int)(u:Str)(f:Bool):txS ⟨12,[],n,u,f⟩=numT n (!f)++jg u:=by rw[txS];rfl
theorem Fs{k:Int}(b:13<=k)(h2:k<=24):txS ⟨k,[],0,[],false⟩=Wo k:=by
 have a:k=13\/k=14\/k=15\/k=16\/k=17\/k=18\/k=19\/k=20\/k=21\/k=22\/k=23\/k=24:=by omega
 rcases a with rfl|rfl|rfl|rfl|rfl|rfl|rfl|rfl|rfl|rfl|rfl|rfl<;>rfl
theorem zGX{t:zg}(h:zgM t)(hb: ¬(t.kind=9/\t.text=[92]))(hu:oh t=false){x:Str}(hx:neu x):ZC (txS t++x)=(t,x):=by
 have ha:=zI6 hx;have hn0:nmS x=false:=by have:=OD hx [];rw[Pb]at this;rw[this];rfl
 cases h with
 |cId l h0 h=>
  have hn:=Wj h0;have hnd:=Lm x h;rw[wF hx,Xa]at hnd;obtain⟨c,r,e⟩:=Si (Kk hn);rw[Vo];have hr:=xS h;rw[e]at hn hr hnd ⊢;rw[Sa,UJ hx,bz hn (by grind),Jk];unfold Qi;rw[show c::(r++x)=(c::r)++x from rfl,hnd]
  grind
 |cFn l h0 h=>rw[Rm];exact UI h0 h (by unfold oh at hu;exact hu) x
 |cAt l h0 h=>
  have hnd:=Lm x h;rw[wF hx,Xa]at hnd;rw[Ar,Sa];have hb6:brS 64 (ZB l++x)=6:=by unfold brS;rw[OD hx,Wj h0];rfl
  rw[qp,hb6,cu,hnd]
 |cHash l f h0 h hbb=>
  obtain⟨g1,g2,g3⟩:=kT h0 h hbb;have hnd:=aL (f:=f) h x;rw[wF hx,Xa]at hnd;rw[Gs,Sa];have hb2:brS 35 (yh f l)=2:=by unfold brS;rw[g1];rfl
  have hf:nmS (yh f l)=f:=by
   cases f with
   |true=>exact g2 rfl
   |false=>exact g3 rfl
  rw[UJ hx,hb2,ko,hnd,OD hx,hf]
 |cStr l h=>rw[Vp];exact eF h x
 |cUrl l h=>rw[Xr];exact NJ h x
 |cDel c h=>
  have h92:c≠92:=by rintro rfl;exact hb ⟨rfl,rfl⟩
  rw[Mr,Sa,UJ hx,P6 c h h92,bu,Pb]
 |cNum n f h1 h2 hf=>
  obtain⟨e1,e2,e3⟩:=zHU hx;have he:=ou (n:=n) (p:= !f) e1 e2 e3;rw[jA hf]at he;rw[Lr,mr];unfold zS;rw[UC h1 h2 (by rw[he]),he]
  grind
 |cPct n h1 h2=>rw[Yr];exact jJ h1 h2 x
 |cDim n u f h1 h2 hf h0 h=> have hnm:=mD h0 h;obtain⟨e1,e2⟩:=iE hnm x;have he:=ou (n:=n) (p:= !f) e1 e2 (oW h0 h hx);rw[jA hf]at he;rw[Wp,IK,mr];unfold zS;rw[UC h1 h2 (by rw[he]),he];simp only;rw[OD hx,hnm,Ka rfl,SG h0 h,wF hx,Xa]
 |cMark k h1 h2=> rw[Fs h1 h2,BG h1 h2,pQ (by decide) hx,ite_self]
def XP(t:zg)(x r:Str):Prop:=zX (numT t.num (!t.flag)++x)=(r,t.flag)/\nmS r=false/\(atS r 0==37)=false
def zGG(x r:Str):Prop:= ∃s,(s=[]\/s=[45])/\digB (atS (unsign (s++x)) 0)=true/\nmS (past digB (unsign (s++x)))=true/\r=(zu (past digB (unsign (s++x)))).2
def X3(t:zg)(x r:Str):Prop:=r=x\/(t.kind=13/\r=past spB x)\/(t.kind=10/\XP t x r)\/(t.kind=12/\zGG x r)
theorem WR{w r:Str}(h:expS w=some r):(atS w 0=101\/atS w 0=69)/\digB (atS (unsign (w.drop 1)) 0)=true/\r=past digB (unsign (w.drop 1)):=by
 unfold expS at h
 grind
theorem TF{l a:Str}(h:l++a=l):a=[]:=by simp_all
theorem TJ{a b:zg}(h:a=b):a.text=b.text:=by rw[h]
theorem zDx{t:zg}(h:zgM t)(hu:oh t=false){x:Str}(ht:(ZC (txS t++x)).1=t):X3 t x (ZC (txS t++x)).2:=by
 cases h with
 |cId l h0 h=>
  left;have hn:=Wj h0;have hnd:=Lm x h;obtain⟨c,r,e⟩:=Si (Kk hn);rw[Vo]at ht ⊢;rw[e,Sa]at ht ⊢;have hbr:=Kq c (r++x);rw[ht]at hbr;have hbr':brS c (r++x)=7:=hbr.symm;rw[qp,hbr',Jk]at ht ⊢;rw[show c::(r++x)=ZB l++x by rw[e];rfl]at ht ⊢;unfold Qi at ht ⊢;rw[hnd]at ht ⊢;simp only at ht ⊢;split at ht
  ·rename_i h40;exfalso;split at ht
   ·have:=congrArg zg.kind ht;rcases OJ (urlS (past spB ((zu x).2.drop 1))).1 with hk|hk<;>rw[hk]at this<;>cases this
   grind
  ·rename_i h40;rw[Ia h40];have:=TJ ht;exact vF (TF this)
 |cFn l h0 h=> left;rw[Rm,UI h0 h (by unfold oh at hu;exact hu)]
 |cAt l h0 h=> left;rw[Ar,Sa]at ht ⊢;have hbr:=Kq 64 (ZB l++x);rw[ht]at hbr;have hbr':brS 64 (ZB l++x)=6:=hbr.symm;rw[qp,hbr',cu,Lm x h]at ht ⊢;exact vF (TF (TJ ht))
 |cHash l f h0 h hbb=> left;rw[Gs,Sa]at ht ⊢;have hbr:=Kq 35 (yh f l++x);rw[ht]at hbr;have hbr':brS 35 (yh f l++x)=2:=hbr.symm;rw[qp,hbr',ko,aL h x]at ht ⊢;exact vF (TF (TJ ht))
 |cStr l h=>left;rw[Vp,eF h]
 |cUrl l h=>left;rw[Xr,NJ h]
 |cDel c h=> left;rw[Mr,Sa]at ht ⊢;have hbr:=Kq c ([]++x);rw[ht]at hbr;have hbr':brS c ([]++x)=8:=hbr.symm;rw[qp,hbr',bu,Pb]
 |cNum n f h1 h2 hf=>
  right;right;left;refine⟨rfl,?_⟩;rw[Lr,mr]at ht ⊢;unfold XP;show zX (numT n (!f)++x)=_/\_;unfold zS at ht ⊢
  grind
 |cPct n h1 h2=>left;rw[Yr,jJ h1 h2]
 |cDim n u f h1 h2 hf h0 h=>
  have hnm:=mD h0 h;obtain⟨e1,e2⟩:=iE hnm x;rw[Wp,IK,mr]at ht ⊢;have plain:expS (jg u++x)=none->(zS (numT n (!f)++(jg u++x))).2=x:=by
   intro hexp;have he:=ou (n:=n) (p:= !f) e1 e2 hexp;unfold zS at ht ⊢;rw[he]at ht ⊢;simp only at ht ⊢;split at ht
   ·rename_i hn;rw[Ka hn];rw[SG h0 h]at ht ⊢;have:(u++(zu x).1)=u:=congrArg zg.unit ht;exact vF (TF this)
   ·grind
  rcases RJ h0 h x with hx|⟨e,s,he,hs,_,hu'⟩
  ·left;exact plain hx
  ·cases hexp:expS (jg u++x)with
   |none=>left;exact plain hexp
   |some z=>
    right;right;right;refine⟨rfl,s,hs,?_⟩;obtain⟨_,hd,hz⟩:=WR hexp;have hdrop:(jg u++x).drop 1=s++x:=by rw[hu'];rfl
    rw[hdrop]at hd hz;have hend:zX (numT n (!f)++(jg u++x))=(z,false):=by
     cases hp:(partT (n.natAbs%1000) (!f)).isEmpty with
     |true=>rw[WI hp,e1,e2];simp only[hexp]
     |false=>rw[EP hp,e1];simp only[hexp]
    unfold zS at ht ⊢
    grind
 |cMark k h1 h2=>
  rw[Fs h1 h2,BG h1 h2];by_cases hk:k=13
  ·right;grind
  ·left
   grind
abbrev tkSp:zg:=⟨13,[],0,[],false⟩
inductive PcT:Str->List zg->Prop
 |one (t:zg) (h:zgM t) (hb: ¬(t.kind=9/\t.text=[92])) (hu:oh t=false):PcT (txS t) [t]
 |back:PcT [92,10] [⟨9,[92],0,[],false⟩,tkSp]
 |url (l m:Str) (s:Bool) (h:Zy l=true) (hl:lowS l=[117,114,108]) (hm:Zy m=true):
   PcT (ZB l++40::((if s then [32]else [])++34::(encB quoB m++[34]))) (⟨2,l,0,[],false⟩::((if s then [tkSp]else [])++[⟨5,m,0,[],false⟩]))
theorem OQ{l:Str}(h:lowS l=[117,114,108]): ∃a r,l=a::r/\(a=117\/a=85):=by
 cases l with
 |nil=>cases h
 |cons a r=>
  have h1:Hl a=117:=by unfold lowS at h;rw[Yb]at h;injection h
  have: ∀n:Nat,n<256->Hl (UInt8.ofNat n)=117->UInt8.ofNat n=117\/UInt8.ofNat n=85:=by decide+kernel
  have:=this a.toNat (Sb a);simp_all
theorem XH{l:Str}(a:l≠[])(z:Str):nmS (ZB l++40::z)=true:=R9 (Wj a) (by show(40:UInt8)≠10;decide)
theorem kv{k:Int}(a:13<=k)(h2:k<=24):k=13\/k=14\/k=15\/k=16\/k=17\/k=18\/k=19\/k=20\/k=21\/k=22\/k=23\/k=24:=by omega
theorem jF{s:Str}{P:List zg}(h:PcT s P):nmS s=true\/(∃n p U t,P=[t]/\s=numT n p++U/\t.num=n/\(U=[]/\t.kind=10\/U=[37]\/ ∃u,u≠[]/\Zy u=true/\U=jg u))\/
  (∃c r,s=c::r/\(c=64\/c=35\/c=34)/\nbS s=false)\/(∃c,s=[c]/\Tk c.toNat=true)\/(∃k,13<=k/\k<=24/\s=Wo k)\/s=[92,10]:=by
 cases h with
 |one t h q v=>
  cases h with
  |cId l b h=>left;rw[Vo];exact Wj b
  |cFn l b h=>left;rw[Rm];exact XH b []
  |cAt l b h=>right;right;left;rw[Ar];exact⟨64,_,rfl, .inl rfl,rfl⟩
  |cHash l f b h j=>right;right;left;rw[Gs];exact⟨35,_,rfl, .inr (.inl rfl),rfl⟩
  |cStr l h=>right;right;left;rw[Vp];exact⟨34,_,rfl, .inr (.inr rfl),rfl⟩
  |cUrl l h=>left;rw[Xr];rfl
  |cDel c h=>right;right;right;left;rw[Mr];grind
  |cNum n f d e g=>right;left;exact⟨n, !f,[],_,rfl,by rw[Lr,Xa],rfl, .inl ⟨rfl,rfl⟩⟩
  |cPct n d e=>right;left;exact⟨n,false,[37],_,rfl,Yr n,rfl, .inr (.inl rfl)⟩
  |cDim n u f d e g b h=>right;left;exact⟨n, !f,jg u,_,rfl,Wp n u f,rfl, .inr (.inr ⟨u,b,h,rfl⟩)⟩
  |cMark k d e=>right;right;right;right;left;exact⟨k,d,e,Fs d e⟩
 |back=>grind
 |url l m s h i o=> left;obtain⟨a,r,rfl,_⟩:=OQ i;exact XH (by simp) _
theorem pK(c:UInt8)(h:Tk c.toNat=true):spB c=false/\nbS [c]=false/\c≠101/\c≠69:=by
 have: ∀n:Nat,n<256->Tk (UInt8.ofNat n).toNat=true->spB (UInt8.ofNat n)=false/\nbS [UInt8.ofNat n]=false/\UInt8.ofNat n≠101/\UInt8.ofNat n≠69:=by decide+kernel
 have:=this c.toNat (Sb c);simp_all
theorem zEL{s:Str}(h:digB (atS (unsign s) 0)=true):nbS s=true:=by
 unfold nbS undot;have:(atS (unsign s) 0==46)=false:=Ha.2 (Ri h).2.2.1
 grind
theorem bH{s:Str}{P:List zg}(h:PcT s P)(d:digB (atS (unsign s) 0)=true): ∃n p U t,P=[t]/\s=numT n p++U/\t.num=n/\(U=[]/\t.kind=10\/U=[37]\/ ∃u,u≠[]/\Zy u=true/\U=jg u):=by
 have a:=zEL d;rcases jF h with h|h|⟨c,r,e,_,h⟩|⟨c,rfl,f⟩|⟨k,b,g,rfl⟩|rfl
 ·rw[X0 h]at a;cases a
 ·exact h
 ·grind
 ·rw[(pK c f).2.1]at a;cases a
 ·rcases kv b g with rfl|rfl|rfl|rfl|rfl|rfl|rfl|rfl|rfl|rfl|rfl|rfl<;>cases a
 ·cases a
theorem zKY{s:Str}{P:List zg}(h:PcT s P)(a:spB (atS s 0)=true):s=[32]:=by
 rcases jF h with h|⟨n,p,U,t,_,rfl,_⟩|⟨c,r,rfl,g,_⟩|⟨c,rfl,f⟩|⟨k,d,b,rfl⟩|rfl
 ·rw[(jr (oo h)).1]at a;cases a
 ·obtain⟨c,r,e,_,b,_⟩:=Gp n p U;rw[e]at a;rw[show atS (c::r) 0=c from rfl,b]at a;cases a
 ·rcases g with rfl|rfl|rfl<;>cases a
 ·rw[show atS [c] 0=c from rfl,(pK c f).1]at a;cases a
 ·rcases kv d b with rfl|rfl|rfl|rfl|rfl|rfl|rfl|rfl|rfl|rfl|rfl|rfl<;>first|rfl|cases a
 ·cases a
theorem PE{s:Str}{P:List zg}(h:PcT s P){b:UInt8}(f:b=47\/b=42)(d:atS s 0=b):s=[b]:=by
 rcases jF h with h|⟨n,p,U,t,_,rfl,_⟩|⟨c,r,rfl,g,_⟩|⟨c,rfl,j⟩|⟨k,a,i,rfl⟩|rfl
 ·have a:=oo h;rw[d]at a;rcases f with rfl|rfl<;>cases a
 ·obtain⟨c,r,e,a,_⟩:=Gp n p U;rw[e]at d;rw[show c=b from d]at a;rcases f with rfl|rfl<;>cases a
 ·rw[show c=b from d]at g
  grind
 ·rw[show c=b from d]
 ·rcases kv a i with rfl|rfl|rfl|rfl|rfl|rfl|rfl|rfl|rfl|rfl|rfl|rfl<;>rcases f with rfl|rfl<;>cases d
 ·rcases f with rfl|rfl<;>cases d
theorem Ej{s:Str}{P:List zg}(h:PcT s P):s≠[]:=by
 rcases jF h with h|⟨n,p,U,t,_,rfl,_⟩|⟨c,r,rfl,d,_⟩|⟨c,rfl,f⟩|⟨k,b,a,rfl⟩|rfl
 ·exact Kk h
 ·obtain⟨c,r,e,_⟩:=Gp n p U;rw[e];simp
 ·simp
 ·simp
 ·rcases kv b a with rfl|rfl|rfl|rfl|rfl|rfl|rfl|rfl|rfl|rfl|rfl|rfl<;>decide
 ·simp
theorem zEJ{l:Str}{c:UInt8}{r:Str}(b:c=101\/c=69)(h:ZB l=c::r): ∃t,l=c::t:=by
 cases l with
 |nil=>unfold ZB at h;rw[encW]at h;cases h
 |cons a t=>
  have g:ZB (a::t)=pcW ((a::t:Str)==[45]) (ng (a::t)) a++encW ((a::t:Str)==[45]) (ng (a::t) - 1) t:=rfl;obtain⟨d,u,e,f⟩:=kF (dash:=(a::t:Str)==[45]) (k:=ng (a::t)) (by unfold ng;split<;>omega) a (encW ((a::t:Str)==[45]) (ng (a::t) - 1) t)
  grind
theorem zJ8{s:Str}{P:List zg}(h:PcT s P)(b:atS s 0=101\/atS s 0=69): ∃l t z,Zy l=true/\P=[t]/\(t.kind=1\/t.kind=2)/\t.text=l/\s=ZB l++z/\(z=[]\/z=[40]):=by
 cases h with
 |one t h B C=>
  cases h with
  |cId l i h=>exact⟨l,_,[],h,rfl, .inl rfl,rfl,by rw[Vo,Xa], .inl rfl⟩
  |cFn l i h=>exact⟨l,_,[40],h,rfl, .inr rfl,rfl,Rm l, .inr rfl⟩
  |cAt l i h=>rw[Ar]at b;rcases b with b|b<;>cases b
  |cHash l f i h v=>rw[Gs]at b;rcases b with b|b<;>cases b
  |cStr l h=>rw[Vp]at b;rcases b with b|b<;>cases b
  |cUrl l h=>rw[Xr]at b;rcases b with b|b<;>cases b
  |cDel c h=>
   rw[Mr]at b;obtain⟨_,_,p,q⟩:=pK c h;rcases b with b|b
   ·exact absurd b p
   ·exact absurd b q
  |cNum n f d g w=>
   rw[Lr]at b;obtain⟨c,r,e,d,_⟩:=Gp n (!f) [];rw[Xa]at e;rw[e]at b;rcases b with b|b<;>(rw[show c=_ from b]at d;cases d)
  |cPct n d g=>
   rw[Yr]at b;obtain⟨c,r,e,d,_⟩:=Gp n false [37];rw[e]at b;rcases b with b|b<;>(rw[show c=_ from b]at d;cases d)
  |cDim n u f d g w i h=>
   rw[Wp]at b;obtain⟨c,r,e,d,_⟩:=Gp n (!f) (jg u);rw[e]at b;rcases b with b|b<;>(rw[show c=_ from b]at d;cases d)
  |cMark k d g=> rw[Fs d g]at b;rcases kv d g with rfl|rfl|rfl|rfl|rfl|rfl|rfl|rfl|rfl|rfl|rfl|rfl<;>rcases b with b|b<;>cases b
 |back=>rcases b with b|b<;>cases b
 |url l m s h o y=>
  exfalso;obtain⟨a,r,rfl,D⟩:=OQ o;obtain⟨c,A,e⟩:=Si (Kk (Wj (l:=a::r) (by simp)));have j:c=101\/c=69:=by rw[e]at b;exact b
  obtain⟨t,x⟩:=zEJ j e;injection x with e3 _
  grind
def ShS(s r:Str):Prop:=r=s\/ ∃d y,digB d=true/\s=48::46::d::y/\r=46::d::y
theorem vR(cap:Nat)(l:Str):capF cap 0 (48::l)=capF cap 0 l:=by show capF cap (min cap (decN 0 48)) l=_;rw[show decN 0 48=0 from rfl,Nat.min_zero]
theorem zFp(A:Str)(p:Int):thoV (48::A) p=thoV A p:=by
 unfold thoV;by_cases a:p<0
 ·rw[Ka a,Ka a];by_cases c:(A.length:Int)+p<0
  ·have b:(((48::A:Str).length:Int)+p).toNat=0:=by rw[Fa];omega
   grind
  ·have b:(((48::A:Str).length:Int)+p).toNat=((A.length:Int)+p).toNat+1:=by rw[Fa];omega
   rw[b,Fe,vR]
 ·rw[Ia a,Ia a,vR]
theorem TG(d:UInt8)(y:Str)(e:digB d=true):ZC (48::46::d::y)=ZC (46::d::y):=by
 have j:Ng 48=false/\Ng 46=false:=by decide
 have b:Eg (48::46::d::y)=46::d::y:=rfl;have a:Eg (46::d::y)=46::d::y:=rfl;have h:zX (48::46::d::y)=zX (46::d::y):=by rw[Yk,Yk,b,a]
 have g:(numP (48::46::d::y)).val=(numP (46::d::y)).val:=by have c:numP (48::46::d::y)=⟨[],[48],dotP (46::d::y),expP (Zf (46::d::y)).1⟩:=rfl;have i:numP (46::d::y)=⟨[],[],dotP (46::d::y),expP (Zf (46::d::y)).1⟩:=rfl;rw[c,i];unfold NumP.val;simp only[xc,Pb,zFp]
 have f:nbS (46::d::y)=true:=e;rw[Yt,Ia (by decide),Ia (by decide),show((48:UInt8)==35)=false from rfl,Ub,Ia (by decide),show nbS (48::46::d::y)=true from rfl,Ka rfl,
  Yt,Ia (by decide),Ia (by decide),show((46:UInt8)==35)=false from rfl,Ub,Ia (by decide),f,Ka rfl]
 unfold zS;rw[h,g]
theorem capG(cap:Nat): ∀(l:Str) (n:Nat),valG n l<=cap->capF cap n l=valG n l
 |[],n,_=>rfl
 |c::l,n,h=>by
  have b:valG n (c::l)=valG (decN n c) l:=rfl;rw[b]at h ⊢;have a:decN n c<=valG (decN n c) l:=by rw[Tz l (decN n c)];have:=Ye (decN n c) (yg (n:=l.length) (show 0<10 by omega));omega
  rw[capF,Nat.min_eq_right (Ob a h)];exact capG cap l (decN n c) h
theorem M6: ∀(k n:Nat),n*10 ^ k<=1000->Uj k n=n*10 ^ k
 |0,n,_=>by rw[Uj,Nat.pow_zero,yf]
 |k+1,n,h=>by
  have c:ni=1000000000000:=rfl;rw[Uj];have a:0<10 ^ k:=yg (by omega);have e:n*10 ^ (k+1)=10*n*10 ^ k:=by rw[Nat.pow_succ,Nat.mul_comm 10 n,Nat.mul_assoc,Nat.mul_comm (10 ^ k) 10]
  have d:10*n<=10*n*10 ^ k:=Ye _ a;by_cases b:n=0
  ·subst b;simp
  ·rw[Ia (by omega),Nat.min_eq_right (by omega),M6 k (10*n) (by omega),e]
theorem zD5{n:Int}{p:Bool}(hp:(partT (n.natAbs%1000) p).isEmpty=false){U:Str}(hU:past digB U=U)(hx:expS U=none):
  (numP (46::(partT (n.natAbs%1000) p++U))).val=((n.natAbs%1000:Nat):Int):=by
 obtain⟨k1,k2,k3,_,_⟩:=Kn (r:=n.natAbs%1000) (by omega) p;generalize partT (n.natAbs%1000) p=F at*;obtain⟨c,r,rfl⟩:=Si (show F≠[] by grind);have hc:digB c=true:=by rw[Od,Ca]at k1;exact k1.1
 have hq:Eg (46::(c::r++U))=46::(c::r++U):=rfl;have hpast:past digB (c::r++U)=U:=by rw[lF _ _ k1,hU]
 have hw:Zf (46::(c::r++U))=(U,false):=by unfold Zf;rw[show atS (46::(c::r++U)) 1=c from rfl,hc,show(atS (46::(c::r++U)) 0==46&&true)=true from rfl,Ka rfl,show(46::(c::r++U)).drop 1=c::r++U from rfl,hpast]
 have hrun:List.takeWhile digB (c::r++U)=c::r:=by have:=pz digB (c::r++U);rw[hpast]at this;exact List.append_cancel_right this
 have hd:dotP (46::(c::r++U))=some (c::r):=by unfold dotP;rw[show atS (46::(c::r++U)) 1=c from rfl,hc,show(atS (46::(c::r++U)) 0==46&&true)=true from rfl,Ka rfl,show(46::(c::r++U)).drop 1=c::r++U from rfl,hrun]
 have he:expP U=none:=by unfold expP;rw[Ll]at hx;rw[hx,Ia (by decide)]
 have hP:numP (46::(c::r++U))=⟨[],[],some (c::r),none⟩:=by show(⟨sgOf (46::(c::r++U)),_,dotP (46::(c::r++U)),expP (Zf (46::(c::r++U))).1⟩:NumP)=_;rw[hd,hw,he];rfl
 rw[hP];unfold NumP.val;show(((thoV ([]++(c::r)) (3+0 - ((c::r:Str).length:Int))):Nat):Int)=_;unfold thoV;rw[Pb,Ia (by omega),show(3+0 - ((c::r:Str).length:Int)).toNat=3 - (c::r:Str).length by omega];have hle:valG 0 (c::r)<=1000:=by have:=Ye (valG 0 (c::r)) (yg (n:=3 - (c::r:Str).length) (show 0<10 by omega));omega
 rw[capG _ _ _ (by unfold ni;omega),M6 _ _ (by omega),k3]
theorem zDO{m:Nat}(h:m=0):Lib.decDigits m=[48]:=by subst h;decide+kernel
theorem vE{t:zg}{U:Str}(f:U=[]/\t.kind=10\/U=[37]\/ ∃u,u≠[]/\Zy u=true/\U=jg u):past digB U=U/\expS U=none/\(U=[]\/U=[37]\/(nmS U=true/\(zu U).2=[])):=by
 rcases f with⟨rfl,_⟩|rfl|⟨u,a,h,rfl⟩
 ·exact⟨rfl,rfl, .inl rfl⟩
 ·exact⟨rfl,rfl, .inr (.inl rfl)⟩
 ·have c:=mD a h;have e:=(iE c []).1;have d:=oW a h (x:=[]) (.inl rfl);have b:=SG a h [];rw[Xa]at e d b;exact⟨e,d, .inr (.inr ⟨c,by rw[b,Ql]⟩)⟩
theorem tO(n:Int)(p:Bool)(U:Str):past digB (unsign (numT n p++U))=past digB (dotS (if(partT (n.natAbs%1000) p).isEmpty then none else some (partT (n.natAbs%1000) p))++U):=q2_T n p U
theorem jI{n:Int}{p:Bool}(U:Str)(a:(partT (n.natAbs%1000) p).isEmpty=true):past digB (unsign (numT n p++U))=past digB U:=by rw[tO,a];rfl
theorem iI{n:Int}{p:Bool}(U:Str)(a:(partT (n.natAbs%1000) p).isEmpty=false):past digB (unsign (numT n p++U))=46::(partT (n.natAbs%1000) p++U):=by rw[tO,a];rfl
theorem zJs(z:Str):expS (46::z)=none:=rfl
theorem Y0(z:Str):nmS (46::z)=false:=rfl
theorem zEo{s r:Str}{P:List zg}(h:PcT s P)(x:digB (atS s 0)=true)(f:r=past digB s)(F:nmS r=false)(m:(atS r 0==37)=false)(d:Zb r=P):ShS s r:=by
 have u:unsign s=s:=by unfold unsign Ng;rw[Ha.2 (Ri x).1,Ha.2 (Ri x).2.1];rfl
 obtain⟨n,p,U,t,rfl,rfl,g,z⟩:=bH h (by grind);obtain⟨w,D,A⟩:=vE z;rw[<-u,tO]at f;cases j:(partT (n.natAbs%1000) p).isEmpty with
 |true=>
  rw[j]at f;have a:r=U:=by rw[f];exact w
  subst a;rcases A with rfl|rfl|⟨G,_⟩
  ·rw[Q6 (ZR rfl)]at d;cases d
  ·cases m
  grind
 |false=>
  rw[j]at f;have a:r=46::(partT (n.natAbs%1000) p++U):=by rw[f];rfl
  have B:=zD5 j w D;obtain⟨c,q,i⟩:=Si (show partT (n.natAbs%1000) p≠[] by grind);have b:=kJ (n:=n) (p:=p);have v:digB c=true:=by rw[i,Od,Ca]at b;exact b.1
  have k:cmtS r=46::(partT (n.natAbs%1000) p++U):=by rw[a];exact ZR rfl
  rw[Qy k]at d;injection d with d _;have l:ZC (46::(partT (n.natAbs%1000) p++U))=zS (46::(partT (n.natAbs%1000) p++U)):=by
   have o:nbS (46::(partT (n.natAbs%1000) p++U))=true:=by rw[i];exact v
   rw[Yt,Ia (by decide),Ia (by decide),show((46:UInt8)==35)=false from rfl,Ub,Ia (by decide),o,Ka rfl]
  have e: ∀q:Str,(zS q).1.num=(numP q).val:=by
   intro q;unfold zS;split
   ·rfl
   ·split<;>rfl
  rw[l]at d;have y:=e (46::(partT (n.natAbs%1000) p++U));rw[d,B,g]at y;have E:n.natAbs / 1000=0:=by omega
  have C:numT n p++U=48::46::c::(q++U):=by rw[Dz,j,zDO E,i];unfold sgT;rw[Ia (by omega)];rfl
  right;exact⟨c,q++U,v,C,by rw[a,i];rfl⟩
theorem AU: ∀(y r:Str),y.all letB=true->zu (y++r)=(y++(zu r).1,(zu r).2)
 |[],r,_=>rfl
 |c::y,r,h=>by rw[Od,Ca]at h;rw[Sa,zZ,Ka h.1,AU y r h.2];rfl
theorem zHe{l:Str}(h:l.all digB=true):l.all letB=true:=by
 rw[aa]at h ⊢;intro b a;unfold letB
 grind
theorem zEn{s r:Str}{P:List zg}(h:PcT s P)(he:atS s 0=101\/atS s 0=69)(hd:digB (atS (unsign (s.drop 1)) 0)=true)(hr:r=past digB (unsign (s.drop 1)))(hT:Zb r=P):False:=by
 obtain⟨l,t,z,hl,rfl,hk,ht,rfl,hz⟩:=zJ8 h he;obtain⟨c,q,e⟩:=Si (Ej h);have hnz:zu z=([],z):=by rcases hz with rfl|rfl;exact Ql;exact VJ []
 have hname:zu (ZB l++z)=(l,z):=by rw[Lm z hl,hnz,Xa]
 rw[e]at he hd hr hname;rw[show(c::q).drop 1=q from rfl]at hd hr;have hc:letB c=true:=by rcases he with h|h<;>(rw[show c=_ from h];rfl)
 -- the sign is a dash, or none
 have hsg:(sgOf q).all letB=true:=by
  unfold sgOf;cases hs:Ng (atS q 0)with
  |false=>rfl
  |true=>
   rw[Ka rfl];unfold Ng at hs;rw[Vb,Bb,Bb]at hs;rcases hs with hs|hs
   ·exfalso;cases q with
    |nil=>cases hs
    |cons d q'=>
     rw[show d=43 from hs,zZ,Ka hc,zZ,Ia (by decide),Ia (by unfold escS;rw[show atS (43::q') 0=43 from rfl];simp)]at hname
     grind
   ·rw[hs];rfl
 have hsplit:c::q=(c::(sgOf q++(unsign q).takeWhile digB))++r:=by rw[hr,Sa,La,pz,jN]
 have hall:(c::(sgOf q++(unsign q).takeWhile digB)).all letB=true:=by rw[Od,hc,List.all_append,hsg,zHe (JE digB _)];rfl
 rw[hsplit,AU _ _ hall]at hname;injection hname with hn1 hn2;have hcm:cmtS r=r:=by
  refine ZR ?_;cases r with
  |nil=>rfl
  |cons d u=>
   refine xu (Ha.2 ?_);rintro rfl;rw[zZ,Ia (by decide),Ia (by unfold escS;rw[show atS (47::u) 0=47 from rfl];simp)]at hn2
   grind
 cases r with
 |nil=>rw[Q6 hcm]at hT;cases hT
 |cons d u=>
  rw[Qy hcm]at hT;injection hT with hT _;have hbr:=Kq d u;rw[hT]at hbr;have hbr':brS d u=7:=by rcases hk with hk|hk<;>(rw[hk]at hbr;exact hbr.symm)
  have hx:t.text=(zu (d::u)).1:=by
   rw[<-hT,qp,hbr',Jk];have hk':(Qi (d::u)).1.kind=1\/(Qi (d::u)).1.kind=2:=by
    have:(Qi (d::u)).1=t:=by rw[<-hT,qp,hbr',Jk]
    rw[this];exact hk
   unfold Qi at hk' ⊢;split
   ·rename_i h40;rw[Ka h40]at hk';split
    ·rename_i h2;rw[Ka h2]at hk';rcases OJ (urlS (past spB ((zu (d::u)).2.drop 1))).1 with hh|hh<;>rcases hk' with hk'|hk'<;>rw[show(ol (urlS (past spB ((zu (d::u)).2.drop 1))).1).kind=_ from hk']at hh<;>cases hh
    ·rfl
   ·rfl
  rw[<-hx,ht]at hn1;have:=congrArg List.length hn1
  grind
theorem zzk{z r:Str}(h:Zf z=(r,true)):r=z:=by
 unfold Zf at h
 grind
theorem zDz{z r:Str}(h:(match expS (Zf z).1 with|some r=>(r,false)|none=>Zf z)=(r,true)):r=z:=by
 cases a:expS (Zf z).1 with
 |some y=>grind
 |none=>rw[a]at h;exact zzk h
theorem zGY{z r:Str}{b:Bool}(h:(match expS z with|some r=>(r,false)|none=>(z,false))=(r,b)):r=z\/expS z=some r:=by
 grind
theorem bT{t:zg}{s r:Str}{P:List zg}(N:zgM t)(h:PcT s P)(b:X3 t s r)(v:Zb r=P):ShS s r:=by
 have M:P≠[]:=by cases h<;>simp
 have p:r≠[]:=by rintro rfl;rw[Q6 (ZR rfl)]at v;exact M v.symm
 have j:digB (atS s 0)=false->past digB s=s:=by
  intro i;cases s with
  |nil=>rfl
  |cons c q=>rw[past,show digB c=false from i];rfl
 rcases b with b|⟨_,b⟩|⟨R,Q,g,G⟩|⟨_,K,y,i,g,b⟩
 ·exact .inl b
 ·cases u:spB (atS s 0)with
  |true=> rw[zKY h u]at b;exact absurd b p
  |false=>
   left;rw[b];cases s with
   |nil=>rfl
   |cons c q=>rw[past,show spB c=false from u];rfl
 ·cases N with
  |cNum n f w E S=>
   have e:zX (numT n (!f)++s)=(r,f):=Q;have a:r=past digB s\/expS (past digB s)=some r:=by
    cases d:(partT (n.natAbs%1000) (!f)).isEmpty with
    |true=> left;rw[WI d]at e;rw[jA S]at d;subst d;exact zDz e
    |false=> rw[EP d]at e;exact zGY e
   cases i:digB (atS s 0)with
   |true=>
    rcases a with b|l
    ·exact zEo h i b g G v
    ·exfalso;have o:unsign s=s:=by unfold unsign Ng;rw[Ha.2 (Ri i).1,Ha.2 (Ri i).2.1];rfl
     obtain⟨A,B,U,J,rfl,rfl,_,x⟩:=bH h (by grind);obtain⟨z,O,_⟩:=vE x;rw[<-o]at l;cases d:(partT (A.natAbs%1000) B).isEmpty with
     |true=>rw[jI U d,z,O]at l;cases l
     |false=>rw[iI U d,zJs]at l;cases l
   |false=>
    rw[j i]at a;rcases a with b|l
    ·exact .inl b
    ·obtain⟨w,E,L⟩:=WR l;exact(zEn h w E L v).elim
  |cId|cFn|cAt|cHash|cStr|cUrl|cDel|cPct|cDim=>simp at R
  |cMark k w E=>grind
 ·exfalso;have D:digB (atS (unsign s) 0)=true/\past digB (unsign (K++s))=past digB (unsign s):=by
   rcases y with rfl|rfl
   ·grind
   ·have m:digB (atS s 0)=true:=i;have o:unsign s=s:=by unfold unsign Ng;rw[Ha.2 (Ri m).1,Ha.2 (Ri m).2.1];rfl
    rw[o];exact⟨m,rfl⟩
  obtain⟨C,F⟩:=D;rw[F]at g b;obtain⟨A,B,U,J,rfl,rfl,_,x⟩:=bH h C;obtain⟨z,_,H⟩:=vE x;cases d:(partT (A.natAbs%1000) B).isEmpty with
  |true=>
   rw[jI U d,z]at g b;rcases H with rfl|rfl|⟨_,T⟩
   ·cases g
   ·cases g
   grind
  |false=>rw[iI U d,Y0]at g;cases g
abbrev cmtW:Str:=[47,42,42,47]
theorem Az{s:Str}{P:List zg}(h:PcT s P)(x:Str)(hx:atS x 0≠42):([47,42]:Str).isPrefixOf (s++x)=false:=by
 obtain⟨c,r,rfl⟩:=Si (Ej h);by_cases hc:c=47
 ·have:=PE h (.inl rfl) hc;rw[this];cases x with
  |nil=>rfl
  |cons d t=>
   show((47==(47:UInt8))&&((42==d)&&_))=false;have:((42:UInt8)==d)=false:=Ha.2 (fun e=>hx e.symm)
   grind
 grind
theorem YD{s:Str}{P:List zg}(h:PcT s P):cmtS s=s:=by
 refine ZR ?_;have:=Az h [] (by decide)
 grind
theorem Kz(x:Str):ZC (92::10::x)=(⟨9,[92],0,[],false⟩,10::x):=rfl
theorem zyA{l:Str}(g:l≠[])(h:Zy l=true)(f:lowS l=[117,114,108])(b:Bool)(w:Str):
  ZC (ZB l++40::((if b then [32]else [])++34::w))=(⟨2,l,0,[],false⟩,(if b then [32]else [])++34::w):=by
 have d:=XH g ((if b then [32]else [])++34::w);have a:=A9 h ((if b then [32]else [])++34::w);obtain⟨c,r,e⟩:=Si (Kk d);rw[e]at d a ⊢;rw[qp,bz d (by grind),Jk];unfold Qi;rw[a];simp only;have i:atS (past spB ((40::((if b then [32]else [])++34::w)).drop 1)) 0=34:=by cases b<;>rfl
 rw[Ka (by rfl),f,i,Ia (by decide)];rfl
theorem D6{l:Str}(h:lowS l=[117,114,108]):l≠[]:=by rintro rfl;cases h
theorem zFC(l m x:Str)(b:Bool):(ZB l++40::((if b then [32]else [])++34::(encB quoB m++[34])))++x=ZB l++40::((if b then [32]else [])++34::((encB quoB m++[34])++x)):=by
 grind
theorem uH{l m:Str}{b:Bool}(h:Zy l=true)(hl:lowS l=[117,114,108])(hm:Zy m=true)(x:Str):
  run ((ZB l++40::((if b then [32]else [])++34::(encB quoB m++[34])))++x) (⟨2,l,0,[],false⟩::((if b then [tkSp]else [])++[⟨5,m,0,[],false⟩])) x:=by
 rw[zFC];have hf:=zyA (D6 hl) h hl b ((encB quoB m++[34])++x);have hn:=XH (D6 hl) ((if b then [32]else [])++34::((encB quoB m++[34])++x));have hs: ∀q:Str,q=34::((encB quoB m++[34])++x)->run q [⟨5,m,0,[],false⟩] x:=by rintro q rfl;have:=eF hm x;rw[Sa]at this;exact⟨34,_,ZR rfl,by rw[this],by rw[this];rfl⟩
 obtain⟨c,r,e⟩:=Si (Kk hn);rw[e]at hf hn ⊢;have hc:c≠47:=by rintro rfl;exact absurd (show hdB 47=true from oo hn) (by decide)
 refine⟨c,r,ZR (xu (Ha.2 hc)),by rw[hf],?_⟩;rw[hf];cases b with
 |false=>exact hs _ rfl
 |true=> exact⟨32,34::((encB quoB m++[34])++x),ZR rfl,rfl,hs _ rfl⟩
theorem J5{s:Str}{P:List zg}(h:PcT s P){x:Str}(a:neu x):run (s++x) P x:=by
 cases h with
 |one t h d f=>
  have g:=zGX h d f a;have i:=Az (.one t h d f) x (by rcases a with rfl|⟨y,rfl⟩;exact(show(0:UInt8)≠42 by decide);exact(show(47:UInt8)≠42 by decide));obtain⟨c,r,e⟩:=Si (Ej (.one t h d f));rw[e]at g i ⊢;exact⟨c,r++x,ZR i,by grind,by rw[show c::(r++x)=(c::r)++x from rfl,g];rfl⟩
 |back=> refine⟨92,10::x,ZR rfl,by rw[Kz],?_⟩;rw[Kz];refine⟨10,x,ZR rfl,rfl,?_⟩;show past spB x=x;exact pQ rfl a
 |url l m b h j k=>exact uH h j k x
theorem zIi{u s r:Str}{p P:List zg}(hu:PcT u p)(hs:PcT s P)(hr:run (u++s) p r)(hT:Zb r=P):ShS s r:=by
 cases hu with
 |one t h hb hu=>
  obtain⟨c,q,h1,h2,h3⟩:=hr;have hpu:PcT (txS t) [t]:= .one t h hb hu;rw[run]at h3;cases hp:([47,42]:Str).isPrefixOf (txS t++s)with
  |true=>
   exfalso;obtain⟨c0,r0,e⟩:=Si (Ej hpu);by_cases hc:c0=47
   ·have e2:=PE hpu (.inl rfl) (by rw[e];exact hc);rw[e2]at hp h1;have h42:atS s 0=42:=by
     cases s with
     |nil=>cases hp
     |cons d t'=>
      have:((42:UInt8)==d)=true:=by have h':((47==(47:UInt8))&&((42==d)&&true))=true:=hp;simpa using h'
      exact(Bb.1 this).symm
    rw[PE hs (.inr rfl) h42]at h1;have:cmtS ([47]++[42])=[]:=by rw[Uk];rfl
    grind
   grind
  |false=> rw[ZR hp]at h1;rw[<-h1]at h2 h3;have:=zDx h hu h2;rw[h3]at this;exact bT h hs this hT
 |back=> obtain⟨c,q,h1,h2,h3⟩:=hr;rw[show cmtS ([92,10]++s)=92::10::s from ZR rfl]at h1;injection h1 with e1 e2;subst e1 e2;rw[Kz]at h3;obtain⟨c',q',g1,g2,g3⟩:=h3;rw[show cmtS (10::s)=10::s from ZR rfl]at g1;injection g1 with e1 e2;subst e1 e2;rw[run]at g3;have g3':past spB s=r:=g3;exact bT (t:=tkSp) (.cMark 13 (by omega) (by omega)) hs (.inr (.inl ⟨rfl,g3'.symm⟩)) hT
 |url l m b h hl hm=>exact .inl (E8 hr (uH h hl hm s))
def Lk(R A:Str):Prop:=cmtS R=A\/ ∃d y,digB d=true/\A=48::46::d::y/\cmtS R=46::d::y
theorem Dr{R A:Str}(h:Lk R A)(a:A≠[]):cmtS R≠[]:=by
 rcases h with h|⟨d,y,_,_,h⟩
 ·rw[h];exact a
 ·rw[h];simp
theorem sO{R A x:Str}(h:Lk R A)(b:A≠[])(c:([47,42]:Str).isPrefixOf (A++x)=false):Lk (R++x) (A++x):=by
 rcases h with h|⟨d,y,a,rfl,h⟩
 ·left;rw[Ew (by rw[h];exact b) (by rw[h];exact c),h]
 ·right;exact⟨d,y++x,a,rfl,by rw[Ew (by rw[h];simp) (by rw[h];rfl),h];rfl⟩
theorem pO{R A:Str}(h:Lk R A)(g:([47,42]:Str).isPrefixOf A=false){t:zg}{ts:List zg}{r:Str}:run R (t::ts) r↔run A (t::ts) r:=by
 rcases h with h|⟨d,y,f,rfl,h⟩
 ·rw[<-F8 (q:=R) (by simp),h]
 ·rw[<-F8 (q:=R) (by simp),h];constructor
  ·rintro⟨c,q,a,e,b⟩;rw[ZR rfl]at a;rw[<-a]at e b;exact⟨48,46::d::y,ZR rfl,by rw[TG d y f];exact e,by rw[TG d y f];exact b⟩
  ·rintro⟨c,q,a,e,b⟩;rw[ZR rfl]at a;rw[<-a,TG d y f]at e b;exact⟨46,d::y,ZR rfl,e,b⟩
theorem J9{R A:Str}(h:Lk R A):Zb R=Zb A:=by
 rcases h with h|⟨d,y,a,rfl,h⟩
 ·rw[<-YF R,h]
 ·rw[<-YF R,h,Qy (ZR rfl),Qy (l:=48::46::d::y) (ZR rfl),TG d y a]
inductive Syn:Str->List zg->List (List zg×Str)->Prop
 |nil:Syn [] [] []
 |cmt (b s:Str) (ts P:List zg) (st:List (List zg×Str)) (h:Syn b ts st) (hb:b≠[]) (hp:PcT s P):Syn (b++cmtW++s) (ts++P) (st++[(ts,b++cmtW)])
 |no (b s:Str) (ts P:List zg) (st:List (List zg×Str)) (h:Syn b ts st) (hp:PcT s P) (ht:Zb (b++s)=ts++P):Syn (b++s) (ts++P) (st++[(ts,b)])
def Bd(b:Str)(ts L:List zg)(B:Str)(m:Nat):Prop:= ∃A R a,b=B++A/\A≠[]/\ts=L++a/\a≠[]/\run b L R/\Lk R A/\m<=R.length/\m<=A.length
structure zI0 (b:Str) (ts:List zg) (st:List (List zg×Str)):Prop where
 tok:Zb b=ts
 bd: ∀k (h:k<st.length),Bd b ts st[k].1 st[k].2 (st.length - k)
 last:(st=[]/\b=[]/\ts=[])\/ ∃L B u p R,PcT u p/\b=B++u/\ts=L++p/\run b L R/\Lk R u
theorem pc_P{s:Str}{P:List zg}(h:PcT s P): ∃t us,P=t::us:=by cases h<;>exact⟨_,_,rfl⟩
theorem F7 {b x:Str} {ts P L:List zg} {B:Str} {m:Nat} (h:Bd b ts L B m) (hx:x≠[])
  (hrun: ∀R,R≠[]->run b L R->(∃A,A≠[]/\Lk R A/\b=B++A)->run (b++x) L (R++x)/\(∀A,A≠[]->Lk R A->b=B++A->Lk (R++x) (A++x))):Bd (b++x) (ts++P) L B (m+1):=by
 obtain⟨A,R,us,h1,h2,h3,h4,h5,h6,h7,h8⟩:=h;have hR:R≠[]:=by intro e;have:=Dr h6 h2;rw[e]at this;exact this (ZR rfl)
 obtain⟨g1,g2⟩:=hrun R hR h5 ⟨A,h2,h6,h1⟩;refine⟨A++x,R++x,us++P,by grind,by simp[h2],by grind,by simp[h4],g1,g2 A h2 h6 h1,?_⟩;have:=xe.2 hx
 grind
theorem U6{q:Str}(h:cmtS q=[47]):cmtS (q++[42])=[]:=by
 rw[Uk q]at h;cases a:([47,42]:Str).isPrefixOf q with
 |true=>
  have b:=Bq a;rw[show([47,42]:Str).length=2 from rfl]at b;rw[a,Ka rfl]at h;cases c:clsS (q.drop 2)with
  |none=>grind
  |some p=>
   rw[c]at h;have d:p.length<q.length:=by have d:=(Un _ c).2;rw[Dc]at d;omega
   rw[Uk,Gw [42] (by exact b),a,Ka rfl,Ow b,AJ [42] c];exact U6 h
 |false=> rw[a,Ia (by decide)]at h;subst h;rw[Uk];rfl
termination_by q.length
end Go.Lv.VT
