/- The text of a token, as it is written. -/
import Derived.Test.YtpcfcdmidhbkmaaGreatDoorXb
import Derived.Test.YtpcfcdmidhbkmaaGreatDoorXa
import Derived.Test.YtpcfcdmidhbkmaaGreatDoorXc
set_option linter.unusedSimpArgs false
set_option linter.unusedVariables false
namespace Go.Lv.VT
set_option maxRecDepth 100000
def encB(p:UInt8->Bool):Str->Str
 |[]=>[]
 |c::r=>(bif p c then escC c else [c])++encB p r
def quoB(c:UInt8):Bool:=c==10||c==12||c==13||c==34||c==92
def urB(c:UInt8):Bool:=decide (c.toNat<=32)||c==34||c==39||c==40||c==41||c==92||c==127
def yh:Str->Bool
 |[]=>false
 |c::r=>(c==101||c==69)&&numS r&& !(List.isPrefixOf [45,45] r)
def Qb:Str->Str
 |[]=>[]
 |c::r=>bif yh (c::r)then escC c++encW false 0 r else Z0 (c::r)
def Ol(k:Int):Str:=
 bif k==13 then [32]else bif k==14 then [60,33,45,45]else bif k==15 then [45,45,62]else bif k==16 then [58]else bif k==17 then [59]else bif k==18 then [44]else
 bif k==19 then [91]else bif k==20 then [93]else bif k==21 then [40]else bif k==22 then [41]else bif k==23 then [123]else [125]
def txS(t:zb):Str:=
 bif t.kind==1 then Z0 t.text
 else bif t.kind==2 then Z0 t.text++[40]
 else bif t.kind==3 then 64::Z0 t.text
 else bif t.kind==4 then 35::(bif t.flag then Z0 t.text else encW false 0 t.text)
 else bif t.kind==5 then 34::(encB quoB t.text++[34])
 else bif t.kind==7 then [117,114,108,40]++(encB urB t.text++[41])
 else bif t.kind==9 then t.text
 else bif t.kind==10 then numT t.num (!t.flag)
 else bif t.kind==11 then numT t.num false++[37]
 else bif t.kind==12 then numT t.num (!t.flag)++Qb t.unit
 else Ol t.kind
theorem Ou(p:UInt8->Bool): ∀l:Str,(encB p l).length<=4*l.length
 |[]=>by unfold encB;simp
 |c::r=>by
  have:=Bu c;have:=Ou p r;unfold encB
  grind
theorem jS{p:UInt8->Bool}{i:Nat}{l:Str}(h:i<l.length):encB p (l.drop i)=(bif p l[i]then escC l[i]else [l[i]])++encB p (l.drop (i+1)):=by rw[Eb h,encB]
theorem jM {R:Type} {step:Int×List UInt8->Option (LO (Int×List UInt8) (List UInt8) R)} {l acc:Str} {p:UInt8->Bool} (hl:l.length<=100000) (ha:acc.length<=100000000)
  (h1: ∀(i:Nat) (a:Str) (hi:i<l.length),a.length<=500000000->step ((i:Int),a)=some (.again (w64 ((i:Int)+1),a++(bif p l[i]then escC l[i]else [l[i]]))))
  (h2: ∀a,step ((l.length:Int),a)=some (.out a)):Ng step (0,acc)=some (.out (acc++encB p l)):=by
 refine qO (fun z=> ∃(i:Nat) (a:Str),z=((i:Int),a)/\i<=l.length/\a.length<=acc.length+4*i/\a++encB p (l.drop i)=acc++encB p l) (fun z=>l.length - z.1.toNat) _ ?_ ⟨0,acc,rfl,by omega,by omega,rfl⟩;rintro _ ⟨i,a,rfl,hi,hal,he⟩;rcases ic i l.length with h|h
 ·refine .inl ⟨_,h1 i a h (by omega),⟨i+1,_,by rw[zZ (by omega) (by omega)];rfl,by omega,?_,?_⟩,by simp only;rw[zZ (by omega) (by omega)];omega⟩
  ·have:=Bu l[i]
   grind
  ·rw[<-he,jS h,Ia]
 ·have:i=l.length:=by omega
  subst this;refine .inr (.inl ⟨_,h2 a,?_⟩);rw[<-he,xe (Va _)];rw[show encB p []=[] by rw[encB],Xa]
theorem fE{l acc:Str}{k:Nat}(d:l.length<=100000)(b:acc.length<=100000000):ZY ((l,(k:Int)),acc)=some (acc++encW (il k l) k l):=by
 unfold ZY;rw[qP (bP (dash:=il k l) (k:=k) (l:=l) (acc:=acc) d b (fun i a f b=> ?_) (fun a=> ?_))]
 ·have g:decide ((i:Int)<(l.length:Int))=true:=La (by omega);have e:geti l (i:Int)=some l[i]:=lh f;have j:decide ((i:Int)>=(k:Int))=(k - i==0):=by
   by_cases h:k<=i
   ·grind
   ·grind
  have m:((k:Int)==0)=(k==0):=by
   by_cases h:k=0
   ·subst h;rfl
   ·grind
  simp only[g,Ha,e,j,m,ze,Aa,wQ,uI];have c:(bif k==0 then true else !(l==[45]))= !il k l:=by unfold il;cases k==0<;>cases l==[45]<;>rfl
  rw[c];unfold pcW;cases letB l[i]with
  |false=>
   cases k - i==0<;>simp only[zu,Lb,Cb,Df,Lc,Vb,Ha,Ja,Aa,Fq l[i] (show a.length<=1000000000 by omega),zh]
  |true=> cases k - i==0<;>cases digB l[i]<;>cases il k l<;>simp only[zu,Lb,Cb,Df,Lc,Vb,Tf,jf,Nb,xc,Ee,Ha,Ja,Aa,Yx,zG (Pg (show a.length+1<=2000000000 by omega)),Fq l[i] (show a.length<=1000000000 by omega),zh]
 grind
theorem bX(l:Str):il (Qv l) l=(l==[45]):=by unfold il Qv;split<;>rfl
theorem Gs{l acc:Str}(a:l.length<=100000)(b:acc.length<=100000000):ZY ((l,((Qv l:Nat):Int)),acc)=some (acc++Z0 l):=by rw[fE a b,bX];rfl
theorem TS{n:Nat}{b:Str}(c:n<=1000000000000)(d:b.length<=100000):Tp (((n:Int),10),b)=some (b++Lib.decDigits n):=by have a:short b=true:=La (by omega);unfold Tp;simp only[a,Vb,Yb,decide_true,Nb];rw[La (by omega),La (by omega)];rfl
theorem jN{m:Nat}(n:m<=1000000000000)(p:Bool)(b:Str)(o:b.length<=90000):
  ((Tp ((w64 (Int.tdiv (m:Int) 1000),10),b)).bind fun a=>(Gp (w64 (1000+Int.tmod (m:Int) 1000),10)).bind fun d=>need (decide (1<=(d.length:Int)))<|
   (ol (List.drop 1 d,[48])).bind fun c=>zN (X:=List UInt8) (R:=List UInt8) (bif !(c==[])then need (zR a.length 1 1)<|need (zR (a++[(46:UInt8)]).length c.length 1)<|some (LX.out (a++[(46:UInt8)]++c))else bif p then need (zR a.length ([46,48]:Str).length 1)<|some (LX.out (a++([46,48]:Str)))else some (LX.out a)) fun l=>some l)=some (b++uf m p):=by
 have k:w64 (Int.tdiv (m:Int) 1000)=((m / 1000:Nat):Int):=by rw[show Int.tdiv (m:Int) 1000=((m / 1000:Nat):Int)from rfl,zZ (by omega) (by omega)]
 have j:w64 (1000+Int.tmod (m:Int) 1000)=((1000+m%1000:Nat):Int):=by rw[show Int.tmod (m:Int) 1000=((m%1000:Nat):Int)from rfl,zZ (by omega) (by omega)];omega
 have f:m%1000<1000:=by omega
 rw[k,j];have i:Gp (((1000+m%1000:Nat):Int),10)=some (49::[d48 (m%1000 / 100),d48 (m%1000 / 10%10),d48 (m%1000%10)]):=by unfold Gp i64B;simp only[decide_true,Nb];rw[La (by omega),La (by omega)];rw[<-OV f];show some (Lib.itoa _)=_;unfold Lib.itoa;rw[Fa (by omega),Yb]
 have e:=gF (u:=m / 1000) (by omega);rw[TS (by omega) (by omega),Aa,i,Aa,zG (La (by simp))];have g:ol (List.drop 1 (49::[d48 (m%1000 / 100),d48 (m%1000 / 10%10),d48 (m%1000%10)]),[48])=some (Nh (m%1000)):=rfl;rw[g,Aa,vW];have h:=PE _ f;simp only[vv,Ba,Jb]at h;unfold uf yj;cases (Nh (m%1000)).isEmpty with
 |true=>
  simp only[Lb,Ja,Ha];cases p with
  |true=>rw[Ha,zG (Fj (by grind) (by omega)),zh,Ia];rfl
  |false=>simp_all
 |false=> simp only[Cb,Ja,Ha];rw[zG (Fj (by grind) (by omega)),zG (Fj (by grind) (by omega)),zh,Ia,Ia];rfl
theorem sF{n:Int}(d: -1000000000000<=n)(h2:n<=1000000000000)(p:Bool){acc:Str}(c:acc.length<=80000):Z6 ((n,p),acc)=some (acc++numT n p):=by
 unfold Z6 numT;simp only[ze];by_cases a:n<0
 ·obtain⟨m,rfl⟩: ∃m:Nat,n= -(m:Int):=⟨n.natAbs,by omega⟩;rw[La a,Ha,zG (Fj (by omega) (by omega)),zh,Ea a];simp only;have b:w64 (0 - -(m:Int))=(m:Int):=by rw[show(0 - -(m:Int))=(m:Int) by omega,zZ (by omega) (by omega)]
  rw[b,Int.natAbs_neg,Int.natAbs_natCast,<-Ia];exact jN (by omega) p (acc++[45]) (by grind)
 ·obtain⟨m,rfl⟩: ∃m:Nat,n=(m:Int):=⟨n.toNat,by omega⟩;rw[Ob a,Ja,zh,Fa a];simp only;rw[Int.natAbs_natCast,Ya];exact jN (by omega) p acc (by omega)
theorem oQ: ∀n:Nat,n<256->(ibOr IntKind.u8 (n:Int) 32==101)=(UInt8.ofNat n==101||UInt8.ofNat n==69):=by decide+kernel
theorem pQ(c:UInt8):(ibOr IntKind.u8 (c.toNat:Int) 32==101)=(c==101||c==69):=by have:=oQ c.toNat (ma c);simp_all
theorem jR(c:UInt8):decide (Lib.indexByte [10,12,13,34,92] c.toNat.toUInt8>=0)=quoB c:=by
 have: ∀n:Nat,n<256->decide (Lib.indexByte [10,12,13,34,92] n.toUInt8>=0)=quoB (UInt8.ofNat n):=by decide+kernel
 have:=this c.toNat (ma c);simp_all
theorem iP(c:UInt8):(decide ((c.toNat:Int)<=32)||decide (Lib.indexByte [34,39,40,41,92,127] c.toNat.toUInt8>=0))=urB c:=by
 have: ∀n:Nat,n<256->(decide ((n:Int)<=32)||decide (Lib.indexByte [34,39,40,41,92,127] n.toUInt8>=0))=urB (UInt8.ofNat n):=by decide+kernel
 have:=this c.toNat (ma c);simp_all
theorem GZ {t:zb} (h:mf t=true) (e:(t.kind==1)=false) (h2:(t.kind==2)=false) (g:(t.kind==3)=false) (d:(t.kind==4)=false) (i:(t.kind==5)=false) (j:(t.kind==7)=false) (f:(t.kind==9)=false)
  (c:(t.kind==10)=false) (b:(t.kind==11)=false) (a:(t.kind==12)=false):13<=t.kind/\t.kind<=24:=by
 unfold mf at h
 grind
theorem VV: ∀n:Nat,n<12->(lu ()).bind (fun a=>geti [a.e0,a.e1,a.e2,a.e3,a.e4,a.e5,a.e6,a.e7,a.e8,a.e9,a.e10,a.e11] (wu8 ((13+n:Int) - 13)))=some (Ol (13+n:Int)):=by decide+kernel
theorem dL(k:Int):(Ol k).length<=4:=by
 unfold Ol;cases k==13<;>cases k==14<;>cases k==15<;>simp only[Ha,Ja]<;>try (simp;done)
 grind
theorem GU{t:zb}{acc:Str}(x:mf t=true)(R:t.text.length<=5000)(h2:t.unit.length<=5000)(ha:acc.length<=60000):Nn (t,acc)=some (acc++txS t):=by
 have one: ∀q:Str,q.length<=90000->zR q.length 1 1=true:=fun q hq=>Fj (by omega) (by omega);have z: ∀l:Str,l.length<=5000->(Z0 l).length<=20000:=fun l hl=>by have:=Nu (l==[45]) (Qv l) l;unfold Z0;omega
 unfold Nn txS;simp only[ze];cases H:t.kind==1 with
 |true=>simp only[Ha,Au,Aa,Gs (show t.text.length<=100000 by omega) (show acc.length<=100000000 by omega)]
 |false=>
 cases L:t.kind==2 with
 |true=> simp only[Ha,Ja,Au,Aa,Gs (show t.text.length<=100000 by omega) (show acc.length<=100000000 by omega)];have:=z t.text R;rw[zG (one _ (by grind)),Ia]
 |false=>
 cases M:t.kind==3 with
 |true=> simp only[Ha,Ja,Au,Aa];rw[zG (one _ (by omega)),Gs (by omega) (by grind),Ia];rfl
 |false=>
 cases Q:t.kind==4 with
 |true=>
  simp only[Ha,Ja,Au,Aa];cases t.flag with
  |true=> simp only[Ha,zh];rw[zG (one _ (by omega)),Gs (by omega) (by grind),Ia];rfl
  |false=> simp only[Ja,zh];rw[zG (one _ (by omega)),show(0:Int)=((0:Nat):Int)from rfl,fE (by omega) (by grind),Ia];rfl
 |false=>
 cases P:t.kind==5 with
 |true=>
  simp only[Ha,Ja];have k:maxLen=9223372036854775807:=rfl;rw[zG (one _ (by omega)),zG (La (by omega))];have C:=Ou quoB t.text;rw[qP (jM (p:=quoB) (l:=t.text) (acc:=acc++[34]) (by omega) (by grind) (fun i a F y=> ?_) (fun a=> ?_))]
  ·rw[zG (one _ (by grind)),Ia,Ia];rfl
  ·have D:decide ((i:Int)<(t.text.length:Int))=true:=La (by omega);have A:decide ((0:Int)<=(i:Int))=true:=La (by omega);simp only[D,A,Vb,Ha,qg,Yb,Ua F,Aa,RA,jR];cases quoB t.text[i]with
   |true=>simp only[Ha,Fq _ (show a.length<=1000000000 by omega),Aa,zh]
   |false=>simp only[Ja,Yx,Aa,zG (Pg (show a.length+1<=2000000000 by omega)),zh]
  ·grind
 |false=>
 cases O:t.kind==7 with
 |true=>
  simp only[Ha,Ja];have k:maxLen=9223372036854775807:=rfl;rw[zG (Fj (by grind) (by omega)),zG (La (by omega))];have C:=Ou urB t.text;rw[qP (jM (p:=urB) (l:=t.text) (acc:=acc++[117,114,108,40]) (by omega) (by grind) (fun i a F y=> ?_) (fun a=> ?_))]
  ·rw[zG (one _ (by grind)),Ia,Ia]
  ·have D:decide ((i:Int)<(t.text.length:Int))=true:=La (by omega);have A:decide ((0:Int)<=(i:Int))=true:=La (by omega);simp only[D,A,Vb,Ha,qg,Yb,Ua F,Aa,RA];rw[<-iP];cases decide ((t.text[i].toNat:Int)<=32)with
   |true=>simp only[Lb,ZX,Aa,Ha,Ee,Fq _ (show a.length<=1000000000 by omega),zh]
   |false=>
    simp only[Cb,zU,Aa,Ja,xc];cases decide (Lib.indexByte [34,39,40,41,92,127] t.text[i].toNat.toUInt8>=0)with
    |true=>simp only[Ha,Fq _ (show a.length<=1000000000 by omega),Aa,zh]
    |false=>simp only[Ja,Yx,Aa,zG (Pg (show a.length+1<=2000000000 by omega)),zh]
  ·grind
 |false=>
 cases N:t.kind==9 with
 |true=> simp only[Ha,Ja];rw[zG (Fj (by omega) (by omega))]
 |false=>
 have g:(t.kind==10||t.kind==11||t.kind==12)=true->rngS t=true/\(!(t.unit==[])==(t.kind==12))=true:=by intro Z;unfold mf at x;simp only[H,L,M,Q,P,O,N,Z,Bool.or_self,Ja,Ha,Ba]at x;exact⟨x.1,x.2.1⟩
 have b:rngS t=true-> -1000000000000<=t.num/\t.num<=1000000000000:=by intro j;unfold rngS at j;simp only[Ba,Jb]at j;exact⟨j.1,j.2.1⟩
 cases s:t.kind==10 with
 |true=> obtain⟨u,w⟩:=b (g (by rw[s];rfl)).1;simp only[Ha,Ja,sF u w _ (show acc.length<=80000 by omega),Aa]
 |false=>
 cases E:t.kind==11 with
 |true=>
  obtain⟨u,w⟩:=b (g (by grind)).1;have T:(numT t.num false).length<=25:=by
   have:=Py (m:=t.num.natAbs) (by omega) false;unfold numT;rw[Ga];split
   ·grind
   ·grind
  simp only[Ha,Ja,sF u w _ (show acc.length<=80000 by omega),Aa];rw[zG (one _ (by grind)),Ia]
 |false=>
 cases o:t.kind==12 with
 |true=>
  obtain⟨j,X⟩:=g (by grind);obtain⟨u,w⟩:=b j;rw[o]at X;have T:(numT t.num (!t.flag)).length<=25:=by
   have:=Py (m:=t.num.natAbs) (by omega) (!t.flag);unfold numT;rw[Ga];split
   ·grind
   ·grind
  simp only[Ha,Ja,sF u w _ (show acc.length<=80000 by omega),Aa];cases G:t.unit with
  |nil=>grind
  |cons c r=>
   rw[G,Ka]at h2;have h:geti (c::r) 0=some c:=rfl;have B:List.drop 1 (c::r)=r:=rfl;have f:decide (1<=((c::r:Str).length:Int))=true:=La (by grind);simp only[h,B,f,Ee,qg,Aa,pQ,cO,Vq,Au];have v:(acc++numT t.num (!t.flag)).length<=100000000:=by rw[Ga];omega
   have d:=Gs (l:=c::r) (acc:=acc++numT t.num (!t.flag)) (by grind) v;have e:Qb (c::r)=(bif (c==101||c==69)&&numS r&& !(List.isPrefixOf [45,45] r)then escC c++encW false 0 r else Z0 (c::r)):=rfl;rw[e];have Y:(c==101||c==69)=true->Zt ((c.toNat:Int),acc++numT t.num (!t.flag))=some (acc++numT t.num (!t.flag)++escC c):=fun _=>Fq c (by grind);cases S:c==101||c==69 with
   |false=> simp_all
   |true=>
    simp only[zU,Aa,Ha,Nb];cases J:numS r with
    |false=> simp_all
    |true=>
     simp only[zU,Aa,Ha,Nb];cases hp:List.isPrefixOf [45,45] r with
     |true=> simp only[Lb,Ja,d,Aa];rw[Ia]
     |false=> simp only[Cb,Ha,Y S,Aa];have K:=Bu c;rw[show(0:Int)=((0:Nat):Int)from rfl,fE (by omega) (by rw[Ga,Ga];omega)];rw[Ia,Ia];rfl
 |false=>
 obtain⟨W,V⟩:=GZ x H L M Q P O N s E o;obtain⟨n,J⟩: ∃n:Nat,t.kind=13+(n:Int):=⟨(t.kind - 13).toNat,by omega⟩;have h:=VV n (by omega);rw[<-J]at h;have k:=dL t.kind;simp only[Ja];have U:lu ()=some ⟨[32],[60,33,45,45],[45,45,62],[58],[59],[44],[91],[93],[40],[41],[123],[125]⟩:=rfl;rw[U]at h ⊢;simp only[Aa]at h ⊢;rw[h];simp only[Aa];rw[zG (Fj (by omega) (by omega))]
theorem Ll{c:UInt8}(h0:c≠0)(h:c.toNat<128)(R:Str): ∃d t,escC c++R=92::d::t/\(d==10)=false/\zm (d::t)=([c],R):=by
 unfold escC;cases hg:decide (32<c.toNat)&&decide (c.toNat<127)&& !digB c&& !alB c with
 |true=>
  have hx:qy c=false/\(c==10)=false:=by
   have: ∀n:Nat,n<256->(decide (32<(UInt8.ofNat n).toNat)&&decide ((UInt8.ofNat n).toNat<127)&& !digB (UInt8.ofNat n)&& !alB (UInt8.ofNat n))=true->qy (UInt8.ofNat n)=false/\(UInt8.ofNat n==10)=false:=by decide+kernel
   have:=this c.toNat (ma c);rw[Jd]at this;exact this hg
  exact⟨c,R,rfl,hx.2,by show(if qy c then _ else _)=_;grind⟩
 |false=> obtain⟨d,t,e,hd,h10⟩:=XF (n:=c.toNat) (ma c) ([32]++R);refine⟨d,t,by grind,h10,?_⟩;have hh:=oI (n:=c.toNat) (ma c) R;rw[show(32::R:Str)=[32]++R from rfl,e]at hh;show(if qy d then(Hg (hexes 6 0 (d::t)).1,unsp (hexes 6 0 (d::t)).2)else _)=_;rw[Ea hd,hh,UL h0 h];rfl
theorem fP(n:Nat):Hg n≠[]:=by
 unfold Hg Ak
 grind
theorem JG(r:Str):(zm r).1≠[]:=by
 cases r with
 |nil=>show Ak≠[];decide
 |cons c r=>
  show(if qy c then(Hg (hexes 6 0 (c::r)).1,unsp (hexes 6 0 (c::r)).2)else([c],r)).1≠[];split
  ·exact fP _
  ·simp
theorem uy{x:Str}(h:(zg x).1=[]):(zg x).2=x:=by
 cases x with
 |nil=>rw[Z9]
 |cons c r=>
  rw[zI]at h ⊢;split
  ·grind
  ·rename_i b;rw[Fa b]at h;split
   ·rename_i a;rw[Ea a]at h;exact absurd (Jc.1 h).1 (JG r)
   ·rfl
theorem qa{c:UInt8}{r:Str}(h:Zc (c::r)=true):c≠0/\Zc r=true:=by
 unfold Zc at h ⊢
 grind
theorem KF{dash:Bool}(R:Str): ∀(k:Nat) (l:Str),Zc l=true->(dash=true-> ∀c∈l,c.toNat<128)->zg (encW dash k l++R)=(l++(zg R).1,(zg R).2)
 |_,[],_,_=>by rw[encW];rfl
 |k,c::r,h,a=>by obtain⟨f,d⟩:=qa h;rw[encW,Ia,SI f (fun e=>a e c (Xb ..)),KF R (k - 1) r d (fun e x b=>a e x (Fb _ b))];rfl
theorem Ql{l:Str}(R:Str)(h:Zc l=true):zg (Z0 l++R)=(l++(zg R).1,(zg R).2):=by refine KF R _ _ h (fun e c a=> ?_);simp_all
theorem XM{l:Str}(R:Str)(k:Nat)(h:Zc l=true):zg (encW false k l++R)=(l++(zg R).1,(zg R).2):=KF R k l h (fun e=>by cases e)
theorem LF(c:UInt8):(quoB c=true->c.toNat<128)/\(quoB c=false->(c==34)=false/\(c==10)=false/\(c==92)=false):=by
 have: ∀n:Nat,n<256->(quoB (UInt8.ofNat n)=true->(UInt8.ofNat n).toNat<128)/\(quoB (UInt8.ofNat n)=false->(UInt8.ofNat n==34)=false/\(UInt8.ofNat n==10)=false/\(UInt8.ofNat n==92)=false):=by decide+kernel
 have:=this c.toNat (ma c);simp_all
theorem WK(x:Str): ∀(l:Str),Zc l=true->zK 34 (encB quoB l++34::x)=(some l,x)
 |[],_=>by rw[encB,Ya,Z7,Ea (by decide)]
 |c::r,h=>by
  obtain⟨f,k⟩:=qa h;have m:=WK x r k;obtain⟨p,j⟩:=LF c;rw[encB,Ia];cases a:quoB c with
  |true=>
   obtain⟨d,t,o,n,b⟩:=Ll f (p a) (encB quoB r++34::x);rw[Ha,o,Z7,Fa (by decide),Fa (by decide),Ea (by decide),show(d::t).isEmpty=false from rfl,Fa (by decide),show atS (d::t) 0=d from rfl,n,Fa (by decide),b]
   grind
  |false=> obtain⟨g,i,e⟩:=j a;rw[Ja,Xc,Z7,g,Fa (by decide),i,Fa (by decide),e,Fa (by decide),m];rfl
theorem Iy(c:UInt8):(urB c=true->c.toNat<128)/\(urB c=false->(c==41)=false/\spB c=false/\(c==34||c==39||c==40||unB c)=false/\(c==92)=false/\(c==34)=false/\(c==39)=false):=by
 have: ∀n:Nat,n<256->(urB (UInt8.ofNat n)=true->(UInt8.ofNat n).toNat<128)/\(urB (UInt8.ofNat n)=false->(UInt8.ofNat n==41)=false/\spB (UInt8.ofNat n)=false/\(UInt8.ofNat n==34||UInt8.ofNat n==39||UInt8.ofNat n==40||unB (UInt8.ofNat n))=false/\(UInt8.ofNat n==92)=false/\(UInt8.ofNat n==34)=false/\(UInt8.ofNat n==39)=false):=by decide+kernel
 have:=this c.toNat (ma c);simp_all
theorem VK(x:Str): ∀(l:Str),Zc l=true->urlS (encB urB l++41::x)=(some l,x)
 |[],_=>by rw[encB,Ya,Q5,Ea (by decide)]
 |c::r,h=>by
  obtain⟨g,n⟩:=qa h;have o:=VK x r n;obtain⟨s,k⟩:=Iy c;rw[encB,Ia];cases a:urB c with
  |true=>
   obtain⟨d,t,q,p,e⟩:=Ll g (s a) (encB urB r++41::x);have m:escS (92::d::t)=true:=by unfold escS;rw[show atS (92::d::t) 1=d from rfl,p];rfl
   rw[Ha,q,Q5,Fa (by decide),Fa (by decide),m,Fa (by decide),Ea (by decide),e]
   grind
  |false=> obtain⟨i,j,f,b,_,_⟩:=k a;rw[Ja,Xc,Q5,i,Fa (by decide),j,Fa (by decide),f,b,Lc,jf,Fa (by decide),Fa (by decide),o];rfl
theorem yT(x:Str)(l:Str)(h:Zc l=true):past spB (encB urB l++41::x)=encB urB l++41::x/\(atS (encB urB l++41::x) 0==34||atS (encB urB l++41::x) 0==39)=false:=by
 cases l with
 |nil=>exact⟨rfl,rfl⟩
 |cons c r=>
  obtain⟨b,q⟩:=qa h;obtain⟨k,f⟩:=Iy c;rw[encB,Ia];cases a:urB c with
  |true=> obtain⟨d,t,i,s,n⟩:=Ll b (k a) (encB urB r++41::x);rw[Ha,i];exact⟨rfl,rfl⟩
  |false=> obtain⟨p,e,o,m,j,g⟩:=f a;rw[Ja,Xc];refine⟨by rw[past,e];rfl,?_⟩;show(c==34||c==39)=false;rw[j,g];rfl
theorem GJ{n:Int}{p:Bool}:(partT (n.natAbs%1000) p).isEmpty=((n.natAbs%1000==0)&& !p):=(Yi (r:=n.natAbs%1000) (by omega) p).2.2.2.2
def sgT(n:Int):Str:=if n<0 then [45]else []
theorem Pj(n:Int)(p:Bool):numT n p=sgT n++(Lib.decDigits (n.natAbs / 1000)++dotS (if(partT (n.natAbs%1000) p).isEmpty then none else some (partT (n.natAbs%1000) p))):=by
 have h:=(Yi (r:=n.natAbs%1000) (by omega) p).2.2.2.1;unfold numT uf sgT;rw[h];cases (partT (n.natAbs%1000) p).isEmpty with
 |true=>rfl
 |false=>rfl
theorem q2_T(n:Int)(p:Bool)(x:Str):ae (numT n p++x)=past digB (dotS (if(partT (n.natAbs%1000) p).isEmpty then none else some (partT (n.natAbs%1000) p))++x):=by
 obtain⟨d,f,g⟩:=di (n.natAbs / 1000);obtain⟨c,r,e,a⟩:=Ru (n.natAbs / 1000);rw[Pj];generalize dotS _=t;unfold ae;have b:unsign ((sgT n++(Lib.decDigits (n.natAbs / 1000)++t))++x)=Lib.decDigits (n.natAbs / 1000)++(t++x):=by
  unfold sgT;split
  ·rw[Ia,Xc,Ia];rfl
  ·rw[Ya,Ia,e,Ta];unfold unsign Qo;rw[show atS (c::(r++(t++x))) 0=c from rfl,Da.2 (qd a).2.1,Da.2 (qd a).1];rfl
 rw[b,Uj _ _ d]
theorem Um{n:Int}{p:Bool}:(partT (n.natAbs%1000) p).all digB=true:=(Yi (r:=n.natAbs%1000) (by omega) p).1
theorem bi{n:Int}{p:Bool}(h:(partT (n.natAbs%1000) p).isEmpty=true)(x:Str):zo (numT n p++x)=(match expS (zx (past digB x)).1 with|some r=>(r,false)|none=>zx (past digB x)):=by rw[ZU,q2_T,h];rfl
theorem Ti{n:Int}{p:Bool}(h:(partT (n.natAbs%1000) p).isEmpty=false)(x:Str):zo (numT n p++x)=(match expS (past digB x)with|some r=>(r,false)|none=>(past digB x,false)):=by
 obtain⟨c,r,b⟩: ∃c r,partT (n.natAbs%1000) p=c::r:=by
  cases f:partT (n.natAbs%1000) p with
  |nil=>grind
  |cons c r=>grind
 have a:=Um (n:=n) (p:=p);rw[ZU,q2_T,h];have e:past digB (dotS (some (partT (n.natAbs%1000) p))++x)=46::(partT (n.natAbs%1000) p++x):=rfl;rw[show(if false=true then none else some (partT (n.natAbs%1000) p))=some (partT (n.natAbs%1000) p)from rfl,e];have g:zx (46::(partT (n.natAbs%1000) p++x))=(past digB x,false):=by
  have d:digB c=true:=by rw[b,Ic,Ba]at a;exact a.1
  unfold zx;rw[show atS (46::(partT (n.natAbs%1000) p++x)) 1=c by rw[b];rfl,d,show(atS (46::(partT (n.natAbs%1000) p++x)) 0==46&&true)=true from rfl,Ea rfl];rw[show(46::(partT (n.natAbs%1000) p++x)).drop 1=partT (n.natAbs%1000) p++x from rfl,Uj _ _ a]
 grind
theorem Dv(n:Int)(p:Bool)(x:Str):nbS (numT n p++x)=true:=by
 obtain⟨c,r,b,a⟩:=Ru (n.natAbs / 1000);rw[Pj,b];unfold nbS;have d:unsign ((sgT n++(c::r++dotS (if(partT (n.natAbs%1000) p).isEmpty then none else some (partT (n.natAbs%1000) p))))++x)=c::(r++dotS (if(partT (n.natAbs%1000) p).isEmpty then none else some (partT (n.natAbs%1000) p))++x):=by
  unfold sgT;split
  ·rfl
  ·unfold unsign Qo;show(if(c==43||c==45)then _ else _)=_;rw[Da.2 (qd a).2.1,Da.2 (qd a).1];rfl
 rw[d];unfold undot;rw[show atS (c::(r++dotS (if(partT (n.natAbs%1000) p).isEmpty then none else some (partT (n.natAbs%1000) p))++x)) 0=c from rfl,Da.2 (qd a).2.2.1,Fa (by decide)];exact a
theorem rq{n:Int}(c: -1000000000000<=n)(h2:n<=1000000000000){p:Bool}{x:Str}(f:(zo (numT n p++x)).1=x):(numP (numT n p++x)).val=n:=by
 have h:=ny (numT n p++x);rw[f]at h;have b:=Fw (Dv n p x);have d:=(Nr c h2 p).1;have a:=K7 c h2 p;generalize numP (numT n p++x)=N at h b ⊢;have g:N.txt=numT n p:=(List.append_left_inj x).1 h;rw[<-g]at a d;have e:=oG b (ib d (by decide));rw[a]at e
 grind
theorem Uk(n:Int)(p:Bool)(x:Str): ∃c r,numT n p++x=c::r/\(c==45||digB c)=true/\spB c=false/\(c==34||c==39)=false/\(c==35)=false/\c≠47:=by
 obtain⟨c,r,hc,hcd⟩:=Ru (n.natAbs / 1000);have key: ∀d:UInt8,(d==45||digB d)=true->spB d=false/\(d==34||d==39)=false/\(d==35)=false/\d≠47:=by
  intro d;have: ∀n:Nat,n<256->(UInt8.ofNat n==45||digB (UInt8.ofNat n))=true->spB (UInt8.ofNat n)=false/\(UInt8.ofNat n==34||UInt8.ofNat n==39)=false/\(UInt8.ofNat n==35)=false/\UInt8.ofNat n≠47:=by decide+kernel
  have:=this d.toNat (ma d)
  rwa [Jd]at this
 rw[Pj,hc];unfold sgT
 grind
theorem Si(n:Int)(p:Bool)(x:Str):zt (numT n p++x)=zk (numT n p++x):=by obtain⟨c,r,e,g,f,d,b,h⟩:=Uk n p x;have a:=Dv n p x;rw[e]at a ⊢;rw[Qk,f,Fa (by decide),d,Fa (by decide),b,Lc,Fa (by decide),a,Ea rfl]
inductive Qc:zb->Prop
 |cId (l:Str) (h0:l≠[]) (h:Zc l=true):Qc ⟨1,l,0,[],false⟩
 |cFn (l:Str) (h0:l≠[]) (h:Zc l=true):Qc ⟨2,l,0,[],false⟩
 |cAt (l:Str) (h0:l≠[]) (h:Zc l=true):Qc ⟨3,l,0,[],false⟩
 |cHash (l:Str) (f:Bool) (h0:l≠[]) (h:Zc l=true) (hb:f=true\/xh l=true):Qc ⟨4,l,0,[],f⟩
 |cStr (l:Str) (h:Zc l=true):Qc ⟨5,l,0,[],false⟩
 |cUrl (l:Str) (h:Zc l=true):Qc ⟨7,l,0,[],false⟩
 |cDel (c:UInt8) (h:xg c.toNat=true):Qc ⟨9,[c],0,[],false⟩
 |cNum (n:Int) (f:Bool) (h1: -1000000000000<=n) (h2:n<=1000000000000) (hf:f=true->Int.tmod n 1000=0):Qc ⟨10,[],n,[],f⟩
 |cPct (n:Int) (h1: -1000000000000<=n) (h2:n<=1000000000000):Qc ⟨11,[],n,[],false⟩
 |cDim (n:Int) (u:Str) (f:Bool) (h1: -1000000000000<=n) (h2:n<=1000000000000) (hf:f=true->Int.tmod n 1000=0) (h0:u≠[]) (h:Zc u=true):Qc ⟨12,[],n,u,f⟩
 |cMark (k:Int) (h1:13<=k) (h2:k<=24):Qc ⟨k,[],0,[],false⟩
theorem Uo{t:zb}(h:mf t=true):Qc t:=by
 obtain⟨k,l,n,u,f⟩:=t;unfold mf at h;simp only at h;by_cases h1:(k==1||k==2||k==3)=true
 ·rw[h1,Ha]at h;simp only[Ba,Me,Da,Sa]at h;obtain⟨a,b,rfl,rfl,rfl⟩:=h;simp only[Pb,Sa]at h1;rcases h1 with(rfl|rfl)|rfl
  ·exact .cId l a b
  ·exact .cFn l a b
  ·exact .cAt l a b
 ·rw[Bool.not_eq_true]at h1;rw[h1,Ja]at h;by_cases h4:(k==4)=true
  ·rw[h4,Ha]at h;simp only[Ba,Me,Da,Sa,Pb]at h;obtain⟨a,b,c,rfl,rfl⟩:=h;rw[Sa]at h4;subst h4;exact .cHash l f a b c
  ·rw[Bool.not_eq_true]at h4;rw[h4,Ja]at h;by_cases h5:(k==5||k==7)=true
   ·rw[h5,Ha]at h;simp only[Ba,Me,Sa]at h;obtain⟨b,rfl,rfl,rfl⟩:=h;simp only[Pb,Sa]at h5;rcases h5 with rfl|rfl
    ·exact .cStr l b
    ·exact .cUrl l b
   ·rw[Bool.not_eq_true]at h5;rw[h5,Ja]at h;by_cases h9:(k==9)=true
    ·rw[h9,Ha]at h;simp only[Ba,Me,Sa]at h;obtain⟨b,rfl,rfl,rfl⟩:=h;rw[Sa]at h9;subst h9;unfold delS at b;split at b
     ·exact .cDel _ b
     ·cases b
    ·rw[Bool.not_eq_true]at h9;rw[h9,Ja]at h;by_cases h10:(k==10||k==11||k==12)=true
     ·rw[h10,Ha]at h;unfold rngS at h;simp only[Ba,Jb,Pb,Me,Sa]at h;obtain⟨⟨a1,a2,a3⟩,a4,a5,a6,rfl⟩:=h;have hf:f=true->Int.tmod n 1000=0:=by
       intro e;rcases a3 with a3|a3
       ·grind
       ·exact a3
      simp only[Pb,Sa]at h10;rcases h10 with(rfl|rfl)|rfl
      ·have:u=[]:=by
        cases u with
        |nil=>rfl
        |cons c r=>grind
       subst this;exact .cNum n f a1 a2 hf
      ·have:u=[]:=by
        cases u with
        |nil=>rfl
        |cons c r=>grind
       subst this;have:f=false:=by
        rcases a6 with a6|a6
        ·grind
        ·exact a6
       subst this;exact .cPct n a1 a2
      ·have:u≠[]:=by rintro rfl;exact absurd a4 (by decide)
       exact .cDim n u f a1 a2 hf this a5
     ·rw[Bool.not_eq_true]at h10;rw[h10,Ja]at h;simp only[Ba,Me,Jb,Sa]at h;obtain⟨⟨a1,a2⟩,rfl,rfl,rfl,rfl⟩:=h;exact .cMark k a1 a2
def neu(x:Str):Prop:=x=[]\/ ∃y,x=47::y
theorem PQ{x:Str}(a:neu x)(c:UInt8)(r:Str):brS c (r++x)=brS c r:=by
 rcases a with rfl|⟨y,rfl⟩
 ·grind
 ·exact KH c r y
theorem Hw{x:Str}(a:neu x)(q:Str):nmS (q++x)=nmS q:=by
 rcases a with rfl|⟨y,rfl⟩
 ·grind
 ·exact Cr q y
theorem wy{x:Str}(a:neu x):zg x=([],x):=by
 rcases a with rfl|⟨y,rfl⟩
 ·exact Z9
 ·rw[zI,Fa (by decide),show escS (47::y)=false from rfl,Fa (by decide)]
theorem cK{p:UInt8->Bool}(h:p 47=false){x:Str}(a:neu x):past p x=x:=by
 rcases a with rfl|⟨y,rfl⟩
 ·rfl
 ·rw[past,h];rfl
theorem VQ{x:Str}(a:neu x):atS x 0=0\/atS x 0=47:=by
 rcases a with rfl|⟨y,rfl⟩
 ·exact .inl rfl
 ·exact .inr rfl
theorem HY(c:UInt8)(r:Str):yh (c::r)=((c==101||c==69)&&numS r&& !(List.isPrefixOf [45,45] r)):=rfl
theorem bW(b:UInt8)(r:Str):numS (b::r)=bif b==45 then !(r==[])&&digN (r.headD 0).toNat else digN b.toNat:=rfl
theorem OA{c:UInt8}{r:Str}(h:yh (c::r)=true):c=101\/c=69:=by
 unfold yh at h
 grind
theorem GK{d:UInt8}{t:Str}(h:(d==10)=false):escS (92::d::t)=true:=by unfold escS;rw[show atS (92::d::t) 1=d from rfl,h];rfl
theorem Pn(c:UInt8)(r:Str):Qb (c::r)=bif yh (c::r)then escC c++encW false 0 r else Z0 (c::r):=rfl
theorem pu{w:Str}(f:w≠[])(h:Zc w=true)(x:Str):zg (Qb w++x)=(w++(zg x).1,(zg x).2):=by
 cases w with
 |nil=>grind
 |cons c r=>
  obtain⟨a,e⟩:=qa h;rw[Pn];cases b:yh (c::r)with
  |true=>
   have d:c.toNat<128:=by rcases OA b with rfl|rfl<;>decide
   rw[Ha,Ia,XK a d,XM x 0 e];rfl
  |false=>rw[Ja];exact Ql x h
theorem Yk{w:Str}(i:w≠[])(h:Zc w=true):nmS (Qb w)=true:=by
 cases w with
 |nil=>grind
 |cons c r=>
  obtain⟨a,j⟩:=qa h;rw[Pn];cases e:yh (c::r)with
  |true=>
   have f:c.toNat<128:=by rcases OA e with rfl|rfl<;>decide
   obtain⟨d,t,b,g,_⟩:=Ll a f (encW false 0 r);rw[Ha,b];exact Yv rfl (GK g)
  |false=>rw[Ja];exact ai (by simp)
theorem Ai{q:Str}(h:nmS q=true):q≠[]:=by rintro rfl;exact absurd h (by decide)
theorem Tt{q:Str}(h:nmS q=true)(x:Str):past digB (q++x)=q++x/\zx (q++x)=(q++x,true):=by
 obtain⟨_,_,_,_,_,_,_,_,b,a,_⟩:=Oo (Dj h);cases q with
 |nil=>exact absurd rfl (Ai h)
 |cons c r=> refine⟨by rw[Ta,past,show digB c=false from a];rfl,?_⟩;unfold zx;rw[show atS ((c::r)++x) 0=c from rfl,show(c==46)=false from b];rfl
theorem kK{w:Str}(h0:w≠[])(h:Zc w=true)(x:Str):expS (Qb w++x)=none\/ ∃e s,(e=101\/e=69)/\(s=[]\/s=[45])/\w=e::s/\Qb w=e::s:=by
 cases w with
 |nil=>grind
 |cons c r=>
  obtain⟨h1,h2⟩:=qa h;have he92: ∀t:Str,expS (92::t)=none:=fun t=>rfl;cases he:yh (c::r)with
  |true=>
   left;have hc:c.toNat<128:=by rcases OA he with rfl|rfl<;>decide
   obtain⟨d,t,e1,e2,_⟩:=Ll h1 hc (encW false 0 r++x);have:Qb (c::r)++x=92::d::t:=by rw[Pn,he,Ha,Ia,e1]
   grind
  |false=>
   have hu:Qb (c::r)=Z0 (c::r):=by rw[Pn,he,Ja]
   rw[hu];have hn:Z0 (c::r)=pcW ((c::r:Str)==[45]) (Qv (c::r)) c++encW ((c::r:Str)==[45]) (Qv (c::r) - 1) r:=rfl;obtain⟨d,t,e,hd⟩:=Wy (dash:=(c::r:Str)==[45]) (k:=Qv (c::r)) (by unfold Qv;split<;>omega) c (encW ((c::r:Str)==[45]) (Qv (c::r) - 1) r);rw[hn,e];rcases hd with⟨rfl,h3⟩|⟨rfl,h3,h4,h5,h6⟩
   ·grind
   ·by_cases hee:d=101\/d=69
    ·have hf:Qv (d::r)=1:=by rcases hee with rfl|rfl<;>rfl
     have hdash:((d::r:Str)==[45])=false:=h3;rw[hdash,hf]at h6;have h6':t=encW false 0 r:=h6;have hee':(d==101||d==69)=true:=by rcases hee with rfl|rfl<;>rfl
     cases r with
     |nil=>
      right;rw[encW]at h6'
      grind
     |cons d2 r2=>
      obtain⟨g1,g2⟩:=qa h2;have hnum:numS (d2::r2)=false:=by
       cases hq:numS (d2::r2)with
       |false=>rfl
       |true=>
        exfalso;rw[HY,hee',hq,Nb,Nb]at he;have hp:List.isPrefixOf [45,45] (d2::r2)=true:=by
         cases hh:List.isPrefixOf [45,45] (d2::r2)with
         |true=>rfl
         |false=>grind
        obtain⟨z,hz⟩:=Uc.1 hp;rw[<-hz]at hq;exact absurd hq (by show numS (45::45::z)≠true;unfold numS;simp[digN])
      have hgoal: ∀q:Str,digB (atS (unsign q) 0)=false->expS (d::q)=none:=by intro q hq;rw[Q6];show((d==101||d==69)&&digB (atS (unsign q) 0))=false;rw[hq,Df]
      have hpc:encW false 0 (d2::r2)=pcW false 0 d2++encW false 0 r2:=rfl;by_cases h45:d2=45
      ·subst h45;have hp1:pcW false 0 45=[45]:=rfl;cases r2 with
       |nil=>
        right;rw[hpc,hp1,encW]at h6'
        grind
       |cons d3 r3=>
        left;obtain⟨k1,k2⟩:=qa g2;have hdg:digB d3=false:=by
         have:digN d3.toNat=false:=by have:=hnum;unfold numS at this;simpa using this
         exact this
        rw[Ta];refine hgoal _ ?_;rw[h6',hpc,hp1];show digB (atS (encW false 0 (d3::r3)++x) 0)=false;rw[show encW false 0 (d3::r3)=pcW false 0 d3++encW false 0 r3 from rfl];unfold pcW;cases hl:letB d3 with
        |true=>exact hdg
        |false=>
         rw[Lc,Lc,Ja];have hc:d3.toNat<128:=by
          by_cases hc:d3.toNat<128
          ·exact hc
          ·rw[(Ux hc).1]at hl;cases hl
         obtain⟨d4,t4,e4,_,_⟩:=Ll k1 hc (encW false 0 r3++x);rw[Ia,e4];rfl
      ·left;have hdg:digB d2=false:=by
        have:digN d2.toNat=false:=by have:=hnum;rw[bW,Da.2 h45,Ja]at this;exact this
        exact this
       rw[Ta];refine hgoal _ ?_;rw[h6',hpc];unfold pcW;cases hl:letB d2 with
       |true=>
        have hs:Qo d2=false:=by unfold Qo;rw[Da.2 h45,jf,Da];rintro rfl;exact absurd hl (by decide)
        show digB (atS (if Qo d2 then _ else d2::_) 0)=false;rw[hs,Fa (by decide)];exact hdg
       |false=>
        rw[Lc,Lc,Ja];have hc:d2.toNat<128:=by
         by_cases hc:d2.toNat<128
         ·exact hc
         ·rw[(Ux hc).1]at hl;cases hl
        obtain⟨d4,t4,e4,_,_⟩:=Ll g1 hc (encW false 0 r2++x);rw[Ia,e4];rfl
    ·left;rw[Q6];have:(d==101||d==69)=false:=by rw[De,Da,Da];exact not_or.1 hee
     rw[Ta,show atS (d::(t++x)) 0=d from rfl,this,Lc]
theorem VG{w:Str}(d:w≠[])(h:Zc w=true){x:Str}(a:neu x):expS (Qb w++x)=none:=by
 rcases kK d h x with c|⟨e,s,i,b,_,f⟩
 ·exact c
 ·rw[f,Q6];have g:digB (atS (unsign (s++x)) 0)=false:=by
   rcases b with rfl|rfl
   ·rcases a with rfl|⟨y,rfl⟩<;>rfl
   ·rcases a with rfl|⟨y,rfl⟩<;>rfl
  grind
theorem QU{n:Int}{f:Bool}(a:f=true->Int.tmod n 1000=0):(partT (n.natAbs%1000) (!f)).isEmpty=f:=by
 rw[GJ,Bool.not_not];cases f with
 |false=>grind
 |true=>
  grind
theorem Ws{n:Int}{p:Bool}{z:Str}(b:past digB z=z)(h2:zx z=(z,true))(a:expS z=none):zo (numT n p++z)=(z,(partT (n.natAbs%1000) p).isEmpty):=by
 cases c:(partT (n.natAbs%1000) p).isEmpty with
 |true=>rw[bi c,b,h2];simp only[a]
 |false=>rw[Ti c,b];simp only[a]
theorem bR{x:Str}(a:neu x):past digB x=x/\zx x=(x,true)/\expS x=none:=by
 rcases a with rfl|⟨y,rfl⟩
 ·exact⟨rfl,rfl,rfl⟩
 ·exact⟨rfl,rfl,rfl⟩
theorem pX{q:Str}(h:[45,45,62].isPrefixOf q=true): ∃t,(zg q).2=62::t:=by obtain⟨t,rfl⟩:=Uc.1 h;refine⟨t,?_⟩;rw[show [45,45,62]++t=45::45::62::t from rfl,zI,Ea (by decide),zI,Ea (by decide),zI,Fa (by decide),Fa (by unfold escS;rw[show atS (62::t) 0=62 from rfl];simp)]
theorem ax{c:UInt8}{r:Str}(h:nmS (c::r)=true)(u: ∀t,(zg (c::r)).2≠62::t):brS c r=7:=by
 obtain⟨i,b,g,d,f,p,a,v,s,l,k⟩:=Oo (Dj h);have o:[45,45,62].isPrefixOf (c::r)=false:=by
  cases j:[45,45,62].isPrefixOf (c::r)with
  |false=>rfl
  |true=>obtain⟨t,e⟩:=pX j;grind
 have n:atS (c::r) 0=c:=rfl;rw[n]at i b g d f a;unfold brS;rw[i,Fa (by decide),b,g,Fa (by decide),d,Lc,Fa (by decide),IB h,Fa (by decide),o,Fa (by decide),kR (q:=c::r) (m:=[33,45,45]) (show(60:UInt8)≠0 by decide) a,Fa (by decide),f,Lc,Fa (by decide),h,Ea rfl]
theorem jh{q z:Str}(h:nmS q=true)(i:atS z 0≠10):nmS (q++z)=true:=by
 have b:(atS z 0==10)=false:=Da.2 i
 match q with
 |[]=>exact absurd h (by decide)
 |[c]=>
  unfold nmS at h ⊢;have f:atS ([c]++z) 0=c:=rfl;rw[show atS [c] 0=c from rfl]at h;rw[f];cases a:c==45 with
  |true=>rw[a,Ea rfl]at h;exact absurd (show(fstB 0||(0:UInt8)==45||escS [])=true from h) (by decide)
  |false=> rw[a,Fa (by decide)]at h;rw[Fa (by decide)];unfold escS at h ⊢;rw[show atS [c] 0=c from rfl,show atS [c] 1=0 from rfl]at h;rw[f,show atS ([c]++z) 1=atS z 0 from rfl,b];exact h
 |c::d::t=>
  unfold nmS at h ⊢;have f:atS ((c::d::t)++z) 0=c:=rfl;have g:atS ((c::d::t)++z) 1=d:=rfl;have j:((c::d::t)++z).drop 1=(d::t)++z:=rfl;rw[show atS (c::d::t) 0=c from rfl,show atS (c::d::t) 1=d from rfl,show(c::d::t:Str).drop 1=d::t from rfl]at h;rw[f,g,j];cases a:c==45 with
  |true=>
   rw[a,Ea rfl]at h;rw[Ea rfl];cases t with
   |nil=> unfold escS at h ⊢;rw[show atS [d] 0=d from rfl,show atS [d] 1=0 from rfl]at h;rw[show atS ([d]++z) 0=d from rfl,show atS ([d]++z) 1=atS z 0 from rfl,b];exact h
   |cons e t=>exact h
  |false=> rw[a,Fa (by decide)]at h;rw[Fa (by decide)];exact h
theorem dE(x:Str):zg (40::x)=([],40::x):=by rw[zI,Fa (by decide),Fa (by unfold escS;rw[show atS (40::x) 0=40 from rfl];simp)]
theorem xI{l:Str}(h:Zc l=true)(x:Str):zg (Z0 l++40::x)=(l,40::x):=by rw[Ql _ h,dE,Xa]
theorem Za{q:Str}(h:q≠[]): ∃c r,q=c::r:=by
 cases q with
 |nil=>grind
 |cons c r=>grind
def Gg(f:Bool)(l:Str):Str:=bif f then Z0 l else encW false 0 l
theorem yF{f:Bool}{l:Str}(h:Zc l=true)(x:Str):zg (Gg f l++x)=(l++(zg x).1,(zg x).2):=by
 cases f with
 |true=>exact Ql x h
 |false=>exact XM x 0 h
theorem oL{f:Bool}{l:Str}(h0:l≠[])(h:Zc l=true)(hb:f=true\/xh l=true):(letB (atS (Gg f l) 0)||escS (Gg f l))=true/\(f=true->nmS (Gg f l)=true)/\(f=false->nmS (Gg f l)=false):=by
 cases f with
 |true=>
  have hn:=ai h0;obtain⟨c,r,e⟩:=Za (Ai hn);refine⟨?_,fun _=>hn,fun e=>by cases e⟩;show(letB (atS (Z0 l) 0)||escS (Z0 l))=true;rw[e]at hn ⊢;rcases iK hn with h1|h1
  ·rw[show letB (atS (c::r) 0)=true from h1];rfl
  ·grind
 |false=>
  have hb':xh l=true:=by rcases hb with hb|hb;cases hb;exact hb
  cases l with
  |nil=>grind
  |cons c r=>
   have hw:Gg false (c::r)=pcW false 0 c++encW false 0 r:=rfl;have hb2:(digN c.toNat||(c==45&&(r==[]||digN (r.headD 0).toNat)))=true:=hb';by_cases h45:c=45
   ·subst h45;rw[hw,show pcW false 0 45=[45]from rfl];refine⟨rfl,fun e=>by(cases e),fun _=> ?_⟩;cases r with
    |nil=>rfl
    |cons d t=>
     have hd:digB d=true:=hb2;have hp:pcW false 0 d=[d]:=by
      unfold pcW;have:letB d=true:=by unfold letB;rw[hd,Tf];rfl
      rw[this];rfl
     rw[show encW false 0 (d::t)=pcW false 0 d++encW false 0 t from rfl,hp];have hk: ∀n:Nat,n<256->digB (UInt8.ofNat n)=true->fstB (UInt8.ofNat n)=false/\(UInt8.ofNat n==45)=false/\(UInt8.ofNat n==92)=false:=by decide+kernel
     have:=hk d.toNat (ma d);rw[Jd]at this;obtain⟨k1,k2,k3⟩:=this hd;show(fstB d||d==45||escS (d::(encW false 0 t)))=false;unfold escS;rw[k1,k2,show atS (d::encW false 0 t) 0=d from rfl,k3];rfl
   ·have hd:digB c=true:=by
     have:digN c.toNat=true:=by rw[Da.2 h45,Lc,jf]at hb2;exact hb2
     exact this
    have hl:letB c=true:=by unfold letB;rw[hd,Tf];rfl
    have hp:pcW false 0 c=[c]:=by unfold pcW;rw[hl];rfl
    rw[hw,hp];refine⟨by rw[show letB (atS ([c]++encW false 0 r) 0)=letB c from rfl,hl];rfl,fun e=>by(cases e),fun _=> ?_⟩;have hk: ∀n:Nat,n<256->digB (UInt8.ofNat n)=true->fstB (UInt8.ofNat n)=false/\(UInt8.ofNat n==45)=false/\(UInt8.ofNat n==92)=false:=by decide+kernel
    have:=hk c.toNat (ma c);rw[Jd]at this;obtain⟨k1,k2,k3⟩:=this hd;unfold nmS escS;rw[show atS ([c]++encW false 0 r) 0=c from rfl,k2,Fa (by decide),k1,k3];rfl
theorem GQ(c:UInt8)(h:xg c.toNat=true)(h2:c≠92):brS c []=8:=by
 have: ∀n:Nat,n<256->xg (UInt8.ofNat n).toNat=true->UInt8.ofNat n≠92->brS (UInt8.ofNat n) []=8:=by decide+kernel
 have:=this c.toNat (ma c);simp_all
theorem XI(x:Str):past digB (37::x)=37::x/\zx (37::x)=(37::x,true)/\expS (37::x)=none:=⟨rfl,rfl,rfl⟩
theorem JL{n:Int}{u:Str}{p:Bool}(x:Str):(numT n p++Qb u)++x=numT n p++(Qb u++x):=Ia ..
theorem YE{c:UInt8}{r x:Str}(a:neu x):zt (c::(r++x))=nxB (brS c r) c (r++x):=by rw[Zh,PQ a]
theorem JE{n:Int}(b: -1000000000000<=n)(h2:n<=1000000000000)(x:Str):zt ((numT n false++[37])++x)=(⟨11,[],n,[],false⟩,x):=by rw[Ia,Xc];obtain⟨c,e,d⟩:=XI x;have a:=Ws (n:=n) (p:=false) c e d;have f:=rq b h2 (p:=false) (x:=37::x) (by rw[a]);rw[Si];unfold zk;rw[a,f,Fa (by unfold nmS escS;rw[show atS (37::x) 0=37 from rfl];simp[fstB,alB]),Ea (by rfl)];rfl
theorem gD{l:Str}(d:l≠[])(h:Zc l=true)(hu:(lowS l==[117,114,108])=false)(x:Str):zt ((Z0 l++[40])++x)=(⟨2,l,0,[],false⟩,x):=by rw[Ia,Xc];have b:=jh (z:=40::x) (ai d) (by show(40:UInt8)≠10;decide);have a:=xI h x;obtain⟨c,r,e⟩:=Za (Ai b);rw[e]at b a ⊢;rw[Zh,ax b (by grind),Mh];unfold ZO;rw[a];simp only;rw[Ea (by rfl),hu,Lc,Fa (by decide)];rfl
theorem Gu{l:Str}(h:Zc l=true)(x:Str):zt ((34::(encB quoB l++[34]))++x)=(⟨5,l,0,[],false⟩,x):=by rw[Ta,Ia,Xc,Zh,show brS 34 (encB quoB l++34::x)=1 from rfl,Yn,WK x l h];rfl
theorem Gy{l:Str}(h:Zc l=true)(x:Str):zt (([117,114,108,40]++(encB urB l++[41]))++x)=(⟨7,l,0,[],false⟩,x):=by
 have e:([117,114,108,40]++(encB urB l++[41]))++x=117::114::108::40::(encB urB l++41::x):=by simp
 obtain⟨c,b⟩:=yT x l h;have a:zg (117::114::108::40::(encB urB l++41::x))=([117,114,108],40::(encB urB l++41::x)):=by rw[zI,Ea (by decide),zI,Ea (by decide),zI,Ea (by decide),dE]
 rw[e,Zh,ax (by rfl) (by grind),Mh];unfold ZO;rw[a];simp only;rw[Ea (by rfl),Ot,show(40::(encB urB l++41::x)).drop 1=encB urB l++41::x from rfl,c,b,Ea (by decide),VK x l h];rfl
theorem mF{k:Int}(b:13<=k)(h2:k<=24)(x:Str):zt (Ol k++x)=(⟨k,[],0,[],false⟩,if k=13 then past spB x else x):=by
 have a:k=13\/k=14\/k=15\/k=16\/k=17\/k=18\/k=19\/k=20\/k=21\/k=22\/k=23\/k=24:=by omega
 rcases a with rfl|rfl|rfl|rfl|rfl|rfl|rfl|rfl|rfl|rfl|rfl|rfl<;>rfl
theorem sj(l:Str):txS ⟨1,l,0,[],false⟩=Z0 l:=by rw[txS];rfl
theorem Li(l:Str):txS ⟨2,l,0,[],false⟩=Z0 l++[40]:=by rw[txS];rfl
theorem uj(l:Str):txS ⟨3,l,0,[],false⟩=64::Z0 l:=by rw[txS];rfl
theorem ek(l:Str)(f:Bool):txS ⟨4,l,0,[],f⟩=35::Gg f l:=by rw[txS];rfl
theorem Oi(l:Str):txS ⟨5,l,0,[],false⟩=34::(encB quoB l++[34]):=by rw[txS];rfl
theorem Ij(l:Str):txS ⟨7,l,0,[],false⟩=[117,114,108,40]++(encB urB l++[41]):=by rw[txS];rfl
theorem Ci(c:UInt8):txS ⟨9,[c],0,[],false⟩=[c]:=by rw[txS];rfl
theorem Bi(n:Int)(f:Bool):txS ⟨10,[],n,[],f⟩=numT n (!f):=by rw[txS];rfl
theorem Pi(n:Int):txS ⟨11,[],n,[],false⟩=numT n false++[37]:=by rw[txS];rfl
theorem Ri(n:Int)(u:Str)(f:Bool):txS ⟨12,[],n,u,f⟩=numT n (!f)++Qb u:=by rw[txS];rfl
theorem ak{k:Int}(b:13<=k)(h2:k<=24):txS ⟨k,[],0,[],false⟩=Ol k:=by
 have a:k=13\/k=14\/k=15\/k=16\/k=17\/k=18\/k=19\/k=20\/k=21\/k=22\/k=23\/k=24:=by omega
 rcases a with rfl|rfl|rfl|rfl|rfl|rfl|rfl|rfl|rfl|rfl|rfl|rfl<;>rfl
theorem JJ{t:zb}(h:Qc t)(hb: ¬(t.kind=9/\t.text=[92]))(hu:Ag t=false){x:Str}(hx:neu x):zt (txS t++x)=(t,x):=by
 have ha:=VQ hx;have hn0:nmS x=false:=by have:=Hw hx [];rw[Ya]at this;rw[this];rfl
 cases h with
 |cId l h0 h=>
  have hn:=ai h0;have hnd:=Ql x h;rw[wy hx,Xa]at hnd;obtain⟨c,r,e⟩:=Za (Ai hn);rw[sj];have hr:=kV h;rw[e]at hn hr hnd ⊢;rw[Ta,YE hx,ax hn (by grind),Mh];unfold ZO;rw[show c::(r++x)=(c::r)++x from rfl,hnd]
  grind
 |cFn l h0 h=>rw[Li];exact gD h0 h (by unfold Ag at hu;exact hu) x
 |cAt l h0 h=>
  have hnd:=Ql x h;rw[wy hx,Xa]at hnd;rw[uj,Ta];have hb6:brS 64 (Z0 l++x)=6:=by unfold brS;rw[Hw hx,ai h0];rfl
  rw[Zh,hb6,Xn,hnd]
 |cHash l f h0 h hbb=>
  obtain⟨g1,g2,g3⟩:=oL h0 h hbb;have hnd:=yF (f:=f) h x;rw[wy hx,Xa]at hnd;rw[ek,Ta];have hb2:brS 35 (Gg f l)=2:=by unfold brS;rw[g1];rfl
  have hf:nmS (Gg f l)=f:=by
   cases f with
   |true=>exact g2 rfl
   |false=>exact g3 rfl
  rw[YE hx,hb2,Jk,hnd,Hw hx,hf]
 |cStr l h=>rw[Oi];exact Gu h x
 |cUrl l h=>rw[Ij];exact Gy h x
 |cDel c h=>
  have h92:c≠92:=by rintro rfl;exact hb ⟨rfl,rfl⟩
  rw[Ci,Ta,YE hx,GQ c h h92,Av,Ya]
 |cNum n f h1 h2 hf=>
  obtain⟨e1,e2,e3⟩:=bR hx;have he:=Ws (n:=n) (p:= !f) e1 e2 e3;rw[QU hf]at he;rw[Bi,Si];unfold zk;rw[rq h1 h2 (by rw[he]),he]
  grind
 |cPct n h1 h2=>rw[Pi];exact JE h1 h2 x
 |cDim n u f h1 h2 hf h0 h=> have hnm:=Yk h0 h;obtain⟨e1,e2⟩:=Tt hnm x;have he:=Ws (n:=n) (p:= !f) e1 e2 (VG h0 h hx);rw[QU hf]at he;rw[Ri,JL,Si];unfold zk;rw[rq h1 h2 (by rw[he]),he];simp only;rw[Hw hx,hnm,Ea rfl,pu h0 h,wy hx,Xa]
 |cMark k h1 h2=> rw[ak h1 h2,mF h1 h2,cK (by decide) hx,ite_self]
def XD(t:zb)(x r:Str):Prop:=zo (numT t.num (!t.flag)++x)=(r,t.flag)/\nmS r=false/\(atS r 0==37)=false
def mJ(x r:Str):Prop:= ∃s,(s=[]\/s=[45])/\digB (atS (unsign (s++x)) 0)=true/\nmS (past digB (unsign (s++x)))=true/\r=(zg (past digB (unsign (s++x)))).2
def EH(t:zb)(x r:Str):Prop:=r=x\/(t.kind=13/\r=past spB x)\/(t.kind=10/\XD t x r)\/(t.kind=12/\mJ x r)
theorem Aj{w r:Str}(h:expS w=some r):(atS w 0=101\/atS w 0=69)/\digB (atS (unsign (w.drop 1)) 0)=true/\r=past digB (unsign (w.drop 1)):=by
 unfold expS at h
 grind
theorem Ty{l a:Str}(h:l++a=l):a=[]:=by simp_all
theorem EE{a b:zb}(h:a=b):a.text=b.text:=by rw[h]
theorem AL{t:zb}(h:Qc t)(hu:Ag t=false){x:Str}(ht:(zt (txS t++x)).1=t):EH t x (zt (txS t++x)).2:=by
 cases h with
 |cId l h0 h=>
  left;have hn:=ai h0;have hnd:=Ql x h;obtain⟨c,r,e⟩:=Za (Ai hn);rw[sj]at ht ⊢;rw[e,Ta]at ht ⊢;have hbr:=Qu c (r++x);rw[ht]at hbr;have hbr':brS c (r++x)=7:=hbr.symm;rw[Zh,hbr',Mh]at ht ⊢;rw[show c::(r++x)=Z0 l++x by rw[e];rfl]at ht ⊢;unfold ZO at ht ⊢;rw[hnd]at ht ⊢;simp only at ht ⊢;split at ht
  ·rename_i h40;exfalso;split at ht
   ·have:=congrArg zb.kind ht;rcases Hy (urlS (past spB ((zg x).2.drop 1))).1 with hk|hk<;>rw[hk]at this<;>cases this
   grind
  ·rename_i h40;rw[Fa h40];have:=EE ht;exact uy (Ty this)
 |cFn l h0 h=> left;rw[Li,gD h0 h (by unfold Ag at hu;exact hu)]
 |cAt l h0 h=> left;rw[uj,Ta]at ht ⊢;have hbr:=Qu 64 (Z0 l++x);rw[ht]at hbr;have hbr':brS 64 (Z0 l++x)=6:=hbr.symm;rw[Zh,hbr',Xn,Ql x h]at ht ⊢;exact uy (Ty (EE ht))
 |cHash l f h0 h hbb=> left;rw[ek,Ta]at ht ⊢;have hbr:=Qu 35 (Gg f l++x);rw[ht]at hbr;have hbr':brS 35 (Gg f l++x)=2:=hbr.symm;rw[Zh,hbr',Jk,yF h x]at ht ⊢;exact uy (Ty (EE ht))
 |cStr l h=>left;rw[Oi,Gu h]
 |cUrl l h=>left;rw[Ij,Gy h]
 |cDel c h=> left;rw[Ci,Ta]at ht ⊢;have hbr:=Qu c ([]++x);rw[ht]at hbr;have hbr':brS c ([]++x)=8:=hbr.symm;rw[Zh,hbr',Av,Ya]
 |cNum n f h1 h2 hf=>
  right;right;left;refine⟨rfl,?_⟩;rw[Bi,Si]at ht ⊢;unfold XD;show zo (numT n (!f)++x)=_/\_;unfold zk at ht ⊢
  grind
 |cPct n h1 h2=>left;rw[Pi,JE h1 h2]
 |cDim n u f h1 h2 hf h0 h=>
  have hnm:=Yk h0 h;obtain⟨e1,e2⟩:=Tt hnm x;rw[Ri,JL,Si]at ht ⊢;have plain:expS (Qb u++x)=none->(zk (numT n (!f)++(Qb u++x))).2=x:=by
   intro hexp;have he:=Ws (n:=n) (p:= !f) e1 e2 hexp;unfold zk at ht ⊢;rw[he]at ht ⊢;simp only at ht ⊢;split at ht
   ·rename_i hn;rw[Ea hn];rw[pu h0 h]at ht ⊢;have:(u++(zg x).1)=u:=congrArg zb.unit ht;exact uy (Ty this)
   ·grind
  rcases kK h0 h x with hx|⟨e,s,he,hs,_,hu'⟩
  ·left;exact plain hx
  ·cases hexp:expS (Qb u++x)with
   |none=>left;exact plain hexp
   |some z=>
    right;right;right;refine⟨rfl,s,hs,?_⟩;obtain⟨_,hd,hz⟩:=Aj hexp;have hdrop:(Qb u++x).drop 1=s++x:=by rw[hu'];rfl
    rw[hdrop]at hd hz;have hend:zo (numT n (!f)++(Qb u++x))=(z,false):=by
     cases hp:(partT (n.natAbs%1000) (!f)).isEmpty with
     |true=>rw[bi hp,e1,e2];simp only[hexp]
     |false=>rw[Ti hp,e1];simp only[hexp]
    unfold zk at ht ⊢
    grind
 |cMark k h1 h2=>
  rw[ak h1 h2,mF h1 h2];by_cases hk:k=13
  ·right;grind
  ·left
   grind
abbrev tkSp:zb:=⟨13,[],0,[],false⟩
inductive PcT:Str->List zb->Prop
 |one (t:zb) (h:Qc t) (hb: ¬(t.kind=9/\t.text=[92])) (hu:Ag t=false):PcT (txS t) [t]
 |back:PcT [92,10] [⟨9,[92],0,[],false⟩,tkSp]
 |url (l m:Str) (s:Bool) (h:Zc l=true) (hl:lowS l=[117,114,108]) (hm:Zc m=true):
   PcT (Z0 l++40::((if s then [32]else [])++34::(encB quoB m++[34]))) (⟨2,l,0,[],false⟩::((if s then [tkSp]else [])++[⟨5,m,0,[],false⟩]))
theorem sJ{l:Str}(h:lowS l=[117,114,108]): ∃a r,l=a::r/\(a=117\/a=85):=by
 cases l with
 |nil=>cases h
 |cons a r=>
  have h1:Di a=117:=by unfold lowS at h;rw[jc]at h;injection h
  have: ∀n:Nat,n<256->Di (UInt8.ofNat n)=117->UInt8.ofNat n=117\/UInt8.ofNat n=85:=by decide+kernel
  have:=this a.toNat (ma a);simp_all
theorem bn{l:Str}(a:l≠[])(z:Str):nmS (Z0 l++40::z)=true:=jh (ai a) (by show(40:UInt8)≠10;decide)
theorem uk{k:Int}(a:13<=k)(h2:k<=24):k=13\/k=14\/k=15\/k=16\/k=17\/k=18\/k=19\/k=20\/k=21\/k=22\/k=23\/k=24:=by omega
theorem Iu{s:Str}{P:List zb}(h:PcT s P):nmS s=true\/(∃n p U t,P=[t]/\s=numT n p++U/\t.num=n/\(U=[]/\t.kind=10\/U=[37]\/ ∃u,u≠[]/\Zc u=true/\U=Qb u))\/
  (∃c r,s=c::r/\(c=64\/c=35\/c=34)/\nbS s=false)\/(∃c,s=[c]/\xg c.toNat=true)\/(∃k,13<=k/\k<=24/\s=Ol k)\/s=[92,10]:=by
 cases h with
 |one t h q v=>
  cases h with
  |cId l b h=>left;rw[sj];exact ai b
  |cFn l b h=>left;rw[Li];exact bn b []
  |cAt l b h=>right;right;left;rw[uj];exact⟨64,_,rfl, .inl rfl,rfl⟩
  |cHash l f b h j=>right;right;left;rw[ek];exact⟨35,_,rfl, .inr (.inl rfl),rfl⟩
  |cStr l h=>right;right;left;rw[Oi];exact⟨34,_,rfl, .inr (.inr rfl),rfl⟩
  |cUrl l h=>left;rw[Ij];rfl
  |cDel c h=>right;right;right;left;rw[Ci];grind
  |cNum n f d e g=>right;left;exact⟨n, !f,[],_,rfl,by rw[Bi,Xa],rfl, .inl ⟨rfl,rfl⟩⟩
  |cPct n d e=>right;left;exact⟨n,false,[37],_,rfl,Pi n,rfl, .inr (.inl rfl)⟩
  |cDim n u f d e g b h=>right;left;exact⟨n, !f,Qb u,_,rfl,Ri n u f,rfl, .inr (.inr ⟨u,b,h,rfl⟩)⟩
  |cMark k d e=>right;right;right;right;left;exact⟨k,d,e,ak d e⟩
 |back=>grind
 |url l m s h i o=> left;obtain⟨a,r,rfl,_⟩:=sJ i;exact bn (by simp) _
theorem fF(c:UInt8)(h:xg c.toNat=true):spB c=false/\nbS [c]=false/\c≠101/\c≠69:=by
 have: ∀n:Nat,n<256->xg (UInt8.ofNat n).toNat=true->spB (UInt8.ofNat n)=false/\nbS [UInt8.ofNat n]=false/\UInt8.ofNat n≠101/\UInt8.ofNat n≠69:=by decide+kernel
 have:=this c.toNat (ma c);simp_all
theorem iT{s:Str}(h:digB (atS (unsign s) 0)=true):nbS s=true:=by
 unfold nbS undot;have:(atS (unsign s) 0==46)=false:=Da.2 (qd h).2.2.1
 grind
theorem Hr{s:Str}{P:List zb}(h:PcT s P)(d:digB (atS (unsign s) 0)=true): ∃n p U t,P=[t]/\s=numT n p++U/\t.num=n/\(U=[]/\t.kind=10\/U=[37]\/ ∃u,u≠[]/\Zc u=true/\U=Qb u):=by
 have a:=iT d;rcases Iu h with h|h|⟨c,r,e,_,h⟩|⟨c,rfl,f⟩|⟨k,b,g,rfl⟩|rfl
 ·rw[IB h]at a;cases a
 ·exact h
 ·grind
 ·rw[(fF c f).2.1]at a;cases a
 ·rcases uk b g with rfl|rfl|rfl|rfl|rfl|rfl|rfl|rfl|rfl|rfl|rfl|rfl<;>cases a
 ·cases a
theorem sO{s:Str}{P:List zb}(h:PcT s P)(a:spB (atS s 0)=true):s=[32]:=by
 rcases Iu h with h|⟨n,p,U,t,_,rfl,_⟩|⟨c,r,rfl,g,_⟩|⟨c,rfl,f⟩|⟨k,d,b,rfl⟩|rfl
 ·rw[(Oo (Dj h)).1]at a;cases a
 ·obtain⟨c,r,e,_,b,_⟩:=Uk n p U;rw[e]at a;rw[show atS (c::r) 0=c from rfl,b]at a;cases a
 ·rcases g with rfl|rfl|rfl<;>cases a
 ·rw[show atS [c] 0=c from rfl,(fF c f).1]at a;cases a
 ·rcases uk d b with rfl|rfl|rfl|rfl|rfl|rfl|rfl|rfl|rfl|rfl|rfl|rfl<;>first|rfl|cases a
 ·cases a
theorem Ht{s:Str}{P:List zb}(h:PcT s P){b:UInt8}(f:b=47\/b=42)(d:atS s 0=b):s=[b]:=by
 rcases Iu h with h|⟨n,p,U,t,_,rfl,_⟩|⟨c,r,rfl,g,_⟩|⟨c,rfl,j⟩|⟨k,a,i,rfl⟩|rfl
 ·have a:=Dj h;rw[d]at a;rcases f with rfl|rfl<;>cases a
 ·obtain⟨c,r,e,a,_⟩:=Uk n p U;rw[e]at d;rw[show c=b from d]at a;rcases f with rfl|rfl<;>cases a
 ·rw[show c=b from d]at g
  grind
 ·rw[show c=b from d]
 ·rcases uk a i with rfl|rfl|rfl|rfl|rfl|rfl|rfl|rfl|rfl|rfl|rfl|rfl<;>rcases f with rfl|rfl<;>cases d
 ·rcases f with rfl|rfl<;>cases d
theorem Qz{s:Str}{P:List zb}(h:PcT s P):s≠[]:=by
 rcases Iu h with h|⟨n,p,U,t,_,rfl,_⟩|⟨c,r,rfl,d,_⟩|⟨c,rfl,f⟩|⟨k,b,a,rfl⟩|rfl
 ·exact Ai h
 ·obtain⟨c,r,e,_⟩:=Uk n p U;rw[e];simp
 ·simp
 ·simp
 ·rcases uk b a with rfl|rfl|rfl|rfl|rfl|rfl|rfl|rfl|rfl|rfl|rfl|rfl<;>decide
 ·simp
theorem kT{l:Str}{c:UInt8}{r:Str}(b:c=101\/c=69)(h:Z0 l=c::r): ∃t,l=c::t:=by
 cases l with
 |nil=>unfold Z0 at h;rw[encW]at h;cases h
 |cons a t=>
  have g:Z0 (a::t)=pcW ((a::t:Str)==[45]) (Qv (a::t)) a++encW ((a::t:Str)==[45]) (Qv (a::t) - 1) t:=rfl;obtain⟨d,u,e,f⟩:=Wy (dash:=(a::t:Str)==[45]) (k:=Qv (a::t)) (by unfold Qv;split<;>omega) a (encW ((a::t:Str)==[45]) (Qv (a::t) - 1) t)
  grind
theorem zAw{s:Str}{P:List zb}(h:PcT s P)(b:atS s 0=101\/atS s 0=69): ∃l t z,Zc l=true/\P=[t]/\(t.kind=1\/t.kind=2)/\t.text=l/\s=Z0 l++z/\(z=[]\/z=[40]):=by
 cases h with
 |one t h B C=>
  cases h with
  |cId l i h=>exact⟨l,_,[],h,rfl, .inl rfl,rfl,by rw[sj,Xa], .inl rfl⟩
  |cFn l i h=>exact⟨l,_,[40],h,rfl, .inr rfl,rfl,Li l, .inr rfl⟩
  |cAt l i h=>rw[uj]at b;rcases b with b|b<;>cases b
  |cHash l f i h v=>rw[ek]at b;rcases b with b|b<;>cases b
  |cStr l h=>rw[Oi]at b;rcases b with b|b<;>cases b
  |cUrl l h=>rw[Ij]at b;rcases b with b|b<;>cases b
  |cDel c h=>
   rw[Ci]at b;obtain⟨_,_,p,q⟩:=fF c h;rcases b with b|b
   ·exact absurd b p
   ·exact absurd b q
  |cNum n f d g w=>
   rw[Bi]at b;obtain⟨c,r,e,d,_⟩:=Uk n (!f) [];rw[Xa]at e;rw[e]at b;rcases b with b|b<;>(rw[show c=_ from b]at d;cases d)
  |cPct n d g=>
   rw[Pi]at b;obtain⟨c,r,e,d,_⟩:=Uk n false [37];rw[e]at b;rcases b with b|b<;>(rw[show c=_ from b]at d;cases d)
  |cDim n u f d g w i h=>
   rw[Ri]at b;obtain⟨c,r,e,d,_⟩:=Uk n (!f) (Qb u);rw[e]at b;rcases b with b|b<;>(rw[show c=_ from b]at d;cases d)
  |cMark k d g=> rw[ak d g]at b;rcases uk d g with rfl|rfl|rfl|rfl|rfl|rfl|rfl|rfl|rfl|rfl|rfl|rfl<;>rcases b with b|b<;>cases b
 |back=>rcases b with b|b<;>cases b
 |url l m s h o y=>
  exfalso;obtain⟨a,r,rfl,D⟩:=sJ o;obtain⟨c,A,e⟩:=Za (Ai (ai (l:=a::r) (by simp)));have j:c=101\/c=69:=by rw[e]at b;exact b
  obtain⟨t,x⟩:=kT j e;injection x with e3 _
  grind
def ShS(s r:Str):Prop:=r=s\/ ∃d y,digB d=true/\s=48::46::d::y/\r=46::d::y
theorem wK(cap:Nat)(l:Str):capF cap 0 (48::l)=capF cap 0 l:=by show capF cap (min cap (decN 0 48)) l=_;rw[show decN 0 48=0 from rfl,Nat.min_zero]
theorem FU(A:Str)(p:Int):thoV (48::A) p=thoV A p:=by
 unfold thoV;by_cases a:p<0
 ·rw[Ea a,Ea a];by_cases c:(A.length:Int)+p<0
  ·have b:(((48::A:Str).length:Int)+p).toNat=0:=by rw[Ka];omega
   grind
  ·have b:(((48::A:Str).length:Int)+p).toNat=((A.length:Int)+p).toNat+1:=by rw[Ka];omega
   rw[b,Dg,wK]
 ·rw[Fa a,Fa a,wK]
theorem bz(d:UInt8)(y:Str)(e:digB d=true):zt (48::46::d::y)=zt (46::d::y):=by
 have j:Qo 48=false/\Qo 46=false:=by decide
 have b:ae (48::46::d::y)=46::d::y:=rfl;have a:ae (46::d::y)=46::d::y:=rfl;have h:zo (48::46::d::y)=zo (46::d::y):=by rw[ZU,ZU,b,a]
 have g:(numP (48::46::d::y)).val=(numP (46::d::y)).val:=by have c:numP (48::46::d::y)=⟨[],[48],dotP (46::d::y),expP (zx (46::d::y)).1⟩:=rfl;have i:numP (46::d::y)=⟨[],[],dotP (46::d::y),expP (zx (46::d::y)).1⟩:=rfl;rw[c,i];unfold NumP.val;simp only[Xc,Ya,FU]
 have f:nbS (46::d::y)=true:=e;rw[Qk,Fa (by decide),Fa (by decide),show((48:UInt8)==35)=false from rfl,Lc,Fa (by decide),show nbS (48::46::d::y)=true from rfl,Ea rfl,
  Qk,Fa (by decide),Fa (by decide),show((46:UInt8)==35)=false from rfl,Lc,Fa (by decide),f,Ea rfl]
 unfold zk;rw[h,g]
theorem capG(cap:Nat): ∀(l:Str) (n:Nat),valG n l<=cap->capF cap n l=valG n l
 |[],n,_=>rfl
 |c::l,n,h=>by
  have b:valG n (c::l)=valG (decN n c) l:=rfl;rw[b]at h ⊢;have a:decN n c<=valG (decN n c) l:=by rw[Xk l (decN n c)];have:=Vd (decN n c) (Bf (n:=l.length) (show 0<10 by omega));omega
  rw[capF,Nat.min_eq_right (ib a h)];exact capG cap l (decN n c) h
theorem WH: ∀(k n:Nat),n*10 ^ k<=1000->QN k n=n*10 ^ k
 |0,n,_=>by rw[QN,Nat.pow_zero,je]
 |k+1,n,h=>by
  have c:ag=1000000000000:=rfl;rw[QN];have a:0<10 ^ k:=Bf (by omega);have e:n*10 ^ (k+1)=10*n*10 ^ k:=by rw[Jg,Kg 10 n,bf,Kg (10 ^ k) 10]
  have d:10*n<=10*n*10 ^ k:=Vd _ a;by_cases b:n=0
  ·subst b;simp
  ·rw[Fa (by omega),Nat.min_eq_right (by omega),WH k (10*n) (by omega),e]
theorem CV{n:Int}{p:Bool}(hp:(partT (n.natAbs%1000) p).isEmpty=false){U:Str}(hU:past digB U=U)(hx:expS U=none):
  (numP (46::(partT (n.natAbs%1000) p++U))).val=((n.natAbs%1000:Nat):Int):=by
 obtain⟨k1,k2,k3,_,_⟩:=Yi (r:=n.natAbs%1000) (by omega) p;generalize partT (n.natAbs%1000) p=F at*;obtain⟨c,r,rfl⟩:=Za (show F≠[] by grind);have hc:digB c=true:=by rw[Ic,Ba]at k1;exact k1.1
 have hq:ae (46::(c::r++U))=46::(c::r++U):=rfl;have hpast:past digB (c::r++U)=U:=by rw[Uj _ _ k1,hU]
 have hw:zx (46::(c::r++U))=(U,false):=by unfold zx;rw[show atS (46::(c::r++U)) 1=c from rfl,hc,show(atS (46::(c::r++U)) 0==46&&true)=true from rfl,Ea rfl,show(46::(c::r++U)).drop 1=c::r++U from rfl,hpast]
 have hrun:List.takeWhile digB (c::r++U)=c::r:=by have:=gp digB (c::r++U);rw[hpast]at this;exact Ie this
 have hd:dotP (46::(c::r++U))=some (c::r):=by unfold dotP;rw[show atS (46::(c::r++U)) 1=c from rfl,hc,show(atS (46::(c::r++U)) 0==46&&true)=true from rfl,Ea rfl,show(46::(c::r++U)).drop 1=c::r++U from rfl,hrun]
 have he:expP U=none:=by unfold expP;rw[Q6]at hx;rw[hx,Fa (by decide)]
 have hP:numP (46::(c::r++U))=⟨[],[],some (c::r),none⟩:=by show(⟨sgOf (46::(c::r++U)),_,dotP (46::(c::r++U)),expP (zx (46::(c::r++U))).1⟩:NumP)=_;rw[hd,hw,he];rfl
 rw[hP];unfold NumP.val;show(((thoV ([]++(c::r)) (3+0 - ((c::r:Str).length:Int))):Nat):Int)=_;unfold thoV;rw[Ya,Fa (by omega),show(3+0 - ((c::r:Str).length:Int)).toNat=3 - (c::r:Str).length by omega];have hle:valG 0 (c::r)<=1000:=by have:=Vd (valG 0 (c::r)) (Bf (n:=3 - (c::r:Str).length) (show 0<10 by omega));omega
 rw[capG _ _ _ (by unfold ag;omega),WH _ _ (by omega),k3]
theorem UE{m:Nat}(h:m=0):Lib.decDigits m=[48]:=by subst h;decide+kernel
theorem Pt{t:zb}{U:Str}(f:U=[]/\t.kind=10\/U=[37]\/ ∃u,u≠[]/\Zc u=true/\U=Qb u):past digB U=U/\expS U=none/\(U=[]\/U=[37]\/(nmS U=true/\(zg U).2=[])):=by
 rcases f with⟨rfl,_⟩|rfl|⟨u,a,h,rfl⟩
 ·exact⟨rfl,rfl, .inl rfl⟩
 ·exact⟨rfl,rfl, .inr (.inl rfl)⟩
 ·have c:=Yk a h;have e:=(Tt c []).1;have d:=VG a h (x:=[]) (.inl rfl);have b:=pu a h [];rw[Xa]at e d b;exact⟨e,d, .inr (.inr ⟨c,by rw[b,Z9]⟩)⟩
theorem LC(n:Int)(p:Bool)(U:Str):past digB (unsign (numT n p++U))=past digB (dotS (if(partT (n.natAbs%1000) p).isEmpty then none else some (partT (n.natAbs%1000) p))++U):=q2_T n p U
theorem kw{n:Int}{p:Bool}(U:Str)(a:(partT (n.natAbs%1000) p).isEmpty=true):past digB (unsign (numT n p++U))=past digB U:=by rw[LC,a];rfl
theorem jw{n:Int}{p:Bool}(U:Str)(a:(partT (n.natAbs%1000) p).isEmpty=false):past digB (unsign (numT n p++U))=46::(partT (n.natAbs%1000) p++U):=by rw[LC,a];rfl
theorem rH(z:Str):expS (46::z)=none:=rfl
theorem AP(z:Str):nmS (46::z)=false:=rfl
theorem aV{s r:Str}{P:List zb}(h:PcT s P)(x:digB (atS s 0)=true)(f:r=past digB s)(F:nmS r=false)(m:(atS r 0==37)=false)(d:zV r=P):ShS s r:=by
 have u:unsign s=s:=by unfold unsign Qo;rw[Da.2 (qd x).1,Da.2 (qd x).2.1];rfl
 obtain⟨n,p,U,t,rfl,rfl,g,z⟩:=Hr h (by grind);obtain⟨w,D,A⟩:=Pt z;rw[<-u,LC]at f;cases j:(partT (n.natAbs%1000) p).isEmpty with
 |true=>
  rw[j]at f;have a:r=U:=by rw[f];exact w
  subst a;rcases A with rfl|rfl|⟨G,_⟩
  ·rw[ZE (zM rfl)]at d;cases d
  ·cases m
  grind
 |false=>
  rw[j]at f;have a:r=46::(partT (n.natAbs%1000) p++U):=by rw[f];rfl
  have B:=CV j w D;obtain⟨c,q,i⟩:=Za (show partT (n.natAbs%1000) p≠[] by grind);have b:=Um (n:=n) (p:=p);have v:digB c=true:=by rw[i,Ic,Ba]at b;exact b.1
  have k:cmtS r=46::(partT (n.natAbs%1000) p++U):=by rw[a];exact zM rfl
  rw[Zb k]at d;injection d with d _;have l:zt (46::(partT (n.natAbs%1000) p++U))=zk (46::(partT (n.natAbs%1000) p++U)):=by
   have o:nbS (46::(partT (n.natAbs%1000) p++U))=true:=by rw[i];exact v
   rw[Qk,Fa (by decide),Fa (by decide),show((46:UInt8)==35)=false from rfl,Lc,Fa (by decide),o,Ea rfl]
  have e: ∀q:Str,(zk q).1.num=(numP q).val:=by
   intro q;unfold zk;split
   ·rfl
   ·split<;>rfl
  rw[l]at d;have y:=e (46::(partT (n.natAbs%1000) p++U));rw[d,B,g]at y;have E:n.natAbs / 1000=0:=by omega
  have C:numT n p++U=48::46::c::(q++U):=by rw[Pj,j,UE E,i];unfold sgT;rw[Fa (by omega)];rfl
  right;exact⟨c,q++U,v,C,by rw[a,i];rfl⟩
theorem LM: ∀(y r:Str),y.all letB=true->zg (y++r)=(y++(zg r).1,(zg r).2)
 |[],r,_=>rfl
 |c::y,r,h=>by rw[Ic,Ba]at h;rw[Ta,zI,Ea h.1,LM y r h.2];rfl
theorem vS{l:Str}(h:l.all digB=true):l.all letB=true:=by
 rw[Ub]at h ⊢;intro b a;unfold letB
 grind
theorem bV{s r:Str}{P:List zb}(h:PcT s P)(he:atS s 0=101\/atS s 0=69)(hd:digB (atS (unsign (s.drop 1)) 0)=true)(hr:r=past digB (unsign (s.drop 1)))(hT:zV r=P):False:=by
 obtain⟨l,t,z,hl,rfl,hk,ht,rfl,hz⟩:=zAw h he;obtain⟨c,q,e⟩:=Za (Qz h);have hnz:zg z=([],z):=by rcases hz with rfl|rfl;exact Z9;exact dE []
 have hname:zg (Z0 l++z)=(l,z):=by rw[Ql z hl,hnz,Xa]
 rw[e]at he hd hr hname;rw[show(c::q).drop 1=q from rfl]at hd hr;have hc:letB c=true:=by rcases he with h|h<;>(rw[show c=_ from h];rfl)
 -- the sign is a dash, or none
 have hsg:(sgOf q).all letB=true:=by
  unfold sgOf;cases hs:Qo (atS q 0)with
  |false=>rfl
  |true=>
   rw[Ea rfl];unfold Qo at hs;rw[Pb,Sa,Sa]at hs;rcases hs with hs|hs
   ·exfalso;cases q with
    |nil=>cases hs
    |cons d q'=>
     rw[show d=43 from hs,zI,Ea hc,zI,Fa (by decide),Fa (by unfold escS;rw[show atS (43::q') 0=43 from rfl];simp)]at hname
     grind
   ·rw[hs];rfl
 have hsplit:c::q=(c::(sgOf q++(unsign q).takeWhile digB))++r:=by rw[hr,Ta,Ia,gp,dA]
 have hall:(c::(sgOf q++(unsign q).takeWhile digB)).all letB=true:=by rw[Ic,hc,Ue,hsg,vS (wo digB _)];rfl
 rw[hsplit,LM _ _ hall]at hname;injection hname with hn1 hn2;have hcm:cmtS r=r:=by
  refine zM ?_;cases r with
  |nil=>rfl
  |cons d u=>
   refine Cw (Da.2 ?_);rintro rfl;rw[zI,Fa (by decide),Fa (by unfold escS;rw[show atS (47::u) 0=47 from rfl];simp)]at hn2
   grind
 cases r with
 |nil=>rw[ZE hcm]at hT;cases hT
 |cons d u=>
  rw[Zb hcm]at hT;injection hT with hT _;have hbr:=Qu d u;rw[hT]at hbr;have hbr':brS d u=7:=by rcases hk with hk|hk<;>(rw[hk]at hbr;exact hbr.symm)
  have hx:t.text=(zg (d::u)).1:=by
   rw[<-hT,Zh,hbr',Mh];have hk':(ZO (d::u)).1.kind=1\/(ZO (d::u)).1.kind=2:=by
    have:(ZO (d::u)).1=t:=by rw[<-hT,Zh,hbr',Mh]
    rw[this];exact hk
   unfold ZO at hk' ⊢;split
   ·rename_i h40;rw[Ea h40]at hk';split
    ·rename_i h2;rw[Ea h2]at hk';rcases Hy (urlS (past spB ((zg (d::u)).2.drop 1))).1 with hh|hh<;>rcases hk' with hk'|hk'<;>rw[show(Ni (urlS (past spB ((zg (d::u)).2.drop 1))).1).kind=_ from hk']at hh<;>cases hh
    ·rfl
   ·rfl
  rw[<-hx,ht]at hn1;have:=congrArg List.length hn1
  grind
theorem LY{z r:Str}(h:zx z=(r,true)):r=z:=by
 unfold zx at h
 grind
theorem uK{z r:Str}(h:(match expS (zx z).1 with|some r=>(r,false)|none=>zx z)=(r,true)):r=z:=by
 cases a:expS (zx z).1 with
 |some y=>grind
 |none=>rw[a]at h;exact LY h
theorem XJ{z r:Str}{b:Bool}(h:(match expS z with|some r=>(r,false)|none=>(z,false))=(r,b)):r=z\/expS z=some r:=by
 grind
theorem iL{t:zb}{s r:Str}{P:List zb}(N:Qc t)(h:PcT s P)(b:EH t s r)(v:zV r=P):ShS s r:=by
 have M:P≠[]:=by cases h<;>simp
 have p:r≠[]:=by rintro rfl;rw[ZE (zM rfl)]at v;exact M v.symm
 have j:digB (atS s 0)=false->past digB s=s:=by
  intro i;cases s with
  |nil=>rfl
  |cons c q=>rw[past,show digB c=false from i];rfl
 rcases b with b|⟨_,b⟩|⟨R,Q,g,G⟩|⟨_,K,y,i,g,b⟩
 ·exact .inl b
 ·cases u:spB (atS s 0)with
  |true=> rw[sO h u]at b;exact absurd b p
  |false=>
   left;rw[b];cases s with
   |nil=>rfl
   |cons c q=>rw[past,show spB c=false from u];rfl
 ·cases N with
  |cNum n f w E S=>
   have e:zo (numT n (!f)++s)=(r,f):=Q;have a:r=past digB s\/expS (past digB s)=some r:=by
    cases d:(partT (n.natAbs%1000) (!f)).isEmpty with
    |true=> left;rw[bi d]at e;rw[QU S]at d;subst d;exact uK e
    |false=> rw[Ti d]at e;exact XJ e
   cases i:digB (atS s 0)with
   |true=>
    rcases a with b|l
    ·exact aV h i b g G v
    ·exfalso;have o:unsign s=s:=by unfold unsign Qo;rw[Da.2 (qd i).1,Da.2 (qd i).2.1];rfl
     obtain⟨A,B,U,J,rfl,rfl,_,x⟩:=Hr h (by grind);obtain⟨z,O,_⟩:=Pt x;rw[<-o]at l;cases d:(partT (A.natAbs%1000) B).isEmpty with
     |true=>rw[kw U d,z,O]at l;cases l
     |false=>rw[jw U d,rH]at l;cases l
   |false=>
    rw[j i]at a;rcases a with b|l
    ·exact .inl b
    ·obtain⟨w,E,L⟩:=Aj l;exact(bV h w E L v).elim
  |cId|cFn|cAt|cHash|cStr|cUrl|cDel|cPct|cDim=>simp at R
  |cMark k w E=>grind
 ·exfalso;have D:digB (atS (unsign s) 0)=true/\past digB (unsign (K++s))=past digB (unsign s):=by
   rcases y with rfl|rfl
   ·grind
   ·have m:digB (atS s 0)=true:=i;have o:unsign s=s:=by unfold unsign Qo;rw[Da.2 (qd m).1,Da.2 (qd m).2.1];rfl
    rw[o];exact⟨m,rfl⟩
  obtain⟨C,F⟩:=D;rw[F]at g b;obtain⟨A,B,U,J,rfl,rfl,_,x⟩:=Hr h C;obtain⟨z,_,H⟩:=Pt x;cases d:(partT (A.natAbs%1000) B).isEmpty with
  |true=>
   rw[kw U d,z]at g b;rcases H with rfl|rfl|⟨_,T⟩
   ·cases g
   ·cases g
   grind
  |false=>rw[jw U d,AP]at g;cases g
abbrev cmtW:Str:=[47,42,42,47]
theorem Dw{s:Str}{P:List zb}(h:PcT s P)(x:Str)(hx:atS x 0≠42):([47,42]:Str).isPrefixOf (s++x)=false:=by
 obtain⟨c,r,rfl⟩:=Za (Qz h);by_cases hc:c=47
 ·have:=Ht h (.inl rfl) hc;rw[this];cases x with
  |nil=>rfl
  |cons d t=>
   show((47==(47:UInt8))&&((42==d)&&_))=false;have:((42:UInt8)==d)=false:=Da.2 (fun e=>hx e.symm)
   grind
 grind
theorem Ew{s:Str}{P:List zb}(h:PcT s P):cmtS s=s:=by
 refine zM ?_;have:=Dw h [] (by decide)
 grind
theorem mr(x:Str):zt (92::10::x)=(⟨9,[92],0,[],false⟩,10::x):=rfl
theorem XX{l:Str}(g:l≠[])(h:Zc l=true)(f:lowS l=[117,114,108])(b:Bool)(w:Str):
  zt (Z0 l++40::((if b then [32]else [])++34::w))=(⟨2,l,0,[],false⟩,(if b then [32]else [])++34::w):=by
 have d:=bn g ((if b then [32]else [])++34::w);have a:=xI h ((if b then [32]else [])++34::w);obtain⟨c,r,e⟩:=Za (Ai d);rw[e]at d a ⊢;rw[Zh,ax d (by grind),Mh];unfold ZO;rw[a];simp only;have i:atS (past spB ((40::((if b then [32]else [])++34::w)).drop 1)) 0=34:=by cases b<;>rfl
 rw[Ea (by rfl),f,i,Fa (by decide)];rfl
theorem Jo{l:Str}(h:lowS l=[117,114,108]):l≠[]:=by rintro rfl;cases h
theorem AU(l m x:Str)(b:Bool):(Z0 l++40::((if b then [32]else [])++34::(encB quoB m++[34])))++x=Z0 l++40::((if b then [32]else [])++34::((encB quoB m++[34])++x)):=by
 grind
theorem Et{l m:Str}{b:Bool}(h:Zc l=true)(hl:lowS l=[117,114,108])(hm:Zc m=true)(x:Str):
  run ((Z0 l++40::((if b then [32]else [])++34::(encB quoB m++[34])))++x) (⟨2,l,0,[],false⟩::((if b then [tkSp]else [])++[⟨5,m,0,[],false⟩])) x:=by
 rw[AU];have hf:=XX (Jo hl) h hl b ((encB quoB m++[34])++x);have hn:=bn (Jo hl) ((if b then [32]else [])++34::((encB quoB m++[34])++x));have hs: ∀q:Str,q=34::((encB quoB m++[34])++x)->run q [⟨5,m,0,[],false⟩] x:=by rintro q rfl;have:=Gu hm x;rw[Ta]at this;exact⟨34,_,zM rfl,by rw[this],by rw[this];rfl⟩
 obtain⟨c,r,e⟩:=Za (Ai hn);rw[e]at hf hn ⊢;have hc:c≠47:=by rintro rfl;exact absurd (show hdB 47=true from Dj hn) (by decide)
 refine⟨c,r,zM (Cw (Da.2 hc)),by rw[hf],?_⟩;rw[hf];cases b with
 |false=>exact hs _ rfl
 |true=> exact⟨32,34::((encB quoB m++[34])++x),zM rfl,rfl,hs _ rfl⟩
theorem Es{s:Str}{P:List zb}(h:PcT s P){x:Str}(a:neu x):run (s++x) P x:=by
 cases h with
 |one t h d f=>
  have g:=JJ h d f a;have i:=Dw (.one t h d f) x (by rcases a with rfl|⟨y,rfl⟩;exact(show(0:UInt8)≠42 by decide);exact(show(47:UInt8)≠42 by decide));obtain⟨c,r,e⟩:=Za (Qz (.one t h d f));rw[e]at g i ⊢;exact⟨c,r++x,zM i,by grind,by rw[show c::(r++x)=(c::r)++x from rfl,g];rfl⟩
 |back=> refine⟨92,10::x,zM rfl,by rw[mr],?_⟩;rw[mr];refine⟨10,x,zM rfl,rfl,?_⟩;show past spB x=x;exact cK rfl a
 |url l m b h j k=>exact Et h j k x
theorem ER{u s r:Str}{p P:List zb}(hu:PcT u p)(hs:PcT s P)(hr:run (u++s) p r)(hT:zV r=P):ShS s r:=by
 cases hu with
 |one t h hb hu=>
  obtain⟨c,q,h1,h2,h3⟩:=hr;have hpu:PcT (txS t) [t]:= .one t h hb hu;rw[run]at h3;cases hp:([47,42]:Str).isPrefixOf (txS t++s)with
  |true=>
   exfalso;obtain⟨c0,r0,e⟩:=Za (Qz hpu);by_cases hc:c0=47
   ·have e2:=Ht hpu (.inl rfl) (by rw[e];exact hc);rw[e2]at hp h1;have h42:atS s 0=42:=by
     cases s with
     |nil=>cases hp
     |cons d t'=>
      have:((42:UInt8)==d)=true:=by have h':((47==(47:UInt8))&&((42==d)&&true))=true:=hp;simpa using h'
      exact(Sa.1 this).symm
    rw[Ht hs (.inr rfl) h42]at h1;have:cmtS ([47]++[42])=[]:=by rw[qE];rfl
    grind
   grind
  |false=> rw[zM hp]at h1;rw[<-h1]at h2 h3;have:=AL h hu h2;rw[h3]at this;exact iL h hs this hT
 |back=> obtain⟨c,q,h1,h2,h3⟩:=hr;rw[show cmtS ([92,10]++s)=92::10::s from zM rfl]at h1;injection h1 with e1 e2;subst e1 e2;rw[mr]at h3;obtain⟨c',q',g1,g2,g3⟩:=h3;rw[show cmtS (10::s)=10::s from zM rfl]at g1;injection g1 with e1 e2;subst e1 e2;rw[run]at g3;have g3':past spB s=r:=g3;exact iL (t:=tkSp) (.cMark 13 (by omega) (by omega)) hs (.inr (.inl ⟨rfl,g3'.symm⟩)) hT
 |url l m b h hl hm=>exact .inl (rC hr (Et h hl hm s))
def Lk(R A:Str):Prop:=cmtS R=A\/ ∃d y,digB d=true/\A=48::46::d::y/\cmtS R=46::d::y
theorem jl{R A:Str}(h:Lk R A)(a:A≠[]):cmtS R≠[]:=by
 rcases h with h|⟨d,y,_,_,h⟩
 ·rw[h];exact a
 ·rw[h];simp
theorem bv{R A x:Str}(h:Lk R A)(b:A≠[])(c:([47,42]:Str).isPrefixOf (A++x)=false):Lk (R++x) (A++x):=by
 rcases h with h|⟨d,y,a,rfl,h⟩
 ·left;rw[Sj (by rw[h];exact b) (by rw[h];exact c),h]
 ·right;exact⟨d,y++x,a,rfl,by rw[Sj (by rw[h];simp) (by rw[h];rfl),h];rfl⟩
theorem av{R A:Str}(h:Lk R A)(g:([47,42]:Str).isPrefixOf A=false){t:zb}{ts:List zb}{r:Str}:run R (t::ts) r↔run A (t::ts) r:=by
 rcases h with h|⟨d,y,f,rfl,h⟩
 ·rw[<-tC (q:=R) (by simp),h]
 ·rw[<-tC (q:=R) (by simp),h];constructor
  ·rintro⟨c,q,a,e,b⟩;rw[zM rfl]at a;rw[<-a]at e b;exact⟨48,46::d::y,zM rfl,by rw[bz d y f];exact e,by rw[bz d y f];exact b⟩
  ·rintro⟨c,q,a,e,b⟩;rw[zM rfl]at a;rw[<-a,bz d y f]at e b;exact⟨46,d::y,zM rfl,e,b⟩
theorem Tx{R A:Str}(h:Lk R A):zV R=zV A:=by
 rcases h with h|⟨d,y,a,rfl,h⟩
 ·rw[<-ql R,h]
 ·rw[<-ql R,h,Zb (zM rfl),Zb (l:=48::46::d::y) (zM rfl),bz d y a]
inductive Syn:Str->List zb->List (List zb×Str)->Prop
 |nil:Syn [] [] []
 |cmt (b s:Str) (ts P:List zb) (st:List (List zb×Str)) (h:Syn b ts st) (hb:b≠[]) (hp:PcT s P):Syn (b++cmtW++s) (ts++P) (st++[(ts,b++cmtW)])
 |no (b s:Str) (ts P:List zb) (st:List (List zb×Str)) (h:Syn b ts st) (hp:PcT s P) (ht:zV (b++s)=ts++P):Syn (b++s) (ts++P) (st++[(ts,b)])
def Bd(b:Str)(ts L:List zb)(B:Str)(m:Nat):Prop:= ∃A R a,b=B++A/\A≠[]/\ts=L++a/\a≠[]/\run b L R/\Lk R A/\m<=R.length/\m<=A.length
structure zzy (b:Str) (ts:List zb) (st:List (List zb×Str)):Prop where
 tok:zV b=ts
 bd: ∀k (h:k<st.length),Bd b ts st[k].1 st[k].2 (st.length - k)
 last:(st=[]/\b=[]/\ts=[])\/ ∃L B u p R,PcT u p/\b=B++u/\ts=L++p/\run b L R/\Lk R u
theorem pc_P{s:Str}{P:List zb}(h:PcT s P): ∃t us,P=t::us:=by cases h<;>exact⟨_,_,rfl⟩
theorem MI {b x:Str} {ts P L:List zb} {B:Str} {m:Nat} (h:Bd b ts L B m) (hx:x≠[])
  (hrun: ∀R,R≠[]->run b L R->(∃A,A≠[]/\Lk R A/\b=B++A)->run (b++x) L (R++x)/\(∀A,A≠[]->Lk R A->b=B++A->Lk (R++x) (A++x))):Bd (b++x) (ts++P) L B (m+1):=by
 obtain⟨A,R,us,h1,h2,h3,h4,h5,h6,h7,h8⟩:=h;have hR:R≠[]:=by intro e;have:=jl h6 h2;rw[e]at this;exact this (zM rfl)
 obtain⟨g1,g2⟩:=hrun R hR h5 ⟨A,h2,h6,h1⟩;refine⟨A++x,R++x,us++P,by grind,by simp[h2],by grind,by simp[h4],g1,g2 A h2 h6 h1,?_⟩;have:=Ib.2 hx
 grind
theorem BI{q:Str}(h:cmtS q=[47]):cmtS (q++[42])=[]:=by
 rw[qE q]at h;cases a:([47,42]:Str).isPrefixOf q with
 |true=>
  have b:=Wi a;rw[show([47,42]:Str).length=2 from rfl]at b;rw[a,Ea rfl]at h;cases c:clsS (q.drop 2)with
  |none=>grind
  |some p=>
   rw[c]at h;have d:p.length<q.length:=by have d:=(Jh _ c).2;rw[ja]at d;omega
   rw[qE,jk [42] (by exact b),a,Ea rfl,Xm b,Ex [42] c];exact BI h
 |false=> rw[a,Fa (by decide)]at h;subst h;rw[qE];rfl
termination_by q.length
end Go.Lv.VT
