/- Tokens that can be written: the program's check. -/
import Derived.Test.YtcdeccnjlkkejaaGreatDoorLaw
set_option linter.unusedSimpArgs false
set_option linter.unusedVariables false
namespace Go.Lv.VT
theorem vP(g d:Bool)(b c:UInt8):(bif g then namN (bif g then b else c).toNat else d)=bif g then namN b.toNat else d:=by cases g<;>rfl
theorem U1{x:ze}(h1:x.text.length<=big)(h2:x.unit.length<=big):wo x=some (yf x):=by
 unfold wo;rw[zA (Kj.2 (by grind))];simp only[zg,Xp,Aa];have hn:decide (Lib.indexByte (x.text++x.unit) (0:Int).toNat.toUInt8<0)=(Zt x.text&&Zt x.unit):=by rw[nS,yA,mZ,Bool.not_not]
 simp only[hn,sO,qR,QB,Aa,ge_iff_le,bne];have hb:=CU x.text;unfold yf rngS;by_cases k9:x.kind=9
 ·simp only[k9,Int.reduceBEq,Ea,Da,zh,He,xc];cases ht:x.text with
  |nil=>
   have:Zt ([]:Str)=true:=rfl;simp only[this,Ab];cases Zt x.unit<;>rfl
  |cons b r=>
   cases r with
   |nil=>
    have hd:=kV b;have e1:((([b]:Str).length:Int)==1)=true:=rfl;have e2:geti [b] 0=some b:=rfl;have e3:(([b]:Str)==[45])=(b==45):=by show((b==45)&&true)=_;rw[Sb]
    have e4:Zt [b]= !(b==0):=by show((!(b==0))&&true)=_;rw[Sb]
    have e5:delS [b]=Wh b.toNat:=rfl;simp only[e1,e2,e3,e4,e5,X5,yN,QB,Aa,vP,<-hd];cases hu:x.unit with
    |nil=>
     have:Zt ([]:Str)=true:=rfl;simp only[this,Sb];generalize (tq.any fun c=>c==b)=a1;cases namN b.toNat<;>cases (b==0)<;>cases (b==45)<;>cases a1<;>cases (x.num==0)<;>cases x.flag<;>rfl
    |cons c s=> simp_all
   |cons c r=>
    have e1:(((b::c::r:Str).length:Int)==1)=false:=Ja.2 (by grind);have e3:((b::c::r:Str)==[45])=false:=by show((b==45)&&false)=_;rw[Pd]
    have e5:delS (b::c::r)=false:=rfl;simp only[e1,e3,e5];simp_all
 have b9:=Ja.2 k9;have hu:(x.unit==[])=true->Zt x.unit=true:=fun h=>by rw[Db]at h;rw[h];rfl
 have htx:(x.text==[])=true->Zt x.text=true:=fun h=>by rw[Db]at h;rw[h];rfl
 rw[<-hb];generalize hl45:(x.text==[45])=a11 at*;generalize (List.isPrefixOf [45,45] x.text)=a12 at*;generalize numS x.text=a3 at*;generalize Zt x.text=a1 at*;generalize Zt x.unit=a2 at*;generalize (x.text==[])=a4 at*;generalize (x.unit==[])=a5 at*;generalize (x.num==0)=a6 at*;generalize x.flag=a7 at*;generalize decide (-1000000000000<=x.num)=a8 at*;generalize decide (x.num<=1000000000000)=a9 at*;generalize (Int.tmod x.num 1000==0)=a10 at*;clear hb hn hl45;have K: ∀k:Int,k∈[1,2,3,4,5,7,10,11,12]->x.kind=k->True:=fun _ _ _=>trivial;clear K;by_cases k1:x.kind=1
 ·simp only[k1,zh,Ea,Da,Int.reduceBEq]
  grind
 by_cases k2:x.kind=2
 ·simp only[k2,zh,Ea,Da,Int.reduceBEq]
  grind
 by_cases k3:x.kind=3
 ·simp only[k3,zh,Ea,Da,Int.reduceBEq]
  grind
 by_cases k4:x.kind=4
 ·simp only[k4,zh,Ea,Da,Int.reduceBEq]
  grind
 by_cases k5:x.kind=5
 ·simp only[k5,zh,Ea,Da,Int.reduceBEq]
  grind
 by_cases k7:x.kind=7
 ·simp only[k7,zh,Ea,Da,Int.reduceBEq]
  grind
 by_cases k10:x.kind=10
 ·simp only[k10,zh,Ea,Da,Int.reduceBEq]
  grind
 by_cases k11:x.kind=11
 ·simp only[k11,zh,Ea,Da,Int.reduceBEq]
  grind
 by_cases k12:x.kind=12
 ·simp only[k12,zh,Ea,Da,Int.reduceBEq]
  grind
 simp only[b9,Ja.2 k1,Ja.2 k2,Ja.2 k3,Ja.2 k4,Ja.2 k5,Ja.2 k7,Ja.2 k10,Ja.2 k11,Ja.2 k12,zh,Ea,Da,Bool.or_self];cases decide (13<=x.kind)<;>cases decide (x.kind<=24)<;>cases a4<;>cases a5<;>cases a6<;>cases a7<;>rfl
theorem FZ {R:Type} {step:Int->Option (LO Int Unit R)} {k:Unit->Option R} (n:Nat) (p:Nat->Bool) (r:R)
  (c: ∀(i:Nat),i<n->step (i:Int)=some (bif p i then .again ((i+1:Nat):Int)else .ret r)) (a:step (n:Int)=some (.out ())):
  ZR step 0 k=bif (List.range n).all p then k ()else some r:=by
 have e:=eY (k:=k) (List.range n) (fun i=>bif p i then none else some r) () (fun i b=> ?_) (by simpa using a)
 ·rw[e,iJ]
  grind
 grind
def Aq:List ze->Bool
 |[]=>false
 |s::r=>bif s.kind==13 then(match r with|u::_=>u.kind==5|[]=>false)else s.kind==5
def bi:List ze->Bool
 |[]=>false
 |s::_=>s.kind==13
def Og(t:ze):Bool:=t.kind==2&&lowS t.text==[117,114,108]
def okAt:List ze->Bool
 |[]=>true
 |t::r=>(!(t.kind==9&&t.text==[92])||bi r)&&(!(Og t)||Aq r)
def Al(l:List ze)(i:Nat):Bool:=yf (l.getD i default)&&okAt (l.drop i)
def gluS(l:List ze):Int:=bif decide (l.length<=1500)then(bif (List.range l.length).all (Al l)then 0 else 8)else 4
theorem Co(l:List ze)(i:Nat)(k:Int):Zo (((i:Int),k),l)=some (match l[i]? with|some t=>t.kind==k|none=>false):=by
 unfold Zo;by_cases h:i<l.length
 ·simp only[Dh h,zS,qI h,zg,Aa,Ea,Sa h]
 ·have e:decide ((i:Int)<(l.length:Int))=false:=aa (by omega);simp only[e,ZH,zg,Aa,Da,List.getElem?_eq_none (Nat.le_of_not_lt h)]
theorem Kv:lowS [117,114,108]=[117,114,108]:=by decide
theorem X4{t:ze}{r:List ze}(h:t.text.length<=big): ∃n:Int,qN (t::r)=some n/\(n==0)= !okAt (t::r):=by
 have e0:geti (t::r) 0=some t:=rfl;have p1:=Co (t::r) 1 13;have p15:=Co (t::r) 1 5;have p25:=Co (t::r) 2 5;unfold qN;simp only[e0,zg,Aa,dx h (show([117,114,108]:Str).length<=big by decide),Kv,QB];simp only[Int.natCast_one]at p1 p15;replace p25:Zo ((2,5),t::r)=_:=p25;rw[p1];unfold okAt Og;cases hd:(t.kind==9&&t.text==[92])with
 |true=>
  have hk:t.kind=9:=by rw[Ca,Db]at hd;exact hd.1
  have ht:(t.text==[92])=true:=by rw[Ca]at hd;exact hd.2
  simp only[hk,ht,Int.reduceBEq,Ea,Da,Aa];cases r with
  |nil=>exact⟨_,rfl,rfl⟩
  |cons s r=>
   show∃n:Int,(bif !(s.kind==13)then some 0 else some 2)=some n/\(n==0)= !((!true||s.kind==13)&&_);cases s.kind==13
   ·simp_all
   simp_all
 |false=>
  have hc:(bif t.kind==9 then t.text==[92]else false)=false:=by
   cases h9:t.kind==9
   ·rfl
   ·grind
  simp only[hc,hd,Da,Xa,Ae,Ab];cases hu:(t.kind==2&&lowS t.text==[117,114,108])with
  |false=>
   have:(bif t.kind==2 then bif t.kind==2 then lowS t.text==[117,114,108]else default else false)=false:=by
    cases h2:t.kind==2
    ·rfl
    ·grind
   rw[this]
   grind
  |true=>
   rw[Ca]at hu;rw[hu.1,hu.2];simp only[Ea,Aa];cases r with
   |nil=>exact⟨0,by simp[p15],rfl⟩
   |cons s r=>
    cases hs:s.kind==13 with
    |false=>
     have e1:(match(t::s::r)[1]? with|some t=>t.kind==13|none=>false)=false:=hs;have e5:Zo ((1,5),t::s::r)=some (s.kind==5):=p15;simp only[e1,Da,zh,e5,Aa,Aq,hs];cases s.kind==5
     ·grind
     ·exact⟨2,by rfl,rfl⟩
    |true=>
     have e1:(match(t::s::r)[1]? with|some t=>t.kind==13|none=>false)=true:=hs;simp only[e1,Ea,zh,p25,Aa,Aq,hs];cases r with
     |nil=>grind
     |cons u r=>
      show∃n:Int,(bif !(u.kind==5)then some 0 else some (w64 (2+1)))=some n/\(n==0)= !(!true||u.kind==5);cases u.kind==5
      ·grind
      ·exact⟨3,rfl,rfl⟩
theorem rY(l:List ze):decide ((l.length:Int)>1500)= !decide (l.length<=1500):=rG _ 1500
theorem BO{l:List ze}(h: ∀t∈l,t.text.length<=big/\t.unit.length<=big):QE l=some (gluS l):=by
 unfold QE gluS;rw[rY];cases e:decide (l.length<=1500)with
 |false=>rfl
 |true=>
  have e:=Ec e;simp only[Ib,Da,Ea];refine(FZ l.length (Al l) 8 (fun i a=> ?_) ?_).trans ?_
  ·obtain⟨d,j⟩:=h _ (Gd a);have b:l.getD i default=l[i]:=by simp[a]
   have c:=ma a;obtain⟨n,f,k⟩:=X4 (t:=l[i]) (r:=l.drop (i+1)) d;rw[<-c]at f k;have g:decide ((i:Int)<=(l.length:Int))=true:=Ga (by omega);unfold Al;simp only[Dh a,Ea,qI a,zg,Aa,U1 d j,jG,g,Ab,Ae,zR,Va,f,QB,QK a (show l.length<=big by unfold big;omega),b]
   grind
  ·grind
  grind
set_option maxRecDepth 100000
def partT(r:Nat)(p:Bool):Str:=bif (Gh r).isEmpty then(bif p then [48]else [])else Gh r
theorem Aj{r:Nat}(h:r<1000)(p:Bool):(partT r p).all digB=true/\(partT r p).length<=3/\valG 0 (partT r p)*10 ^ (3 - (partT r p).length)=r/\Nj r p=(bif (partT r p).isEmpty then []else 46::partT r p)/\((partT r p).isEmpty=((r==0)&& !p)):=by
 have f:=yC r h;simp only[pu,Ca,Eb,Db]at f;obtain⟨⟨⟨⟨a,b⟩,c⟩,d⟩,e⟩:=f;unfold partT Nj;cases g:(Gh r).isEmpty with
 |true=>
  have i:r=0:=by rw[g]at d;exact Db.1 d.symm
  subst i;cases p<;>refine⟨by decide,by decide,by decide,rfl,rfl⟩
 |false=>
  grind
theorem mI{l:Str}(h:(l.all fun b=>digB b||b==46)=true):Kg l=true:=by
 unfold Kg;rw[Rb]at h ⊢;intro b hb;have:=h b hb;refine Ga ?_;rw[Jc]at this;rcases this with h1|h1
 ·have:=yo h1;omega
 simp_all
theorem kI{m:Nat}(p:Bool):((Xf m p).all fun b=>digB b||b==46)=true:=by
 obtain⟨d,_,_⟩:=Jo (m / 1000);obtain⟨g,_,_,e,_⟩:=Aj (r:=m%1000) (by omega) p;have f: ∀l:Str,l.all digB=true->(l.all fun b=>digB b||b==46)=true:=by intro l a;rw[Rb]at a ⊢;intro b c;rw[a b c];rfl
 unfold Xf
 grind
theorem Js(u:Nat): ∃c r,Lib.decDigits u=c::r/\digB c=true:=by
 obtain⟨b,_,a⟩:=Jo u;cases h:Lib.decDigits u with
 |nil=>exact absurd h a
 |cons c r=>grind
theorem QP{c:UInt8}(h:digB c=true):c≠45/\c≠43/\c≠46/\c≠0/\List.contains [43,45] c=false:=by
 have: ∀n:Nat,n<256->digB (UInt8.ofNat n)=true->UInt8.ofNat n≠45/\UInt8.ofNat n≠43/\UInt8.ofNat n≠46/\UInt8.ofNat n≠0/\List.contains [43,45] (UInt8.ofNat n)=false:=by decide+kernel
 have:=this c.toNat (Bb c);simp_all
theorem tV{m:Nat}(p:Bool): ∃f,Lib.cut (Xf m p) [46]=(Lib.decDigits (m / 1000),partT (m%1000) p,f):=by
 obtain⟨a,_,_⟩:=Jo (m / 1000);obtain⟨_,_,_,b,_⟩:=Aj (r:=m%1000) (by omega) p;unfold Xf Lib.cut;rw[yx,b];cases c:(partT (m%1000) p).isEmpty with
 |true=> rw[Ea,Cb,BB _ a,Fa (by decide)];simp_all
 |false=> rw[Da,CB _ _ a,Ia (by omega)];simp_all
theorem D6{n:Int}(S: -1000000000000<=n)(h2:n<=1000000000000)(p:Bool):Zv (numT n p)=some n:=by
 obtain⟨m,B⟩: ∃m:Nat,n.natAbs=m:=⟨_,rfl⟩;have k:m<=1000000000000:=by omega
 obtain⟨c,r,E,y⟩:=Js (m / 1000);obtain⟨h,C,_,_,t⟩:=QP y;have d:Xf m p=c::(r++Nj (m%1000) p):=by unfold Xf;rw[E];rfl
 have A:=Dx k p;obtain⟨f,j⟩:=tV (m:=m) p;obtain⟨X,L,Y⟩:=Jo (m / 1000);obtain⟨T,U,K,V,W⟩:=Aj (r:=m%1000) (by omega) p;have H:=XD (u:=m / 1000) (by omega);have o:short (Xf m p)=true:=Ga (by omega);have w:Lib.trimLeftS (Xf m p) [43,45]=Xf m p:=by rw[d];unfold Lib.trimLeftS;rw[De,t];rfl
 have J:Lib.trimLeftS (numT n p) [43,45]=Xf m p:=by
  unfold numT;rw[B];by_cases g:n<0
  ·rw[Ia g];show List.dropWhile _ (45::Xf m p)=_;simp_all
  ·grind
 have Q: ∃b,geti (numT n p) 0=some b/\(((b.toNat:Int)==45)=decide (n<0)):=by
  unfold numT;rw[B];by_cases g:n<0
  ·rw[Ia g,Ga g];exact⟨45,rfl,rfl⟩
  ·rw[Fa g,aa g];refine⟨c,by rw[d];rfl,Ja.2 (fun e=>h ?_)⟩;exact Pe.1 (by grind)
 obtain⟨b,x,z⟩:=Q;unfold Zv;simp only[zg,x,Aa];have O:Ih (numT n p,[43,45])=some (Xf m p):=by unfold Ih;rw[zA (show(short ([43,45]:Str)&&Kg [43,45])=true by decide)];exact congrArg some J
 have M:Qv (Xf m p,[101,69])=some (-1):=by unfold Qv;rw[zA (by simp only[o,mI (kI p),Sb,Ab];decide)];exact congrArg some (iB _ (kI p))
 have P:cutF (Xf m p,[46])=some (Lib.decDigits (m / 1000),partT (m%1000) p,f):=by unfold cutF;rw[zA (by exact o)];exact congrArg some j
 simp only[O,M,Aa,show decide ((-1:Int)>=0)=false from rfl,Da,zh,P];rw[zA (Kj.2 (by omega))];have N:w64 (3 - ((partT (m%1000) p).length:Int))=((3 - (partT (m%1000) p).length:Nat):Int):=by rw[Zd (by omega) (by omega)];omega
 rw[N,aa (by omega),Da,zh];simp only;have D:maxLen=9223372036854775807:=rfl;rw[zA (Ga (by grind))];have q:valG 0 (Lib.decDigits (m / 1000)++partT (m%1000) p)*10 ^ (3 - (partT (m%1000) p).length)=m:=by rw[Pw,L,Dr,Ee,K,Nat.mul_assoc,<-Nat.pow_add,show(partT (m%1000) p).length+(3 - (partT (m%1000) p).length)=3 by omega];omega
 have s:valG 0 (Lib.decDigits (m / 1000)++partT (m%1000) p)<=1000000000000:=by have:=Xd (valG 0 (Lib.decDigits (m / 1000)++partT (m%1000) p)) (Yf (n:=3 - (partT (m%1000) p).length) (show 0<10 by omega));omega
 rw[qD (dU (l:=Lib.decDigits (m / 1000)++partT (m%1000) p) (by grind) (by grind) s (fun v i R=> ?_) (fun v=> ?_))]
 ·rw[qD (yY (by omega) (by grind) (fun a b=> ?_)),q]
  ·rw[z];by_cases g:n<0
   ·rw[Ga g,Ea,zh,Zd (by omega) (by omega)];congr 1;omega
   ·rw[aa g,Da,zh];congr 1;omega
  ·simp only
 ·have F:decide ((i:Int)<((Lib.decDigits (m / 1000)++partT (m%1000) p).length:Int))=true:=Ga (by omega);have G:decide ((0:Int)<=(i:Int))=true:=Ga (by omega);simp only[F,G,Ea,Sb,zR,Va,Sa R,Aa]
 ·grind
theorem kT(n:Int)(p:Bool):(n<0/\numT n p=45::Xf n.natAbs p)\/(¬n<0/\numT n p=Xf n.natAbs p):=by
 unfold numT
 grind
theorem iX(m:Nat)(p:Bool): ∃c r,Xf m p=c::r/\digB c=true:=by obtain⟨c,r,h,a⟩:=Js (m / 1000);exact⟨c,r++Nj (m%1000) p,by unfold Xf;rw[h];rfl,a⟩
theorem cu{n:Int}(b: -1000000000000<=n)(h2:n<=1000000000000)(p:Bool):(numT n p).length<=25/\1<=(numT n p).length:=by
 have:=Dx (m:=n.natAbs) (by omega) p;obtain⟨c,r,a,_⟩:=iX n.natAbs p;rcases kT n p with⟨_,h⟩|⟨_,h⟩
 ·grind
 grind
theorem ZJ{n:Nat}(h:n<256):qf ((n:Nat):Int)=some (UInt8.ofNat n):=by
 unfold qf
 grind
theorem RB(n k:Nat)(a:k<=32):Pg .i32 (n:Int) (k:Int)=((n / 2 ^ k:Nat):Int):=by
 unfold Pg;rw[show(min ((k:Int).toNat) IntKind.i32.bits)=k by show min k 32=k;omega]
 grind
theorem shr6(n:Nat):Pg .i32 (n:Int) 6=((n / 64:Nat):Int):=RB n 6 (by omega)
theorem JG(n:Nat):Pg .i32 (n:Int) 12=((n / 4096:Nat):Int):=RB n 12 (by omega)
theorem IG(n:Nat):Pg .i32 (n:Int) 18=((n / 262144:Nat):Int):=RB n 18 (by omega)
theorem YQ(n:Int):IntKind.u8.wrap n=n%256:=by simp[IntKind.wrap,IntKind.bits,IntKind.signed]
theorem PR(n:Int):IntKind.u32.wrap n=n%4294967296:=by simp[IntKind.wrap,IntKind.bits,IntKind.signed]
theorem Dk{n:Nat}(h:n<2147483648):w32 (n:Int)=(n:Int):=by show IntKind.i32.wrap _=_;simp only[IntKind.wrap,IntKind.bits,IntKind.signed];simp;omega
theorem CJ{n:Nat}(h:n<2147483648):wu32 (n:Int)=(n:Int):=by show IntKind.u32.wrap _=_;rw[PR];omega
theorem Cr(n:Nat):wu8 (n:Int)=((n%256:Nat):Int):=by show IntKind.u8.wrap (n:Int)=_;rw[YQ];omega
theorem TK(n:Nat):ibOr .u8 128 (xg .u8 (wu8 (n:Int)) 63)=((128+n%64:Nat):Int):=by
 have: ∀m:Nat,m<256->ibOr .u8 128 (xg .u8 ((m:Nat):Int) 63)=((128+m%64:Nat):Int):=by decide+kernel
 rw[Cr,this _ (Nat.mod_lt _ (by omega)),show n%256%64=n%64 by omega]
theorem pF{n:Nat}(h:n<32):ibOr .u8 192 (wu8 (n:Int))=((192+n:Nat):Int):=by
 have: ∀m:Nat,m<32->ibOr .u8 192 (wu8 ((m:Nat):Int))=((192+m:Nat):Int):=by decide+kernel
 exact this n h
theorem Xu{n:Nat}(h:n<16):ibOr .u8 224 (wu8 (n:Int))=((224+n:Nat):Int):=by
 have: ∀m:Nat,m<16->ibOr .u8 224 (wu8 ((m:Nat):Int))=((224+m:Nat):Int):=by decide+kernel
 exact this n h
theorem TG{n:Nat}(h:n<8):ibOr .u8 240 (wu8 (n:Int))=((240+n:Nat):Int):=by
 have: ∀m:Nat,m<8->ibOr .u8 240 (wu8 ((m:Nat):Int))=((240+m:Nat):Int):=by decide+kernel
 exact this n h
theorem Fg{n m:Nat}(h:n+m<=2000000000):zD n m 1=true:=by unfold zD;grind
theorem LG{n:Nat}(o:n≠0)(h:n<16777216){l:Str}(m:l.length<=1000000000):Zx (w32 (n:Int),l)=some (l++Cg n):=by
 have j:zD l.length 1 1=true:=Fg (by omega);have f:zD l.length 2 1=true:=Fg (by omega);have d:zD l.length 3 1=true:=Fg (by omega);have g:zD l.length 4 1=true:=Fg (by omega);have c:(128+n%64)<256:=by omega
 have a:(128+n / 64%64)<256:=by omega
 have b:(128+n / 4096%64)<256:=by omega
 unfold Zx qc Cg;simp only[Dk (show n<2147483648 by omega),CJ (show n<2147483648 by omega),zg,shr6,JG,IG,TK,ZJ c,ZJ a,ZJ b,Aa];by_cases e:n<128
 ·rw[Ga (by omega),Ea,Cr,ZJ (by omega),Aa,zA j,Fa (by omega),Ia e,Tf (by omega)]
 ·rw[aa (by omega),Da];by_cases i:n<2048
  ·rw[Ga (by omega),Ea,pF (by omega),ZJ (by omega)];simp only[Aa];rw[zA f,Fa (by omega),Fa (by omega),Ia i];rfl
  ·rw[aa (by omega),Da];by_cases p:n<55296
   ·rw[Ga (by omega),Ea,zh];simp only[Ea];rw[Xu (by omega),ZJ (by omega)];simp only[Aa];rw[zA d,Fa (by omega),Fa (by omega),Fa (by omega),Ia (by omega)];rfl
   ·rw[aa (by omega),Da,zh];simp only[MH];by_cases k:57343<n/\n<65536
    ·rw[Ga (by omega),Ga (by omega),Sb,Ea,Xu (by omega),ZJ (by omega)];simp only[Aa];rw[zA d,Fa (by omega),Fa (by omega),Fa (by omega),Ia (by omega)];rfl
    ·rw[show(decide ((57343:Int)<(n:Int))&&decide ((n:Int)<=65535))=false by grind,Da];by_cases q:65535<n/\n<=1114111
     ·rw[Ga (by omega),Ga (by omega),Sb,Ea,TG (by omega),ZJ (by omega)];simp only[Aa];rw[zA g,Fa (by omega),Fa (by omega),Fa (by omega),Fa (by omega)];rfl
     ·rw[show(decide ((n:Int)>65535)&&decide ((n:Int)<=1114111))=false by grind,Da,zA d,Ia (by omega)];rfl
theorem uK{l:Str}(a:l.length<=1000000000):Zx (65533,l)=some (l++Rj):=by have h:=LG (n:=65533) (by omega) (by omega) a;rw[Dk (by omega)]at h;exact h
theorem ah{s:Str}{c:UInt8}{l:Str}(h:c::l<:+s):l<:+s:=(Td c l).trans h
theorem kg{s:Str}{c:UInt8}{l:Str}(d:s.length<=big)(h:c::l<:+s):w64 ((beh s (c::l):Int)+1)=(beh s l:Int):=by
 have b:big=4194304:=rfl;have a:=h.length_le;rw[Ka]at a;have e:beh s (c::l)+1=beh s l:=by unfold beh;rw[Ka];omega
 have:=ji s l;rw[Zd (by omega) (by omega)];omega
theorem Ul(c:UInt8)(l:Str):pk (c::l) 0=(c.toNat:Int):=rfl
theorem Us(c:UInt8):qf (wu8 ((c.toNat:Nat):Int))=some c:=by rw[Cr,Tf (Bb c),ZJ (Bb c),Md]
theorem Hw{b:UInt8}(h:qY b=true):hexN b<16:=Ec h
theorem TH{n d:Nat}(hn:n<16777216)(hd:d<16):ibOr .i64 (ik .i64 (n:Int) 4) (d:Int)=((16*n+d:Nat):Int):=by
 have h1:ik .i64 (n:Int) 4=((16*n:Nat):Int):=by unfold ik;rw[show(2:Int) ^ (min (4:Int).toNat IntKind.i64.bits)=16 from rfl];rw[Qg (by omega) (by omega)];omega
 rw[h1];unfold ibOr;have e:(BitVec.ofInt IntKind.i64.bits ((16*n:Nat):Int) ||| BitVec.ofInt IntKind.i64.bits (d:Int)).toNat=16*n+d:=by
  rw[BitVec.toNat_or,BitVec.toNat_ofInt,BitVec.toNat_ofInt];rw[show((((16*n:Nat):Int)%((2 ^ IntKind.i64.bits:Nat):Int)).toNat)=16*n by show(((16*n:Nat):Int)%18446744073709551616).toNat=_;omega,
   show(((d:Int)%((2 ^ IntKind.i64.bits:Nat):Int)).toNat)=d by show((d:Int)%18446744073709551616).toNat=_;omega]
  have:=Nat.two_pow_add_eq_or_of_lt (i:=4) (b:=d) hd n;rw[show 2 ^ 4*n=16*n from rfl]at this;exact this.symm
 rw[e,Qg (by omega) (by omega)]
theorem ww(b:UInt8):decide (hexI b<0)= !qY b:=by
 unfold hexI
 grind
theorem EB: ∀(k n:Nat) (l:Str),qY (atS l 0)=false->hexes k n l=(n,l)
 |0,_,_,_=>rfl
 |_+1,_,[],_=>rfl
 |k+1,n,c::r,h=>by unfold hexes;rw[Fa (by rw[show qY c=false from h];decide)]
theorem kJ {R:Type} {step:(Int×Int)×za->Option (LO ((Int×Int)×za) (Int×za) R)} {s l:Str} (j:l<:+s)
  (h: ∀(n i:Nat) (q:Str),q<:+s->n<16777216->i<=6->step (((n:Int),(i:Int)),sr s q)=some (bif decide (i<6)&&qY (atS q 0)then .again ((((16*n+hexN (atS q 0):Nat):Int),((i+1:Nat):Int)),sr s (q.drop 1))else .out ((n:Int),sr s q))):
  Dg step ((0,0),sr s l)=some (.out (((hexes 6 0 l).1:Int),sr s (hexes 6 0 l).2)):=by
 refine ZT (fun z=> ∃(n i:Nat) (q:Str),z=(((n:Int),(i:Int)),sr s q)/\q<:+s/\i<=6/\n<16 ^ i/\hexes (6 - i) n q=hexes 6 0 l) (fun z=>6 - z.1.2.toNat) _ ?_ ⟨0,0,l,rfl,j,by omega,by decide,rfl⟩;rintro _ ⟨n,i,q,rfl,g,f,k,d⟩;have e:n<16777216:=Cc k (Nat.pow_le_pow_right (by omega) f:16 ^ i<=16 ^ 6);rw[h n i q g e f];rcases Yc i 6 with b|m
 ·rw[Ga b,Ab];cases a:qY (atS q 0)with
  |true=>
   cases q with
   |nil=>exact absurd a (by decide)
   |cons c r=>
    have o:=Hw a;refine .inl ⟨_,rfl,⟨16*n+hexN (atS (c::r) 0),i+1,r,rfl,ah g,by omega,?_,?_⟩,by grind⟩
    ·grind
    ·rw[<-d,show 6 - i=(6 - (i+1))+1 by omega];rw[hexes.eq_def ((6 - (i+1))+1) n (c::r)];simp only;rw[Ia (show qY c=true from a)];rfl
  |false=> refine .inr (.inl ⟨_,rfl,?_⟩);rw[<-d,EB _ _ _ a]
 ·rw[aa (by omega),Nb];refine .inr (.inl ⟨_,rfl,?_⟩);rw[<-d,show 6 - i=0 by omega];rfl
theorem vC: ∀(k n:Nat) (l:Str),(hexes k n l).1<16 ^ k*(n+1)
 |0,n,l=>by unfold hexes;omega
 |k+1,n,[]=>by have:0<16 ^ (k+1):=Yf (by omega);unfold hexes;exact Cc (Nat.lt_succ_self n) (Nat.le_mul_of_pos_left _ this)
 |k+1,n,c::r=>by
  unfold hexes;cases hx:qY c with
  |true=> rw[Ia rfl];have h1:=vC k (16*n+hexN c) r;have:=Hw hx;refine Cc h1 ?_;rw[Nat.pow_succ,Nat.mul_assoc];exact Nat.mul_le_mul_left _ (by omega)
  |false=> rw[Fa (by decide)];have:0<16 ^ (k+1):=Yf (by omega);exact Cc (Nat.lt_succ_self n) (Nat.le_mul_of_pos_left _ this)
theorem TD{s l acc:Str}{c:UInt8}(hs:s.length<=big)(hr:c::l<:+s)(ha:acc.length<=1000000000):
  zL (sr s (c::l),acc)=some (sr s (zo l).2,acc++(zo l).1):=by
 have hl:=ah hr;unfold zL;simp only[kg hs hr,zg,Ig hs hl,Aa,Il];cases l with
 |nil=> rw[show([]:Str).isEmpty=true from rfl,Ea,uK ha];rfl
 |cons d r=>
  rw[show(d::r).isEmpty=false from rfl,Da,Ou];simp only[Aa,ww];cases hx:qY (atS (d::r) 0)with
  |false=>
   rw[Xa,Ea,Ul,Us];simp only[Aa,kg hs hl];rw[zA (Fg (by omega))];have:zo (d::r)=([d],r):=by show(if qY d then _ else _)=_;rw[Fa (by rw[show qY d=false from hx];decide)]
   rw[this]
  |true=>
   rw[Ib,Da];have he:zo (d::r)=(Cg (hexes 6 0 (d::r)).1,unsp (hexes 6 0 (d::r)).2):=by show(if qY d then _ else _)=_;rw[Ia (show qY d=true from hx)]
   rw[he];rw[qD (kJ (l:=d::r) hl (fun n i q hq hn hi=> ?_))]
   ·have hq:(hexes 6 0 (d::r)).2<:+s:=(Et 6 0 _).trans hl;have hlt:=vC 6 0 (d::r);rw[show 16 ^ 6*(0+1)=16777216 from rfl]at hlt;simp only[Ig hs hq,Aa,Hr];have hj:(bif spB (atS (hexes 6 0 (d::r)).2 0)then some (LX.out (((hexes 6 0 (d::r)).1:Int),(⟨s,w64 ((beh s (hexes 6 0 (d::r)).2:Int)+1)⟩:za),acc))else some (LX.out (((hexes 6 0 (d::r)).1:Int),sr s (hexes 6 0 (d::r)).2,acc)):Option (LX (Int×za×List UInt8) (za×List UInt8)))
      =some (LX.out (((hexes 6 0 (d::r)).1:Int),sr s (unsp (hexes 6 0 (d::r)).2),acc)):=by
     cases hh:(hexes 6 0 (d::r)).2 with
     |nil=>rfl
     |cons e t=>
      rw[hh]at hq;rw[show atS (e::t) 0=e from rfl,kg hs hq];show _=some (LX.out (_,sr s (if spB e then t else e::t),acc))
      grind
    rw[hj,zh];simp only;by_cases h0:(hexes 6 0 (d::r)).1=0
    ·rw[h0,show((((0:Nat):Int))==0)=true from rfl,Ea,zh];simp only[Dk (show 65533<2147483648 by omega),show w32 (65533:Int)=65533 from Dk (n:=65533) (by omega),uK ha,Aa];rfl
    ·rw[show(((hexes 6 0 (d::r)).1:Int)==0)=false by grind,Da,zh];simp only[LG h0 hlt ha,Aa]
   ·simp only[Ig hs hq,Aa,Ou,ww];have hb6:decide ((i:Int)<6)=decide (i<6):=by rw[decide_eq_decide];omega
    rw[hb6];cases decide (i<6)with
    |false=>rfl
    |true=>
     rw[Ea,Ab];cases hx2:qY (atS q 0)with
     |false=>rfl
     |true=>
      cases q with
      |nil=>exact absurd hx2 (by decide)
      |cons e t=>
       have hI:hexI (atS (e::t) 0)=(hexN (atS (e::t) 0):Int):=by unfold hexI;rw[Ia hx2]
       rw[hI,TH hn (Hw hx2),kg hs hq,Zd (by omega) (by omega)];rfl
theorem CS{s r:Str}{k:Nat}(b:s.length<=big)(c:r<:+s)(d:k<=4):zq ((k:Int),sr s r)=some (escS (r.drop k)&&decide (k<r.length)):=by
 unfold zq;simp only[zg,vk b c (show k<=8 by omega),Aa,OG];rw[show w64 ((k:Int)+1)=((k+1:Nat):Int) by rw[Zd (by omega) (by omega)];omega,vk b c (by omega)];unfold escS;rw[Ql,Ql,ic];cases h:(atS r k==92)with
 |false=>simp_all
 |true=> have a:k<r.length:=Tq (by grind);rw[Ga a];simp only[zx,Ea,Aa,Ab,Sb];unfold bne;rw[Pz]
theorem JS{l:Str}(h:escS l=true):0<l.length:=by unfold escS at h;rw[Ca]at h;exact Tq (by grind)
theorem yw{s r:Str}{k:Nat}(hs:s.length<=big)(hr:r<:+s)(hk:k<=4):zq ((k:Int),sr s r)=some (escS (r.drop k)):=by
 rw[CS hs hr hk];cases h:escS (r.drop k)with
 |false=>rfl
 |true=> have:=JS h;rw[Pb]at this;rw[Ga (by omega)];rfl
theorem jC{s r:Str}(a:s.length<=big)(b:r<:+s):zq (0,sr s r)=some (escS r):=yw (k:=0) a b (by omega)
theorem Jz{s r:Str}{k:Nat}(a:s.length<=big)(b:r<:+s)(d:k<=2):zy ((k:Int),sr s r)=some (nmS (r.drop k)):=by
 unfold zy;have c:w64 ((k:Int)+1)=((k+1:Nat):Int):=by rw[Zd (by omega) (by omega)];omega
 simp only[c,zg,vk a b (show k<=8 by omega),vk a b (show k+1<=8 by omega),Aa,jQ,yw a b (show k<=4 by omega),yw a b (show k+1<=4 by omega)];unfold nmS;rw[Ql,Ql,Ve];unfold bne;rw[Bq,ic];cases atS r k==45 with
 |true=>
  simp only[Ib,Da,jd];cases fstB (atS r (k+1))with
  |true=>rfl
  |false=>
   simp only[Xa,zx,Ea,Da,Aa,Bq]
   grind
 |false=> simp only[Xa,Ea];cases fstB (atS r k)<;>cases escS (r.drop k)<;>rfl
theorem YT(n:Nat):(Cg n).length<=4:=by
 unfold Cg Rj
 grind
theorem Jt(l:Str):(zo l).1.length<=4:=by
 cases l with
 |nil=>show Rj.length<=4;decide
 |cons c r=>
  show(if qY c then(Cg (hexes 6 0 (c::r)).1,unsp (hexes 6 0 (c::r)).2)else([c],r)).1.length<=4;split
  ·exact YT _
  grind
theorem zP(c:UInt8)(r:Str):zm (c::r)=if letB c then((c::(zm r).1),(zm r).2)
  else if escS (c::r)then((zo r).1++(zm (zo r).2).1,(zm (zo r).2).2)
  else([],c::r):=by rw[zm]
theorem qA:zm []=([],[]):=by rw[zm]
theorem OQ(l:Str):(pk l 0 != -1)= !l.isEmpty:=by unfold bne;rw[Il]
theorem Iu{s r:Str}(i:s.length<=big)(k:r<:+s):zM (sr s r)=some ((zm r).1,sr s (zm r).2):=by
 have m:big=4194304:=rfl;unfold zM;refine JD (r:=((zm r).1,sr s (zm r).2)) ?_;refine ZT (fun z=> ∃(q a:Str),z=(sr s q,a)/\q<:+s/\a.length+4*q.length<=4*s.length/\a++(zm q).1=(zm r).1/\(zm q).2=(zm r).2) (fun z=>s.length - z.1.at_.toNat) _ ?_ ⟨r,[],rfl,k,by grind,rfl,rfl⟩;rintro _ ⟨q,a,rfl,f,j,d,b⟩;simp only[zg,Ig i f,Aa,NJ];cases q with
 |nil=>
  refine .inr (.inr ⟨_,rfl,?_⟩);rw[qA]at d b
  grind
 |cons c t=>
  have g:=f.length_le;rw[Ka]at g j;rw[show atS (c::t) 0=c from rfl];rw[zP]at d b;cases e:letB c with
  |true=>
   rw[e,Ia rfl]at d b;refine .inl ⟨(sr s t,a++[c]),?_,⟨t,a++[c],rfl,ah f,by grind,by grind,b⟩,?_⟩
   ·rw[Ea,Ul,Us];simp only[Aa];rw[zA (Fg (by omega)),kg i f]
   ·show s.length - beh s t<s.length - beh s (c::t);unfold beh;grind
  |false=>
   rw[e,Fa (by decide)]at d b;rw[Da,OQ,show(c::t).isEmpty=false from rfl,jC i f];cases h:escS (c::t)with
   |true=>
    rw[h,Ia rfl]at d b;have l:=Jt t;have n:=zX t;refine .inl ⟨(sr s (zo t).2,a++(zo t).1),?_,⟨_,_,rfl,(Z0 t).trans (ah f),by grind,by grind,b⟩,?_⟩
    ·simp only[Xa,zx,Ea,Aa,TD i f (show a.length<=1000000000 by omega)]
    ·show s.length - beh s (zo t).2<s.length - beh s (c::t);unfold beh;grind
   |false=> simp_all
theorem Gj(l:Str):(zm l).2<:+l:=by
 match l with
 |[]=>rw[qA];grind
 |c::r=>
  rw[zP];split
  ·exact(Gj r).trans (Td c r)
  ·split
   ·have:=zX r;exact(Gj (zo r).2).trans ((Z0 r).trans (Td c r))
   grind
termination_by l.length
decreasing_by
 all_goals grind
end Go.Lv.VT
