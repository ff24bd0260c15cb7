/- Tokens that can be written: the program's check. -/
import Derived.Test.YtbamonbfpghnhaaGreatDoorLaw
set_option linter.unusedSimpArgs false
set_option linter.unusedVariables false
namespace Go.Lv.VT
theorem zBO(g d:Bool)(b c:UInt8):(bif g then namN (bif g then b else c).toNat else d)=bif g then namN b.toNat else d:=by cases g<;>rfl
theorem F7{x:ze}(h1:x.text.length<=big)(h2:x.unit.length<=big):pq x=some (Ng x):=by
 unfold pq;rw[zB (QH.2 (by grind))];simp only[zg,Xr,Aa];have hn:decide (Lib.indexByte (x.text++x.unit) (0:Int).toNat.toUInt8<0)=(Zv x.text&&Zv x.unit):=by rw[zAd,nD,K6,Bool.not_not]
 simp only[hn,xQ,Qc,QK,Aa,ge_iff_le,bne];have hb:=tV x.text;unfold Ng rngS;by_cases k9:x.kind=9
 ·simp only[k9,Int.reduceBEq,Ea,Ca,zh,Ke,Ld];cases ht:x.text with
  |nil=>
   have:Zv ([]:Str)=true:=rfl;simp only[this,Cb];cases Zv x.unit<;>rfl
  |cons b r=>
   cases r with
   |nil=>
    have hd:=lW b;have e1:((([b]:Str).length:Int)==1)=true:=rfl;have e2:geti [b] 0=some b:=rfl;have e3:(([b]:Str)==[45])=(b==45):=by show((b==45)&&true)=_;rw[Vb]
    have e4:Zv [b]= !(b==0):=by show((!(b==0))&&true)=_;rw[Vb]
    have e5:delS [b]=Ii b.toNat:=rfl;simp only[e1,e2,e3,e4,e5,Y8,XQ,QK,Aa,zBO,<-hd];cases hu:x.unit with
    |nil=>
     have:Zv ([]:Str)=true:=rfl;simp only[this,Vb];generalize (Pt.any fun c=>c==b)=a1;cases namN b.toNat<;>cases (b==0)<;>cases (b==45)<;>cases a1<;>cases (x.num==0)<;>cases x.flag<;>rfl
    |cons c s=> simp_all
   |cons c r=>
    have e1:(((b::c::r:Str).length:Int)==1)=false:=Ha.2 (by grind);have e3:((b::c::r:Str)==[45])=false:=by show((b==45)&&false)=_;rw[Uc]
    have e5:delS (b::c::r)=false:=rfl;simp only[e1,e3,e5];simp_all
 have b9:=Ha.2 k9;have hu:(x.unit==[])=true->Zv x.unit=true:=fun h=>by rw[Fb]at h;rw[h];rfl
 have htx:(x.text==[])=true->Zv x.text=true:=fun h=>by rw[Fb]at h;rw[h];rfl
 rw[<-hb];generalize hl45:(x.text==[45])=a11 at*;generalize (List.isPrefixOf [45,45] x.text)=a12 at*;generalize numS x.text=a3 at*;generalize Zv x.text=a1 at*;generalize Zv x.unit=a2 at*;generalize (x.text==[])=a4 at*;generalize (x.unit==[])=a5 at*;generalize (x.num==0)=a6 at*;generalize x.flag=a7 at*;generalize decide (-1000000000000<=x.num)=a8 at*;generalize decide (x.num<=1000000000000)=a9 at*;generalize (Int.tmod x.num 1000==0)=a10 at*;clear hb hn hl45;have K: ∀k:Int,k∈[1,2,3,4,5,7,10,11,12]->x.kind=k->True:=fun _ _ _=>trivial;clear K;by_cases k1:x.kind=1
 ·simp only[k1,zh,Ea,Ca,Int.reduceBEq]
  grind
 by_cases k2:x.kind=2
 ·simp only[k2,zh,Ea,Ca,Int.reduceBEq]
  grind
 by_cases k3:x.kind=3
 ·simp only[k3,zh,Ea,Ca,Int.reduceBEq]
  grind
 by_cases k4:x.kind=4
 ·simp only[k4,zh,Ea,Ca,Int.reduceBEq]
  grind
 by_cases k5:x.kind=5
 ·simp only[k5,zh,Ea,Ca,Int.reduceBEq]
  grind
 by_cases k7:x.kind=7
 ·simp only[k7,zh,Ea,Ca,Int.reduceBEq]
  grind
 by_cases k10:x.kind=10
 ·simp only[k10,zh,Ea,Ca,Int.reduceBEq]
  grind
 by_cases k11:x.kind=11
 ·simp only[k11,zh,Ea,Ca,Int.reduceBEq]
  grind
 by_cases k12:x.kind=12
 ·simp only[k12,zh,Ea,Ca,Int.reduceBEq]
  grind
 simp only[b9,Ha.2 k1,Ha.2 k2,Ha.2 k3,Ha.2 k4,Ha.2 k5,Ha.2 k7,Ha.2 k10,Ha.2 k11,Ha.2 k12,zh,Ea,Ca,Bool.or_self];cases decide (13<=x.kind)<;>cases decide (x.kind<=24)<;>cases a4<;>cases a5<;>cases a6<;>cases a7<;>rfl
theorem O3 {R:Type} {step:Int->Option (LO Int Unit R)} {k:Unit->Option R} (n:Nat) (p:Nat->Bool) (r:R)
  (c: ∀(i:Nat),i<n->step (i:Int)=some (bif p i then .again ((i+1:Nat):Int)else .ret r)) (a:step (n:Int)=some (.out ())):
  ZE step 0 k=bif (List.range n).all p then k ()else some r:=by
 have e:=tZ (k:=k) (List.range n) (fun i=>bif p i then none else some r) () (fun i b=> ?_) (by simpa using a)
 ·rw[e,CL]
  grind
 grind
def Cs:List ze->Bool
 |[]=>false
 |s::r=>bif s.kind==13 then(match r with|u::_=>u.kind==5|[]=>false)else s.kind==5
def Lj:List ze->Bool
 |[]=>false
 |s::_=>s.kind==13
def ig(t:ze):Bool:=t.kind==2&&lowS t.text==[117,114,108]
def okAt:List ze->Bool
 |[]=>true
 |t::r=>(!(t.kind==9&&t.text==[92])||Lj r)&&(!(ig t)||Cs r)
def Us(l:List ze)(i:Nat):Bool:=Ng (l.getD i default)&&okAt (l.drop i)
def gluS(l:List ze):Int:=bif decide (l.length<=1500)then(bif (List.range l.length).all (Us l)then 0 else 8)else 4
theorem Wq(l:List ze)(i:Nat)(k:Int):Zu (((i:Int),k),l)=some (match l[i]? with|some t=>t.kind==k|none=>false):=by
 unfold Zu;by_cases h:i<l.length
 ·simp only[Qx h,zQ,Z8 h,zg,Aa,Ea,Sa h]
 ·have e:decide ((i:Int)<(l.length:Int))=false:=Ya (by omega);simp only[e,Zt,zg,Aa,Ca,List.getElem?_eq_none (Nat.le_of_not_lt h)]
theorem Ky:lowS [117,114,108]=[117,114,108]:=by decide
theorem I7{t:ze}{r:List ze}(h:t.text.length<=big): ∃n:Int,qW (t::r)=some n/\(n==0)= !okAt (t::r):=by
 have e0:geti (t::r) 0=some t:=rfl;have p1:=Wq (t::r) 1 13;have p15:=Wq (t::r) 1 5;have p25:=Wq (t::r) 2 5;unfold qW;simp only[e0,zg,Aa,yz h (show([117,114,108]:Str).length<=big by decide),Ky,QK];simp only[Int.natCast_one]at p1 p15;replace p25:Zu ((2,5),t::r)=_:=p25;rw[p1];unfold okAt ig;cases hd:(t.kind==9&&t.text==[92])with
 |true=>
  have hk:t.kind=9:=by rw[Da,Fb]at hd;exact hd.1
  have ht:(t.text==[92])=true:=by rw[Da]at hd;exact hd.2
  simp only[hk,ht,Int.reduceBEq,Ea,Ca,Aa];cases r with
  |nil=>exact⟨_,rfl,rfl⟩
  |cons s r=>
   show∃n:Int,(bif !(s.kind==13)then some 0 else some 2)=some n/\(n==0)= !((!true||s.kind==13)&&_);cases s.kind==13
   ·simp_all
   simp_all
 |false=>
  have hc:(bif t.kind==9 then t.text==[92]else false)=false:=by
   cases h9:t.kind==9
   ·rfl
   ·grind
  simp only[hc,hd,Ca,ja,Je,Cb];cases hu:(t.kind==2&&lowS t.text==[117,114,108])with
  |false=>
   have:(bif t.kind==2 then bif t.kind==2 then lowS t.text==[117,114,108]else default else false)=false:=by
    cases h2:t.kind==2
    ·rfl
    ·grind
   rw[this]
   grind
  |true=>
   rw[Da]at hu;rw[hu.1,hu.2];simp only[Ea,Aa];cases r with
   |nil=>exact⟨0,by simp[p15],rfl⟩
   |cons s r=>
    cases hs:s.kind==13 with
    |false=>
     have e1:(match(t::s::r)[1]? with|some t=>t.kind==13|none=>false)=false:=hs;have e5:Zu ((1,5),t::s::r)=some (s.kind==5):=p15;simp only[e1,Ca,zh,e5,Aa,Cs,hs];cases s.kind==5
     ·grind
     ·exact⟨2,by rfl,rfl⟩
    |true=>
     have e1:(match(t::s::r)[1]? with|some t=>t.kind==13|none=>false)=true:=hs;simp only[e1,Ea,zh,p25,Aa,Cs,hs];cases r with
     |nil=>grind
     |cons u r=>
      show∃n:Int,(bif !(u.kind==5)then some 0 else some (w64 (2+1)))=some n/\(n==0)= !(!true||u.kind==5);cases u.kind==5
      ·grind
      ·exact⟨3,rfl,rfl⟩
theorem PZ(l:List ze):decide ((l.length:Int)>1500)= !decide (l.length<=1500):=NI _ 1500
theorem aQ{l:List ze}(h: ∀t∈l,t.text.length<=big/\t.unit.length<=big):QM l=some (gluS l):=by
 unfold QM gluS;rw[PZ];cases e:decide (l.length<=1500)with
 |false=>rfl
 |true=>
  have e:=Ac e;simp only[Lb,Ca,Ea];refine(O3 l.length (Us l) 8 (fun i a=> ?_) ?_).trans ?_
  ·obtain⟨d,j⟩:=h _ (Jc a);have b:l.getD i default=l[i]:=by simp[a]
   have c:=Db a;obtain⟨n,f,k⟩:=I7 (t:=l[i]) (r:=l.drop (i+1)) d;rw[<-c]at f k;have g:decide ((i:Int)<=(l.length:Int))=true:=Ia (by omega);unfold Us;simp only[Qx a,Ea,Z8 a,zg,Aa,F7 d j,GI,g,Cb,Je,zU,Bb,f,QK,qB a (show l.length<=big by unfold big;omega),b]
   grind
  ·grind
  grind
set_option maxRecDepth 100000
def partT(r:Nat)(p:Bool):Str:=bif (dh r).isEmpty then(bif p then [48]else [])else dh r
theorem Uj{r:Nat}(h:r<1000)(p:Bool):(partT r p).all digB=true/\(partT r p).length<=3/\valG 0 (partT r p)*10 ^ (3 - (partT r p).length)=r/\Rk r p=(bif (partT r p).isEmpty then []else 46::partT r p)/\((partT r p).isEmpty=((r==0)&& !p)):=by
 have f:=OE r h;simp only[xw,Da,Eb,Fb]at f;obtain⟨⟨⟨⟨a,b⟩,c⟩,d⟩,e⟩:=f;unfold partT Rk;cases g:(dh r).isEmpty with
 |true=>
  have i:r=0:=by rw[g]at d;exact Fb.1 d.symm
  subst i;cases p<;>refine⟨by decide,by decide,by decide,rfl,rfl⟩
 |false=>
  grind
theorem CK{l:Str}(h:(l.all fun b=>digB b||b==46)=true):ng l=true:=by
 unfold ng;rw[Pb]at h ⊢;intro b hb;have:=h b hb;refine Ia ?_;rw[Kc]at this;rcases this with h1|h1
 ·have:=rq h1;omega
 simp_all
theorem yJ{m:Nat}(p:Bool):((rf m p).all fun b=>digB b||b==46)=true:=by
 obtain⟨d,_,_⟩:=Kq (m / 1000);obtain⟨g,_,_,e,_⟩:=Uj (r:=m%1000) (by omega) p;have f: ∀l:Str,l.all digB=true->(l.all fun b=>digB b||b==46)=true:=by intro l a;rw[Pb]at a ⊢;intro b c;rw[a b c];rfl
 unfold rf
 grind
theorem lu(u:Nat): ∃c r,Lib.decDigits u=c::r/\digB c=true:=by
 obtain⟨b,_,a⟩:=Kq u;cases h:Lib.decDigits u with
 |nil=>exact absurd h a
 |cons c r=>grind
theorem Q4{c:UInt8}(h:digB c=true):c≠45/\c≠43/\c≠46/\c≠0/\List.contains [43,45] c=false:=by
 have: ∀n:Nat,n<256->digB (UInt8.ofNat n)=true->UInt8.ofNat n≠45/\UInt8.ofNat n≠43/\UInt8.ofNat n≠46/\UInt8.ofNat n≠0/\List.contains [43,45] (UInt8.ofNat n)=false:=by decide+kernel
 have:=this c.toNat (Jb c);simp_all
theorem vW{m:Nat}(p:Bool): ∃f,Lib.cut (rf m p) [46]=(Lib.decDigits (m / 1000),partT (m%1000) p,f):=by
 obtain⟨a,_,_⟩:=Kq (m / 1000);obtain⟨_,_,_,b,_⟩:=Uj (r:=m%1000) (by omega) p;unfold rf Lib.cut;rw[EA,b];cases c:(partT (m%1000) p).isEmpty with
 |true=> rw[Ea,Ua,rD _ a,Fa (by decide)];simp_all
 |false=> rw[Ca,TD _ _ a,Ga (by omega)];simp_all
theorem p8{n:Int}(S: -1000000000000<=n)(h2:n<=1000000000000)(p:Bool):Zz (numT n p)=some n:=by
 obtain⟨m,B⟩: ∃m:Nat,n.natAbs=m:=⟨_,rfl⟩;have k:m<=1000000000000:=by omega
 obtain⟨c,r,E,y⟩:=lu (m / 1000);obtain⟨h,C,_,_,t⟩:=Q4 y;have d:rf m p=c::(r++Rk (m%1000) p):=by unfold rf;rw[E];rfl
 have A:=Gz k p;obtain⟨f,j⟩:=vW (m:=m) p;obtain⟨X,L,Y⟩:=Kq (m / 1000);obtain⟨T,U,K,V,W⟩:=Uj (r:=m%1000) (by omega) p;have H:=bF (u:=m / 1000) (by omega);have o:short (rf m p)=true:=Ia (by omega);have w:Lib.trimLeftS (rf m p) [43,45]=rf m p:=by rw[d];unfold Lib.trimLeftS;rw[Xd,t];rfl
 have J:Lib.trimLeftS (numT n p) [43,45]=rf m p:=by
  unfold numT;rw[B];by_cases g:n<0
  ·rw[Ga g];show List.dropWhile _ (45::rf m p)=_;simp_all
  ·grind
 have Q: ∃b,geti (numT n p) 0=some b/\(((b.toNat:Int)==45)=decide (n<0)):=by
  unfold numT;rw[B];by_cases g:n<0
  ·rw[Ga g,Ia g];exact⟨45,rfl,rfl⟩
  ·rw[Fa g,Ya g];refine⟨c,by rw[d];rfl,Ha.2 (fun e=>h ?_)⟩;exact Ue.1 (by grind)
 obtain⟨b,x,z⟩:=Q;unfold Zz;simp only[zg,x,Aa];have O:lh (numT n p,[43,45])=some (rf m p):=by unfold lh;rw[zB (show(short ([43,45]:Str)&&ng [43,45])=true by decide)];exact congrArg some J
 have M:QD (rf m p,[101,69])=some (-1):=by unfold QD;rw[zB (by simp only[o,CK (yJ p),Vb,Cb];decide)];exact congrArg some (RD _ (yJ p))
 have P:cutF (rf m p,[46])=some (Lib.decDigits (m / 1000),partT (m%1000) p,f):=by unfold cutF;rw[zB (by exact o)];exact congrArg some j
 simp only[O,M,Aa,show decide ((-1:Int)>=0)=false from rfl,Ca,zh,P];rw[zB (QH.2 (by omega))];have N:w64 (3 - ((partT (m%1000) p).length:Int))=((3 - (partT (m%1000) p).length:Nat):Int):=by rw[Zd (by omega) (by omega)];omega
 rw[N,Ya (by omega),Ca,zh];simp only;have D:maxLen=9223372036854775807:=rfl;rw[zB (Ia (by grind))];have q:valG 0 (Lib.decDigits (m / 1000)++partT (m%1000) p)*10 ^ (3 - (partT (m%1000) p).length)=m:=by rw[Kz,L,Gu,Pe,K,Nat.mul_assoc,<-Nat.pow_add,show(partT (m%1000) p).length+(3 - (partT (m%1000) p).length)=3 by omega];omega
 have s:valG 0 (Lib.decDigits (m / 1000)++partT (m%1000) p)<=1000000000000:=by have:=Ae (valG 0 (Lib.decDigits (m / 1000)++partT (m%1000) p)) (uf (n:=3 - (partT (m%1000) p).length) (show 0<10 by omega));omega
 rw[qM (yU (l:=Lib.decDigits (m / 1000)++partT (m%1000) p) (by grind) (by grind) s (fun v i R=> ?_) (fun v=> ?_))]
 ·rw[qM (X0 (by omega) (by grind) (fun a b=> ?_)),q]
  ·rw[z];by_cases g:n<0
   ·rw[Ia g,Ea,zh,Zd (by omega) (by omega)];congr 1;omega
   ·rw[Ya g,Ca,zh];congr 1;omega
  ·simp only
 ·have F:decide ((i:Int)<((Lib.decDigits (m / 1000)++partT (m%1000) p).length:Int))=true:=Ia (by omega);have G:decide ((0:Int)<=(i:Int))=true:=Ia (by omega);simp only[F,G,Ea,Vb,zU,Bb,Sa R,Aa]
 ·grind
theorem lT(n:Int)(p:Bool):(n<0/\numT n p=45::rf n.natAbs p)\/(¬n<0/\numT n p=rf n.natAbs p):=by
 unfold numT
 grind
theorem kY(m:Nat)(p:Bool): ∃c r,rf m p=c::r/\digB c=true:=by obtain⟨c,r,h,a⟩:=lu (m / 1000);exact⟨c,r++Rk (m%1000) p,by unfold rf;rw[h];rfl,a⟩
theorem Uw{n:Int}(b: -1000000000000<=n)(h2:n<=1000000000000)(p:Bool):(numT n p).length<=25/\1<=(numT n p).length:=by
 have:=Gz (m:=n.natAbs) (by omega) p;obtain⟨c,r,a,_⟩:=kY n.natAbs p;rcases lT n p with⟨_,h⟩|⟨_,h⟩
 ·grind
 grind
theorem ZO{n:Nat}(h:n<256):ql ((n:Nat):Int)=some (UInt8.ofNat n):=by
 unfold ql
 grind
theorem ND(n k:Nat)(a:k<=32):xg .i32 (n:Int) (k:Int)=((n / 2 ^ k:Nat):Int):=by
 unfold xg;rw[show(min ((k:Int).toNat) IntKind.i32.bits)=k by show min k 32=k;omega]
 grind
theorem shr6(n:Nat):xg .i32 (n:Int) 6=((n / 64:Nat):Int):=ND n 6 (by omega)
theorem vR(n:Nat):xg .i32 (n:Int) 12=((n / 4096:Nat):Int):=ND n 12 (by omega)
theorem uR(n:Nat):xg .i32 (n:Int) 18=((n / 262144:Nat):Int):=ND n 18 (by omega)
theorem zCH(n:Int):IntKind.u8.wrap n=n%256:=by simp[IntKind.wrap,IntKind.bits,IntKind.signed]
theorem zA0(n:Int):IntKind.u32.wrap n=n%4294967296:=by simp[IntKind.wrap,IntKind.bits,IntKind.signed]
theorem Ll{n:Nat}(h:n<2147483648):w32 (n:Int)=(n:Int):=by show IntKind.i32.wrap _=_;simp only[IntKind.wrap,IntKind.bits,IntKind.signed];simp;omega
theorem WK{n:Nat}(h:n<2147483648):wu32 (n:Int)=(n:Int):=by show IntKind.u32.wrap _=_;rw[zA0];omega
theorem Fu(n:Nat):wu8 (n:Int)=((n%256:Nat):Int):=by show IntKind.u8.wrap (n:Int)=_;rw[zCH];omega
theorem lK(n:Nat):ibOr .u8 128 (Wh .u8 (wu8 (n:Int)) 63)=((128+n%64:Nat):Int):=by
 have: ∀m:Nat,m<256->ibOr .u8 128 (Wh .u8 ((m:Nat):Int) 63)=((128+m%64:Nat):Int):=by decide+kernel
 rw[Fu,this _ (Nat.mod_lt _ (by omega)),show n%256%64=n%64 by omega]
theorem yS{n:Nat}(h:n<32):ibOr .u8 192 (wu8 (n:Int))=((192+n:Nat):Int):=by
 have: ∀m:Nat,m<32->ibOr .u8 192 (wu8 ((m:Nat):Int))=((192+m:Nat):Int):=by decide+kernel
 exact this n h
theorem Mw{n:Nat}(h:n<16):ibOr .u8 224 (wu8 (n:Int))=((224+n:Nat):Int):=by
 have: ∀m:Nat,m<16->ibOr .u8 224 (wu8 ((m:Nat):Int))=((224+m:Nat):Int):=by decide+kernel
 exact this n h
theorem xS{n:Nat}(h:n<8):ibOr .u8 240 (wu8 (n:Int))=((240+n:Nat):Int):=by
 have: ∀m:Nat,m<8->ibOr .u8 240 (wu8 ((m:Nat):Int))=((240+m:Nat):Int):=by decide+kernel
 exact this n h
theorem Tg{n m:Nat}(h:n+m<=2000000000):zF n m 1=true:=by unfold zF;grind
theorem yR{n:Nat}(o:n≠0)(h:n<16777216){l:Str}(m:l.length<=1000000000):ZB (w32 (n:Int),l)=some (l++Sg n):=by
 have j:zF l.length 1 1=true:=Tg (by omega);have f:zF l.length 2 1=true:=Tg (by omega);have d:zF l.length 3 1=true:=Tg (by omega);have g:zF l.length 4 1=true:=Tg (by omega);have c:(128+n%64)<256:=by omega
 have a:(128+n / 64%64)<256:=by omega
 have b:(128+n / 4096%64)<256:=by omega
 unfold ZB qh Sg;simp only[Ll (show n<2147483648 by omega),WK (show n<2147483648 by omega),zg,shr6,vR,uR,lK,ZO c,ZO a,ZO b,Aa];by_cases e:n<128
 ·rw[Ia (by omega),Ea,Fu,ZO (by omega),Aa,zB j,Fa (by omega),Ga e,mf (by omega)]
 ·rw[Ya (by omega),Ca];by_cases i:n<2048
  ·rw[Ia (by omega),Ea,yS (by omega),ZO (by omega)];simp only[Aa];rw[zB f,Fa (by omega),Fa (by omega),Ga i];rfl
  ·rw[Ya (by omega),Ca];by_cases p:n<55296
   ·rw[Ia (by omega),Ea,zh];simp only[Ea];rw[Mw (by omega),ZO (by omega)];simp only[Aa];rw[zB d,Fa (by omega),Fa (by omega),Fa (by omega),Ga (by omega)];rfl
   ·rw[Ya (by omega),Ca,zh];simp only[uH];by_cases k:57343<n/\n<65536
    ·rw[Ia (by omega),Ia (by omega),Vb,Ea,Mw (by omega),ZO (by omega)];simp only[Aa];rw[zB d,Fa (by omega),Fa (by omega),Fa (by omega),Ga (by omega)];rfl
    ·rw[show(decide ((57343:Int)<(n:Int))&&decide ((n:Int)<=65535))=false by grind,Ca];by_cases q:65535<n/\n<=1114111
     ·rw[Ia (by omega),Ia (by omega),Vb,Ea,xS (by omega),ZO (by omega)];simp only[Aa];rw[zB g,Fa (by omega),Fa (by omega),Fa (by omega),Fa (by omega)];rfl
     ·rw[show(decide ((n:Int)>65535)&&decide ((n:Int)<=1114111))=false by grind,Ca,zB d,Ga (by omega)];rfl
theorem NN{l:Str}(a:l.length<=1000000000):ZB (65533,l)=some (l++Vk):=by have h:=yR (n:=65533) (by omega) (by omega) a;rw[Ll (by omega)]at h;exact h
theorem Li{s:Str}{c:UInt8}{l:Str}(h:c::l<:+s):l<:+s:=(Ud c l).trans h
theorem Gh{s:Str}{c:UInt8}{l:Str}(d:s.length<=big)(h:c::l<:+s):w64 ((beh s (c::l):Int)+1)=(beh s l:Int):=by
 have b:big=4194304:=rfl;have a:=h.length_le;rw[Ka]at a;have e:beh s (c::l)+1=beh s l:=by unfold beh;rw[Ka];omega
 have:=Pj s l;rw[Zd (by omega) (by omega)];omega
theorem Gn(c:UInt8)(l:Str):pk (c::l) 0=(c.toNat:Int):=rfl
theorem pu(c:UInt8):ql (wu8 ((c.toNat:Nat):Int))=some c:=by rw[Fu,mf (Jb c),ZO (Jb c),Pd]
theorem dx{b:UInt8}(h:Qg b=true):hexN b<16:=Ac h
theorem jI{n d:Nat}(hn:n<16777216)(hd:d<16):ibOr .i64 (Om .i64 (n:Int) 4) (d:Int)=((16*n+d:Nat):Int):=by
 have h1:Om .i64 (n:Int) 4=((16*n:Nat):Int):=by unfold Om;rw[show(2:Int) ^ (min (4:Int).toNat IntKind.i64.bits)=16 from rfl];rw[Z0 (by omega) (by omega)];omega
 rw[h1];unfold ibOr;have e:(BitVec.ofInt IntKind.i64.bits ((16*n:Nat):Int) ||| BitVec.ofInt IntKind.i64.bits (d:Int)).toNat=16*n+d:=by
  rw[BitVec.toNat_or,BitVec.toNat_ofInt,BitVec.toNat_ofInt];rw[show((((16*n:Nat):Int)%((2 ^ IntKind.i64.bits:Nat):Int)).toNat)=16*n by show(((16*n:Nat):Int)%18446744073709551616).toNat=_;omega,
   show(((d:Int)%((2 ^ IntKind.i64.bits:Nat):Int)).toNat)=d by show((d:Int)%18446744073709551616).toNat=_;omega]
  have:=Nat.two_pow_add_eq_or_of_lt (i:=4) (b:=d) hd n;rw[show 2 ^ 4*n=16*n from rfl]at this;exact this.symm
 rw[e,Z0 (by omega) (by omega)]
theorem Cz(b:UInt8):decide (hexI b<0)= !Qg b:=by
 unfold hexI
 grind
theorem VD: ∀(k n:Nat) (l:Str),Qg (atS l 0)=false->hexes k n l=(n,l)
 |0,_,_,_=>rfl
 |_+1,_,[],_=>rfl
 |k+1,n,c::r,h=>by unfold hexes;rw[Fa (by rw[show Qg c=false from h];decide)]
theorem OM {R:Type} {step:(Int×Int)×za->Option (LO ((Int×Int)×za) (Int×za) R)} {s l:Str} (j:l<:+s)
  (h: ∀(n i:Nat) (q:Str),q<:+s->n<16777216->i<=6->step (((n:Int),(i:Int)),sr s q)=some (bif decide (i<6)&&Qg (atS q 0)then .again ((((16*n+hexN (atS q 0):Nat):Int),((i+1:Nat):Int)),sr s (q.drop 1))else .out ((n:Int),sr s q))):
  Lg step ((0,0),sr s l)=some (.out (((hexes 6 0 l).1:Int),sr s (hexes 6 0 l).2)):=by
 refine ZV (fun z=> ∃(n i:Nat) (q:Str),z=(((n:Int),(i:Int)),sr s q)/\q<:+s/\i<=6/\n<16 ^ i/\hexes (6 - i) n q=hexes 6 0 l) (fun z=>6 - z.1.2.toNat) _ ?_ ⟨0,0,l,rfl,j,by omega,by decide,rfl⟩;rintro _ ⟨n,i,q,rfl,g,f,k,d⟩;have e:n<16777216:=Cc k (Nat.pow_le_pow_right (by omega) f:16 ^ i<=16 ^ 6);rw[h n i q g e f];rcases Gd i 6 with b|m
 ·rw[Ia b,Cb];cases a:Qg (atS q 0)with
  |true=>
   cases q with
   |nil=>exact absurd a (by decide)
   |cons c r=>
    have o:=dx a;refine .inl ⟨_,rfl,⟨16*n+hexN (atS (c::r) 0),i+1,r,rfl,Li g,by omega,?_,?_⟩,by grind⟩
    ·grind
    ·rw[<-d,show 6 - i=(6 - (i+1))+1 by omega];rw[hexes.eq_def ((6 - (i+1))+1) n (c::r)];simp only;rw[Ga (show Qg c=true from a)];rfl
  |false=> refine .inr (.inl ⟨_,rfl,?_⟩);rw[<-d,VD _ _ _ a]
 ·rw[Ya (by omega),Rb];refine .inr (.inl ⟨_,rfl,?_⟩);rw[<-d,show 6 - i=0 by omega];rfl
theorem KE: ∀(k n:Nat) (l:Str),(hexes k n l).1<16 ^ k*(n+1)
 |0,n,l=>by unfold hexes;omega
 |k+1,n,[]=>by have:0<16 ^ (k+1):=uf (by omega);unfold hexes;exact Cc (Nat.lt_succ_self n) (Nat.le_mul_of_pos_left _ this)
 |k+1,n,c::r=>by
  unfold hexes;cases hx:Qg c with
  |true=> rw[Ga rfl];have h1:=KE k (16*n+hexN c) r;have:=dx hx;refine Cc h1 ?_;rw[Nat.pow_succ,Nat.mul_assoc];exact Nat.mul_le_mul_left _ (by omega)
  |false=> rw[Fa (by decide)];have:0<16 ^ (k+1):=uf (by omega);exact Cc (Nat.lt_succ_self n) (Nat.le_mul_of_pos_left _ this)
theorem YF{s l acc:Str}{c:UInt8}(hs:s.length<=big)(hr:c::l<:+s)(ha:acc.length<=1000000000):
  zO (sr s (c::l),acc)=some (sr s (zq l).2,acc++(zq l).1):=by
 have hl:=Li hr;unfold zO;simp only[Gh hs hr,zg,jg hs hl,Aa,Tm];cases l with
 |nil=> rw[show([]:Str).isEmpty=true from rfl,Ea,NN ha];rfl
 |cons d r=>
  rw[show(d::r).isEmpty=false from rfl,Ca,Gw];simp only[Aa,Cz];cases hx:Qg (atS (d::r) 0)with
  |false=>
   rw[ja,Ea,Gn,pu];simp only[Aa,Gh hs hl];rw[zB (Tg (by omega))];have:zq (d::r)=([d],r):=by show(if Qg d then _ else _)=_;rw[Fa (by rw[show Qg d=false from hx];decide)]
   rw[this]
  |true=>
   rw[Lb,Ca];have he:zq (d::r)=(Sg (hexes 6 0 (d::r)).1,unsp (hexes 6 0 (d::r)).2):=by show(if Qg d then _ else _)=_;rw[Ga (show Qg d=true from hx)]
   rw[he];rw[qM (OM (l:=d::r) hl (fun n i q hq hn hi=> ?_))]
   ·have hq:(hexes 6 0 (d::r)).2<:+s:=(Ov 6 0 _).trans hl;have hlt:=KE 6 0 (d::r);rw[show 16 ^ 6*(0+1)=16777216 from rfl]at hlt;simp only[jg hs hq,Aa,Eu];have hj:(bif spB (atS (hexes 6 0 (d::r)).2 0)then some (LX.out (((hexes 6 0 (d::r)).1:Int),(⟨s,w64 ((beh s (hexes 6 0 (d::r)).2:Int)+1)⟩:za),acc))else some (LX.out (((hexes 6 0 (d::r)).1:Int),sr s (hexes 6 0 (d::r)).2,acc)):Option (LX (Int×za×List UInt8) (za×List UInt8)))
      =some (LX.out (((hexes 6 0 (d::r)).1:Int),sr s (unsp (hexes 6 0 (d::r)).2),acc)):=by
     cases hh:(hexes 6 0 (d::r)).2 with
     |nil=>rfl
     |cons e t=>
      rw[hh]at hq;rw[show atS (e::t) 0=e from rfl,Gh hs hq];show _=some (LX.out (_,sr s (if spB e then t else e::t),acc))
      grind
    rw[hj,zh];simp only;by_cases h0:(hexes 6 0 (d::r)).1=0
    ·rw[h0,show((((0:Nat):Int))==0)=true from rfl,Ea,zh];simp only[Ll (show 65533<2147483648 by omega),show w32 (65533:Int)=65533 from Ll (n:=65533) (by omega),NN ha,Aa];rfl
    ·rw[show(((hexes 6 0 (d::r)).1:Int)==0)=false by grind,Ca,zh];simp only[yR h0 hlt ha,Aa]
   ·simp only[jg hs hq,Aa,Gw,Cz];have hb6:decide ((i:Int)<6)=decide (i<6):=by rw[decide_eq_decide];omega
    rw[hb6];cases decide (i<6)with
    |false=>rfl
    |true=>
     rw[Ea,Cb];cases hx2:Qg (atS q 0)with
     |false=>rfl
     |true=>
      cases q with
      |nil=>exact absurd hx2 (by decide)
      |cons e t=>
       have hI:hexI (atS (e::t) 0)=(hexN (atS (e::t) 0):Int):=by unfold hexI;rw[Ga hx2]
       rw[hI,jI hn (dx hx2),Gh hs hq,Zd (by omega) (by omega)];rfl
theorem GU{s r:Str}{k:Nat}(b:s.length<=big)(c:r<:+s)(d:k<=4):zt ((k:Int),sr s r)=some (escS (r.drop k)&&decide (k<r.length)):=by
 unfold zt;simp only[zg,Cm b c (show k<=8 by omega),Aa,JS];rw[show w64 ((k:Int)+1)=((k+1:Nat):Int) by rw[Zd (by omega) (by omega)];omega,Cm b c (by omega)];unfold escS;rw[Qu,Qu,xc];cases h:(atS r k==92)with
 |false=>simp_all
 |true=> have a:k<r.length:=Dt (by grind);rw[Ia a];simp only[zA,Ea,Aa,Cb,Vb];unfold bne;rw[SH]
theorem IU{l:Str}(h:escS l=true):0<l.length:=by unfold escS at h;rw[Da]at h;exact Dt (by grind)
theorem Ez{s r:Str}{k:Nat}(hs:s.length<=big)(hr:r<:+s)(hk:k<=4):zt ((k:Int),sr s r)=some (escS (r.drop k)):=by
 rw[GU hs hr hk];cases h:escS (r.drop k)with
 |false=>rfl
 |true=> have:=IU h;rw[Ub]at this;rw[Ia (by omega)];rfl
theorem PE{s r:Str}(a:s.length<=big)(b:r<:+s):zt (0,sr s r)=some (escS r):=Ez (k:=0) a b (by omega)
theorem aH{s r:Str}{k:Nat}(a:s.length<=big)(b:r<:+s)(d:k<=2):zy ((k:Int),sr s r)=some (nmS (r.drop k)):=by
 unfold zy;have c:w64 ((k:Int)+1)=((k+1:Nat):Int):=by rw[Zd (by omega) (by omega)];omega
 simp only[c,zg,Cm a b (show k<=8 by omega),Cm a b (show k+1<=8 by omega),Aa,zAQ,Ez a b (show k<=4 by omega),Ez a b (show k+1<=4 by omega)];unfold nmS;rw[Qu,Qu,Te];unfold bne;rw[Js,xc];cases atS r k==45 with
 |true=>
  simp only[Lb,Ca,Ce];cases fstB (atS r (k+1))with
  |true=>rfl
  |false=>
   simp only[ja,zA,Ea,Ca,Aa,Js]
   grind
 |false=> simp only[ja,Ea];cases fstB (atS r k)<;>cases escS (r.drop k)<;>rfl
theorem jU(n:Nat):(Sg n).length<=4:=by
 unfold Sg Vk
 grind
theorem Dv(l:Str):(zq l).1.length<=4:=by
 cases l with
 |nil=>show Vk.length<=4;decide
 |cons c r=>
  show(if Qg c then(Sg (hexes 6 0 (c::r)).1,unsp (hexes 6 0 (c::r)).2)else([c],r)).1.length<=4;split
  ·exact jU _
  grind
theorem zN(c:UInt8)(r:Str):zm (c::r)=if letB c then((c::(zm r).1),(zm r).2)
  else if escS (c::r)then((zq r).1++(zm (zq r).2).1,(zm (zq r).2).2)
  else([],c::r):=by rw[zm]
theorem qH:zm []=([],[]):=by rw[zm]
theorem zCg(l:Str):(pk l 0 != -1)= !l.isEmpty:=by unfold bne;rw[Tm]
theorem Ew{s r:Str}(i:s.length<=big)(k:r<:+s):zP (sr s r)=some ((zm r).1,sr s (zm r).2):=by
 have m:big=4194304:=rfl;unfold zP;refine kF (r:=((zm r).1,sr s (zm r).2)) ?_;refine ZV (fun z=> ∃(q a:Str),z=(sr s q,a)/\q<:+s/\a.length+4*q.length<=4*s.length/\a++(zm q).1=(zm r).1/\(zm q).2=(zm r).2) (fun z=>s.length - z.1.at_.toNat) _ ?_ ⟨r,[],rfl,k,by grind,rfl,rfl⟩;rintro _ ⟨q,a,rfl,f,j,d,b⟩;simp only[zg,jg i f,Aa,uL];cases q with
 |nil=>
  refine .inr (.inr ⟨_,rfl,?_⟩);rw[qH]at d b
  grind
 |cons c t=>
  have g:=f.length_le;rw[Ka]at g j;rw[show atS (c::t) 0=c from rfl];rw[zN]at d b;cases e:letB c with
  |true=>
   rw[e,Ga rfl]at d b;refine .inl ⟨(sr s t,a++[c]),?_,⟨t,a++[c],rfl,Li f,by grind,by grind,b⟩,?_⟩
   ·rw[Ea,Gn,pu];simp only[Aa];rw[zB (Tg (by omega)),Gh i f]
   ·show s.length - beh s t<s.length - beh s (c::t);unfold beh;grind
  |false=>
   rw[e,Fa (by decide)]at d b;rw[Ca,zCg,show(c::t).isEmpty=false from rfl,PE i f];cases h:escS (c::t)with
   |true=>
    rw[h,Ga rfl]at d b;have l:=Dv t;have n:=z8 t;refine .inl ⟨(sr s (zq t).2,a++(zq t).1),?_,⟨_,_,rfl,(Z7 t).trans (Li f),by grind,by grind,b⟩,?_⟩
    ·simp only[ja,zA,Ea,Aa,YF i f (show a.length<=1000000000 by omega)]
    ·show s.length - beh s (zq t).2<s.length - beh s (c::t);unfold beh;grind
   |false=> simp_all
theorem Ik(l:Str):(zm l).2<:+l:=by
 match l with
 |[]=>rw[qH];grind
 |c::r=>
  rw[zN];split
  ·exact(Ik r).trans (Ud c r)
  ·split
   ·have:=z8 r;exact(Ik (zq r).2).trans ((Z7 r).trans (Ud c r))
   grind
termination_by l.length
decreasing_by
 all_goals grind
end Go.Lv.VT
