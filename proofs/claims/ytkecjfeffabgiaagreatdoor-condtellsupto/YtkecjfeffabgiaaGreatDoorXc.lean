/- A number that is written is read as the same: token.Value. -/
import Derived.Test.YtkecjfeffabgiaaGreatDoorXb
set_option linter.unusedSimpArgs false
set_option linter.unusedVariables false
namespace Go.Lv.VT
set_option maxRecDepth 100000
def partT(r:Nat)(p:Bool):Str:=bif (Ii r).isEmpty then(bif p then [48]else [])else Ii r
theorem Tm{r:Nat}(h:r<1000)(p:Bool):(partT r p).all digB=true/\(partT r p).length<=3/\valG 0 (partT r p)*10 ^ (3 - (partT r p).length)=r/\Wi r p=(bif (partT r p).isEmpty then []else 46::partT r p)/\((partT r p).isEmpty=((r==0)&& !p)):=by
 have f:=NE r h;simp only[Gx,Da,Eb,ma]at f;obtain⟨⟨⟨⟨a,b⟩,c⟩,d⟩,e⟩:=f;unfold partT Wi;cases g:(Ii r).isEmpty with
 |true=>
  have i:r=0:=by rw[g]at d;exact ma.1 d.symm
  subst i;cases p<;>refine⟨by decide,by decide,by decide,rfl,rfl⟩
 |false=>
  grind
theorem E9{l:Str}(h:(l.all fun b=>digB b||b==46)=true):dh l=true:=by
 unfold dh;rw[Ab]at h ⊢;intro b hb;have:=h b hb;refine Ga ?_;rw[Sb]at this;rcases this with h1|h1
 ·have:=Br h1;omega
 simp_all
theorem D9{m:Nat}(p:Bool):((Ug m p).all fun b=>digB b||b==46)=true:=by
 obtain⟨d,_,_⟩:=Ku (m / 1000);obtain⟨g,_,_,e,_⟩:=Tm (r:=m%1000) (by omega) p;have f: ∀l:Str,l.all digB=true->(l.all fun b=>digB b||b==46)=true:=by intro l a;rw[Ab]at a ⊢;intro b c;rw[a b c];rfl
 unfold Ug
 grind
theorem Cz(u:Nat): ∃c r,Lib.decDigits u=c::r/\digB c=true:=by
 obtain⟨b,_,a⟩:=Ku u;cases h:Lib.decDigits u with
 |nil=>exact absurd h a
 |cons c r=>grind
theorem Oh{c:UInt8}(h:digB c=true):c≠45/\c≠43/\c≠46/\c≠0/\List.contains [43,45] c=false:=by
 have: ∀n:Nat,n<256->digB (UInt8.ofNat n)=true->UInt8.ofNat n≠45/\UInt8.ofNat n≠43/\UInt8.ofNat n≠46/\UInt8.ofNat n≠0/\List.contains [43,45] (UInt8.ofNat n)=false:=by decide+kernel
 have:=this c.toNat (Ib c);simp_all
theorem zEf{m:Nat}(p:Bool): ∃f,Lib.cut (Ug m p) [46]=(Lib.decDigits (m / 1000),partT (m%1000) p,f):=by
 obtain⟨a,_,_⟩:=Ku (m / 1000);obtain⟨_,_,_,b,_⟩:=Tm (r:=m%1000) (by omega) p;unfold Ug Lib.cut;rw[eF,b];cases c:(partT (m%1000) p).isEmpty with
 |true=> rw[Ca,Db,AJ _ a,Ja (by decide)];simp_all
 |false=> rw[Ba,BJ _ _ a,Ka (by omega)];simp_all
theorem zq8{n:Int}(S: -1000000000000<=n)(h2:n<=1000000000000)(p:Bool):qN (numT n p)=some n:=by
 obtain⟨m,B⟩: ∃m:Nat,n.natAbs=m:=⟨_,rfl⟩;have k:m<=1000000000000:=by omega
 obtain⟨c,r,E,y⟩:=Cz (m / 1000);obtain⟨h,C,_,_,t⟩:=Oh y;have d:Ug m p=c::(r++Wi (m%1000) p):=by unfold Ug;rw[E];rfl
 have A:=Az k p;obtain⟨f,j⟩:=zEf (m:=m) p;obtain⟨X,L,Y⟩:=Ku (m / 1000);obtain⟨T,U,K,V,W⟩:=Tm (r:=m%1000) (by omega) p;have H:=Bn (u:=m / 1000) (by omega);have o:short (Ug m p)=true:=Ga (by omega);have w:Lib.trimLeftS (Ug m p) [43,45]=Ug m p:=by rw[d];unfold Lib.trimLeftS;rw[yc,t];rfl
 have J:Lib.trimLeftS (numT n p) [43,45]=Ug m p:=by
  unfold numT;rw[B];by_cases g:n<0
  ·rw[Ka g];show List.dropWhile _ (45::Ug m p)=_;simp_all
  ·grind
 have Q: ∃b,geti (numT n p) 0=some b/\(((b.toNat:Int)==45)=decide (n<0)):=by
  unfold numT;rw[B];by_cases g:n<0
  ·rw[Ka g,Ga g];exact⟨45,rfl,rfl⟩
  ·rw[Ja g,La g];refine⟨c,by rw[d];rfl,Ia.2 (fun e=>h ?_)⟩;exact Cf.1 (by grind)
 obtain⟨b,x,z⟩:=Q;unfold qN;simp only[za,x,Aa];have O:Pk (numT n p,[43,45])=some (Ug m p):=by unfold Pk;rw[zo (show(short ([43,45]:Str)&&dh [43,45])=true by decide)];exact congrArg some J
 have M:ik (Ug m p,[101,69])=some (-1):=by unfold ik;rw[zo (by simp only[o,E9 (D9 p),Lb,aa];decide)];exact congrArg some (wI _ (D9 p))
 have P:cutF (Ug m p,[46])=some (Lib.decDigits (m / 1000),partT (m%1000) p,f):=by unfold cutF;rw[zo (by exact o)];exact congrArg some j
 simp only[O,M,Aa,show decide ((-1:Int)>=0)=false from rfl,Ba,zk,P];rw[zo (zV.2 (by omega))];have N:w64 (3 - ((partT (m%1000) p).length:Int))=((3 - (partT (m%1000) p).length:Nat):Int):=by rw[zM (by omega) (by omega)];omega
 rw[N,La (by omega),Ba,zk];simp only;have D:maxLen=9223372036854775807:=rfl;rw[zo (Ga (by grind))];have q:valG 0 (Lib.decDigits (m / 1000)++partT (m%1000) p)*10 ^ (3 - (partT (m%1000) p).length)=m:=by rw[FE,L,ax,je,K,og,<-Nat.pow_add,show(partT (m%1000) p).length+(3 - (partT (m%1000) p).length)=3 by omega];omega
 have s:valG 0 (Lib.decDigits (m / 1000)++partT (m%1000) p)<=1000000000000:=by have:=Ie (valG 0 (Lib.decDigits (m / 1000)++partT (m%1000) p)) (jf (n:=3 - (partT (m%1000) p).length) (show 0<10 by omega));omega
 rw[Zk (zFA (l:=Lib.decDigits (m / 1000)++partT (m%1000) p) (by grind) (by grind) s (fun v i R=> ?_) (fun v=> ?_))]
 ·rw[Zk (zAl (by omega) (by grind) (fun a b=> ?_)),q]
  ·rw[z];by_cases g:n<0
   ·rw[Ga g,Ca,zk,zM (by omega) (by omega)];congr 1;omega
   ·rw[La g,Ba,zk];congr 1;omega
  ·simp only
 ·have F:decide ((i:Int)<((Lib.decDigits (m / 1000)++partT (m%1000) p).length:Int))=true:=Ga (by omega);have G:decide ((0:Int)<=(i:Int))=true:=Ga (by omega);simp only[F,G,Ca,Lb,zF,Oa,Xa R,Aa]
 ·grind
theorem zGM(n:Int)(p:Bool):(n<0/\numT n p=45::Ug n.natAbs p)\/(¬n<0/\numT n p=Ug n.natAbs p):=by
 unfold numT
 grind
theorem zAL(m:Nat)(p:Bool): ∃c r,Ug m p=c::r/\digB c=true:=by obtain⟨c,r,h,a⟩:=Cz (m / 1000);exact⟨c,r++Wi (m%1000) p,by unfold Ug;rw[h];rfl,a⟩
theorem Yn{n:Int}(b: -1000000000000<=n)(h2:n<=1000000000000)(p:Bool):(numT n p).length<=25/\1<=(numT n p).length:=by
 have:=Az (m:=n.natAbs) (by omega) p;obtain⟨c,r,a,_⟩:=zAL n.natAbs p;rcases zGM n p with⟨_,h⟩|⟨_,h⟩
 ·grind
 grind
theorem ZJ{n:Nat}(h:n<256):qb ((n:Nat):Int)=some (UInt8.ofNat n):=by
 unfold qb
 grind
theorem WI(n k:Nat)(a:k<=32):oh .i32 (n:Int) (k:Int)=((n / 2 ^ k:Nat):Int):=by
 unfold oh;rw[show(min ((k:Int).toNat) IntKind.i32.bits)=k by show min k 32=k;omega]
 grind
theorem shr6(n:Nat):oh .i32 (n:Int) 6=((n / 64:Nat):Int):=WI n 6 (by omega)
theorem mZ(n:Nat):oh .i32 (n:Int) 12=((n / 4096:Nat):Int):=WI n 12 (by omega)
theorem lZ(n:Nat):oh .i32 (n:Int) 18=((n / 262144:Nat):Int):=WI n 18 (by omega)
theorem zKi(n:Int):IntKind.u8.wrap n=n%256:=by simp[IntKind.wrap,IntKind.bits,IntKind.signed]
theorem zIH(n:Int):IntKind.u32.wrap n=n%4294967296:=by simp[IntKind.wrap,IntKind.bits,IntKind.signed]
theorem Jo{n:Nat}(h:n<2147483648):w32 (n:Int)=(n:Int):=by show IntKind.i32.wrap _=_;simp only[IntKind.wrap,IntKind.bits,IntKind.signed];simp;omega
theorem wP{n:Nat}(h:n<2147483648):wu32 (n:Int)=(n:Int):=by show IntKind.u32.wrap _=_;rw[zIH];omega
theorem Ru(n:Nat):wu8 (n:Int)=((n%256:Nat):Int):=by show IntKind.u8.wrap (n:Int)=_;rw[zKi];omega
theorem fQ(n:Nat):ibOr .u8 128 (Vi .u8 (wu8 (n:Int)) 63)=((128+n%64:Nat):Int):=by
 have: ∀m:Nat,m<256->ibOr .u8 128 (Vi .u8 ((m:Nat):Int) 63)=((128+m%64:Nat):Int):=by decide+kernel
 rw[Ru,this _ (Uf _ (by omega)),show n%256%64=n%64 by omega]
theorem jZ{n:Nat}(h:n<32):ibOr .u8 192 (wu8 (n:Int))=((192+n:Nat):Int):=by
 have: ∀m:Nat,m<32->ibOr .u8 192 (wu8 ((m:Nat):Int))=((192+m:Nat):Int):=by decide+kernel
 exact this n h
theorem YH{n:Nat}(h:n<16):ibOr .u8 224 (wu8 (n:Int))=((224+n:Nat):Int):=by
 have: ∀m:Nat,m<16->ibOr .u8 224 (wu8 ((m:Nat):Int))=((224+m:Nat):Int):=by decide+kernel
 exact this n h
theorem iZ{n:Nat}(h:n<8):ibOr .u8 240 (wu8 (n:Int))=((240+n:Nat):Int):=by
 have: ∀m:Nat,m<8->ibOr .u8 240 (wu8 ((m:Nat):Int))=((240+m:Nat):Int):=by decide+kernel
 exact this n h
theorem Mh{n m:Nat}(h:n+m<=2000000000):Zj n m 1=true:=by unfold Zj;grind
theorem oZ{n:Nat}(o:n≠0)(h:n<16777216){l:Str}(m:l.length<=1000000000):qP (w32 (n:Int),l)=some (l++xg n):=by
 have j:Zj l.length 1 1=true:=Mh (by omega);have f:Zj l.length 2 1=true:=Mh (by omega);have d:Zj l.length 3 1=true:=Mh (by omega);have g:Zj l.length 4 1=true:=Mh (by omega);have c:(128+n%64)<256:=by omega
 have a:(128+n / 64%64)<256:=by omega
 have b:(128+n / 4096%64)<256:=by omega
 unfold qP qX xg;simp only[Jo (show n<2147483648 by omega),wP (show n<2147483648 by omega),za,shr6,mZ,lZ,fQ,ZJ c,ZJ a,ZJ b,Aa];by_cases e:n<128
 ·rw[Ga (by omega),Ca,Ru,ZJ (by omega),Aa,zo j,Ja (by omega),Ka e,ve (by omega)]
 ·rw[La (by omega),Ba];by_cases i:n<2048
  ·rw[Ga (by omega),Ca,jZ (by omega),ZJ (by omega)];simp only[Aa];rw[zo f,Ja (by omega),Ja (by omega),Ka i];rfl
  ·rw[La (by omega),Ba];by_cases p:n<55296
   ·rw[Ga (by omega),Ca,zk];simp only[Ca];rw[YH (by omega),ZJ (by omega)];simp only[Aa];rw[zo d,Ja (by omega),Ja (by omega),Ja (by omega),Ka (by omega)];rfl
   ·rw[La (by omega),Ba,zk];simp only[P5];by_cases k:57343<n/\n<65536
    ·rw[Ga (by omega),Ga (by omega),Lb,Ca,YH (by omega),ZJ (by omega)];simp only[Aa];rw[zo d,Ja (by omega),Ja (by omega),Ja (by omega),Ka (by omega)];rfl
    ·rw[show(decide ((57343:Int)<(n:Int))&&decide ((n:Int)<=65535))=false by grind,Ba];by_cases q:65535<n/\n<=1114111
     ·rw[Ga (by omega),Ga (by omega),Lb,Ca,iZ (by omega),ZJ (by omega)];simp only[Aa];rw[zo g,Ja (by omega),Ja (by omega),Ja (by omega),Ja (by omega)];rfl
     ·rw[show(decide ((n:Int)>65535)&&decide ((n:Int)<=1114111))=false by grind,Ba,zo d,Ka (by omega)];rfl
theorem iR{l:Str}(a:l.length<=1000000000):qP (65533,l)=some (l++Il):=by have h:=oZ (n:=65533) (by omega) (by omega) a;rw[Jo (by omega)]at h;exact h
theorem Zq{s:Str}{c:UInt8}{l:Str}(h:c::l<:+s):l<:+s:=(jd c l).trans h
theorem Ai{s:Str}{c:UInt8}{l:Str}(d:s.length<=big)(h:c::l<:+s):w64 ((beh s (c::l):Int)+1)=(beh s l:Int):=by
 have b:big=4194304:=rfl;have a:=h.length_le;rw[Fa]at a;have e:beh s (c::l)+1=beh s l:=by unfold beh;rw[Fa];omega
 have:=Mi s l;rw[zM (by omega) (by omega)];omega
theorem Uq(c:UInt8)(l:Str):pk (c::l) 0=(c.toNat:Int):=rfl
theorem xy(c:UInt8):qb (wu8 ((c.toNat:Nat):Int))=some c:=by rw[Ru,ve (Ib c),ZJ (Ib c),ic]
theorem Ty{b:UInt8}(h:Qw b=true):hexN b<16:=Ub h
theorem I1{n d:Nat}(hn:n<16777216)(hd:d<16):ibOr .i64 (yB .i64 (n:Int) 4) (d:Int)=((16*n+d:Nat):Int):=by
 have h1:yB .i64 (n:Int) 4=((16*n:Nat):Int):=by unfold yB;rw[show(2:Int) ^ (min (4:Int).toNat IntKind.i64.bits)=16 from rfl];rw[Zx (by omega) (by omega)];omega
 rw[h1];unfold ibOr;have e:(BitVec.ofInt IntKind.i64.bits ((16*n:Nat):Int) ||| BitVec.ofInt IntKind.i64.bits (d:Int)).toNat=16*n+d:=by
  rw[BitVec.toNat_or,BitVec.toNat_ofInt,BitVec.toNat_ofInt];rw[show((((16*n:Nat):Int)%((2 ^ IntKind.i64.bits:Nat):Int)).toNat)=16*n by show(((16*n:Nat):Int)%18446744073709551616).toNat=_;omega,
   show(((d:Int)%((2 ^ IntKind.i64.bits:Nat):Int)).toNat)=d by show((d:Int)%18446744073709551616).toNat=_;omega]
  have:=Nat.two_pow_add_eq_or_of_lt (i:=4) (b:=d) hd n;rw[show 2 ^ 4*n=16*n from rfl]at this;exact this.symm
 rw[e,Zx (by omega) (by omega)]
theorem ku(b:UInt8):decide (hexI b<0)= !Qw b:=by
 unfold hexI
 grind
theorem Sy: ∀(k n:Nat) (l:Str),Qw (atS l 0)=false->hexes k n l=(n,l)
 |0,_,_,_=>rfl
 |_+1,_,[],_=>rfl
 |k+1,n,c::r,h=>by unfold hexes;rw[Ja (by rw[show Qw c=false from h];decide)]
theorem FQ {R:Type} {step:(Int×Int)×zb->Option (LO ((Int×Int)×zb) (Int×zb) R)} {s l:Str} (j:l<:+s)
  (h: ∀(n i:Nat) (q:Str),q<:+s->n<16777216->i<=6->step (((n:Int),(i:Int)),sr s q)=some (bif decide (i<6)&&Qw (atS q 0)then .again ((((16*n+hexN (atS q 0):Nat):Int),((i+1:Nat):Int)),sr s (q.drop 1))else .out ((n:Int),sr s q))):
  Mg step ((0,0),sr s l)=some (.out (((hexes 6 0 l).1:Int),sr s (hexes 6 0 l).2)):=by
 refine ZI (fun z=> ∃(n i:Nat) (q:Str),z=(((n:Int),(i:Int)),sr s q)/\q<:+s/\i<=6/\n<16 ^ i/\hexes (6 - i) n q=hexes 6 0 l) (fun z=>6 - z.1.2.toNat) _ ?_ ⟨0,0,l,rfl,j,by omega,by decide,rfl⟩;rintro _ ⟨n,i,q,rfl,g,f,k,d⟩;have e:n<16777216:=Nc k (vg (by omega) f:16 ^ i<=16 ^ 6);rw[h n i q g e f];rcases Xc i 6 with b|m
 ·rw[Ga b,aa];cases a:Qw (atS q 0)with
  |true=>
   cases q with
   |nil=>exact absurd a (by decide)
   |cons c r=>
    have o:=Ty a;refine .inl ⟨_,rfl,⟨16*n+hexN (atS (c::r) 0),i+1,r,rfl,Zq g,by omega,?_,?_⟩,by grind⟩
    ·grind
    ·rw[<-d,show 6 - i=(6 - (i+1))+1 by omega];rw[hexes.eq_def ((6 - (i+1))+1) n (c::r)];simp only;rw[Ka (show Qw c=true from a)];rfl
  |false=> refine .inr (.inl ⟨_,rfl,?_⟩);rw[<-d,Sy _ _ _ a]
 ·rw[La (by omega),Ob];refine .inr (.inl ⟨_,rfl,?_⟩);rw[<-d,show 6 - i=0 by omega];rfl
theorem KE: ∀(k n:Nat) (l:Str),(hexes k n l).1<16 ^ k*(n+1)
 |0,n,l=>by unfold hexes;omega
 |k+1,n,[]=>by have:0<16 ^ (k+1):=jf (by omega);unfold hexes;exact Nc (lg n) (Nat.le_mul_of_pos_left _ this)
 |k+1,n,c::r=>by
  unfold hexes;cases hx:Qw c with
  |true=> rw[Ka rfl];have h1:=KE k (16*n+hexN c) r;have:=Ty hx;refine Nc h1 ?_;rw[Dg,og];exact Nat.mul_le_mul_left _ (by omega)
  |false=> rw[Ja (by decide)];have:0<16 ^ (k+1):=jf (by omega);exact Nc (lg n) (Nat.le_mul_of_pos_left _ this)
theorem kK{s l acc:Str}{c:UInt8}(hs:s.length<=big)(hr:c::l<:+s)(ha:acc.length<=1000000000):
  Zl (sr s (c::l),acc)=some (sr s (zA l).2,acc++(zA l).1):=by
 have hl:=Zq hr;unfold Zl;simp only[Ai hs hr,za,Xh hs hl,Aa,Kq];cases l with
 |nil=> rw[show([]:Str).isEmpty=true from rfl,Ca,iR ha];rfl
 |cons d r=>
  rw[show(d::r).isEmpty=false from rfl,Ba,gH];simp only[Aa,ku];cases hx:Qw (atS (d::r) 0)with
  |false=>
   rw[Ra,Ca,Uq,xy];simp only[Aa,Ai hs hl];rw[zo (Mh (by omega))];have:zA (d::r)=([d],r):=by show(if Qw d then _ else _)=_;rw[Ja (by rw[show Qw d=false from hx];decide)]
   rw[this]
  |true=>
   rw[Ta,Ba];have he:zA (d::r)=(xg (hexes 6 0 (d::r)).1,unsp (hexes 6 0 (d::r)).2):=by show(if Qw d then _ else _)=_;rw[Ka (show Qw d=true from hx)]
   rw[he];rw[Zk (FQ (l:=d::r) hl (fun n i q hq hn hi=> ?_))]
   ·have hq:(hexes 6 0 (d::r)).2<:+s:=(Iz 6 0 _).trans hl;have hlt:=KE 6 0 (d::r);rw[show 16 ^ 6*(0+1)=16777216 from rfl]at hlt;simp only[Xh hs hq,Aa,Fy];have hj:(bif spB (atS (hexes 6 0 (d::r)).2 0)then some (LX.out (((hexes 6 0 (d::r)).1:Int),(⟨s,w64 ((beh s (hexes 6 0 (d::r)).2:Int)+1)⟩:zb),acc))else some (LX.out (((hexes 6 0 (d::r)).1:Int),sr s (hexes 6 0 (d::r)).2,acc)):Option (LX (Int×zb×List UInt8) (zb×List UInt8)))
      =some (LX.out (((hexes 6 0 (d::r)).1:Int),sr s (unsp (hexes 6 0 (d::r)).2),acc)):=by
     cases hh:(hexes 6 0 (d::r)).2 with
     |nil=>rfl
     |cons e t=>
      rw[hh]at hq;rw[show atS (e::t) 0=e from rfl,Ai hs hq];show _=some (LX.out (_,sr s (if spB e then t else e::t),acc))
      grind
    rw[hj,zk];simp only;by_cases h0:(hexes 6 0 (d::r)).1=0
    ·rw[h0,show((((0:Nat):Int))==0)=true from rfl,Ca,zk];simp only[Jo (show 65533<2147483648 by omega),show w32 (65533:Int)=65533 from Jo (n:=65533) (by omega),iR ha,Aa];rfl
    ·rw[show(((hexes 6 0 (d::r)).1:Int)==0)=false by grind,Ba,zk];simp only[oZ h0 hlt ha,Aa]
   ·simp only[Xh hs hq,Aa,gH,ku];have hb6:decide ((i:Int)<6)=decide (i<6):=by rw[Bg];omega
    rw[hb6];cases decide (i<6)with
    |false=>rfl
    |true=>
     rw[Ca,aa];cases hx2:Qw (atS q 0)with
     |false=>rfl
     |true=>
      cases q with
      |nil=>exact absurd hx2 (by decide)
      |cons e t=>
       have hI:hexI (atS (e::t) 0)=(hexN (atS (e::t) 0):Int):=by unfold hexI;rw[Ka hx2]
       rw[hI,I1 hn (Ty hx2),Ai hs hq,zM (by omega) (by omega)];rfl
theorem zHm{s r:Str}{k:Nat}(b:s.length<=big)(c:r<:+s)(d:k<=4):zD ((k:Int),sr s r)=some (escS (r.drop k)&&decide (k<r.length)):=by
 unfold zD;simp only[za,Pp b c (show k<=8 by omega),Aa,dZ];rw[show w64 ((k:Int)+1)=((k+1:Nat):Int) by rw[zM (by omega) (by omega)];omega,Pp b c (by omega)];unfold escS;rw[Oi,Oi,Ad];cases h:(atS r k==92)with
 |false=>simp_all
 |true=> have a:k<r.length:=FC (by grind);rw[Ga a];simp only[zq,Ca,Aa,aa,Lb];unfold bne;rw[YN]
theorem zHl{l:Str}(h:escS l=true):0<l.length:=by unfold escS at h;rw[Da]at h;exact FC (by grind)
theorem PE{s r:Str}{k:Nat}(hs:s.length<=big)(hr:r<:+s)(hk:k<=4):zD ((k:Int),sr s r)=some (escS (r.drop k)):=by
 rw[zHm hs hr hk];cases h:escS (r.drop k)with
 |false=>rfl
 |true=> have:=zHl h;rw[Dc]at this;rw[Ga (by omega)];rfl
theorem dJ{s r:Str}(a:s.length<=big)(b:r<:+s):zD (0,sr s r)=some (escS r):=PE (k:=0) a b (by omega)
theorem nN{s r:Str}{k:Nat}(a:s.length<=big)(b:r<:+s)(d:k<=2):zW ((k:Int),sr s r)=some (nmS (r.drop k)):=by
 unfold zW;have c:w64 ((k:Int)+1)=((k+1:Nat):Int):=by rw[zM (by omega) (by omega)];omega
 simp only[c,za,Pp a b (show k<=8 by omega),Pp a b (show k+1<=8 by omega),Aa,zIu,PE a b (show k<=4 by omega),PE a b (show k+1<=4 by omega)];unfold nmS;rw[Oi,Oi,Ud];unfold bne;rw[vB,Ad];cases atS r k==45 with
 |true=>
  simp only[Ta,Ba,Ee];cases fstB (atS r (k+1))with
  |true=>rfl
  |false=>
   simp only[Ra,zq,Ca,Ba,Aa,vB]
   grind
 |false=> simp only[Ra,Ca];cases fstB (atS r k)<;>cases escS (r.drop k)<;>rfl
theorem zFQ(n:Nat):(xg n).length<=4:=by
 unfold xg Il
 grind
theorem xq(l:Str):(zA l).1.length<=4:=by
 cases l with
 |nil=>show Il.length<=4;decide
 |cons c r=>
  show(if Qw c then(xg (hexes 6 0 (c::r)).1,unsp (hexes 6 0 (c::r)).2)else([c],r)).1.length<=4;split
  ·exact zFQ _
  grind
theorem zZ(c:UInt8)(r:Str):zt (c::r)=if letB c then((c::(zt r).1),(zt r).2)
  else if escS (c::r)then((zA r).1++(zt (zA r).2).1,(zt (zA r).2).2)
  else([],c::r):=by rw[zt]
theorem Qx:zt []=([],[]):=by rw[zt]
theorem zJN(l:Str):(pk l 0 != -1)= !l.isEmpty:=by unfold bne;rw[Kq]
theorem dH{s r:Str}(i:s.length<=big)(k:r<:+s):Zh (sr s r)=some ((zt r).1,sr s (zt r).2):=by
 have m:big=4194304:=rfl;unfold Zh;refine TK (r:=((zt r).1,sr s (zt r).2)) ?_;refine ZI (fun z=> ∃(q a:Str),z=(sr s q,a)/\q<:+s/\a.length+4*q.length<=4*s.length/\a++(zt q).1=(zt r).1/\(zt q).2=(zt r).2) (fun z=>s.length - z.1.at_.toNat) _ ?_ ⟨r,[],rfl,k,by grind,rfl,rfl⟩;rintro _ ⟨q,a,rfl,f,j,d,b⟩;simp only[za,Xh i f,Aa,fP];cases q with
 |nil=>
  refine .inr (.inr ⟨_,rfl,?_⟩);rw[Qx]at d b
  grind
 |cons c t=>
  have g:=f.length_le;rw[Fa]at g j;rw[show atS (c::t) 0=c from rfl];rw[zZ]at d b;cases e:letB c with
  |true=>
   rw[e,Ka rfl]at d b;refine .inl ⟨(sr s t,a++[c]),?_,⟨t,a++[c],rfl,Zq f,by grind,by grind,b⟩,?_⟩
   ·rw[Ca,Uq,xy];simp only[Aa];rw[zo (Mh (by omega)),Ai i f]
   ·show s.length - beh s t<s.length - beh s (c::t);unfold beh;grind
  |false=>
   rw[e,Ja (by decide)]at d b;rw[Ba,zJN,show(c::t).isEmpty=false from rfl,dJ i f];cases h:escS (c::t)with
   |true=>
    rw[h,Ka rfl]at d b;have l:=xq t;have n:=Zv t;refine .inl ⟨(sr s (zA t).2,a++(zA t).1),?_,⟨_,_,rfl,(Zw t).trans (Zq f),by grind,by grind,b⟩,?_⟩
    ·simp only[Ra,zq,Ca,Aa,kK i f (show a.length<=1000000000 by omega)]
    ·show s.length - beh s (zA t).2<s.length - beh s (c::t);unfold beh;grind
   |false=> simp_all
theorem Vl(l:Str):(zt l).2<:+l:=by
 match l with
 |[]=>rw[Qx];grind
 |c::r=>
  rw[zZ];split
  ·exact(Vl r).trans (jd c r)
  ·split
   ·have:=Zv r;exact(Vl (zA r).2).trans ((Zw r).trans (jd c r))
   grind
termination_by l.length
decreasing_by
 all_goals grind
def escC(c:UInt8):Str:=bif decide (32<c.toNat)&&decide (c.toNat<127)&& !digB c&& !alB c then [92,c]else 92::(hexS c.toNat++[32])
def pcW(dash:Bool)(k:Nat)(c:UInt8):Str:=bif letB c&&(k==0|| !digB c)&& !dash then [c]else escC c
def encW(dash:Bool):Nat->Str->Str
 |_,[]=>[]
 |k,c::r=>pcW dash k c++encW dash (k - 1) r
theorem zEO(c:UInt8):namN c.toNat=letB c:=by
 have: ∀n:Nat,n<256->namN (UInt8.ofNat n).toNat=letB (UInt8.ofNat n):=by decide+kernel
 have h:=this c.toNat (Ib c);simp_all
theorem C8(c:UInt8):jl (c.toNat:Int)=some (letB c):=by rw[tV,zEO]
theorem DJ(c:UInt8):qI (c.toNat:Int)=some (digB c):=uV c
theorem zEA(c:UInt8):Xv (c.toNat:Int)=some (alB c):=of_n (by decide+kernel) c
theorem zDR(c:UInt8):wu64 (c.toNat:Int)=(c.toNat:Int):=by
 have:=Ib c;show IntKind.u64.wrap _=_;have h: ∀n:Int,IntKind.u64.wrap n=n%18446744073709551616:=fun n=>by simp[IntKind.wrap,IntKind.bits,IntKind.signed]
 rw[h];omega
theorem Gy(c:UInt8):qb ((c.toNat:Nat):Int)=some c:=by simp_all
theorem mQ(n:Nat):(hexS n).length<=2:=by unfold hexS;split<;>simp
theorem mo(c:UInt8){acc:Str}(j:acc.length<=1000000000):Z9 ((c.toNat:Int),acc)=some (acc++escC c):=by
 have i:=Ib c;unfold Z9 escC;simp only[za,DJ,zEA];have g:decide ((c.toNat:Int)>32)=decide (32<c.toNat):=by rw[Bg];omega
 have f:decide ((c.toNat:Int)<127)=decide (c.toNat<127):=by rw[Bg];omega
 rw[g,f];have b:short (acc++[(92:UInt8)])=true:=Ga (by grind);have e:mq ((wu64 (c.toNat:Int),16),acc++[(92:UInt8)])=some (acc++[(92:UInt8)]++hexS c.toNat):=by unfold mq;simp only[zDR,b];rw[zo (by simp;omega)];rfl
 have h:=mQ c.toNat;have a:need (Zj acc.length 1 1) (za (mq ((wu64 (c.toNat:Int),16),acc++[(92:UInt8)])) fun d=>need (Zj d.length 1 1) (some (d++[(32:UInt8)])))=some (acc++92::(hexS c.toNat++[32])):=by rw[zo (Mh (by omega)),e];simp only[za,Aa];rw[zo (Mh (by grind))];simp
 simp only[za]at a;rw[a];cases decide (32<c.toNat)with
 |false=>rfl
 |true=>
  cases decide (c.toNat<127)with
  |false=>rfl
  |true=>
   cases digB c with
   |true=>rfl
   |false=>
    cases alB c with
    |true=>rfl
    |false=> simp only[zq,Ca,Ra,Bool.and_self,Aa,Gy];rw[zo (Mh (by omega))]
theorem Lj(c:UInt8):(escC c).length<=4:=by
 have:=mQ c.toNat;unfold escC
 grind
theorem uH(dash:Bool)(k:Nat)(c:UInt8):(pcW dash k c).length<=4:=by
 have:=Lj c;unfold pcW
 grind
theorem Mj(dash:Bool): ∀(k:Nat) (l:Str),(encW dash k l).length<=4*l.length
 |_,[]=>by unfold encW;simp
 |k,c::r=>by
  have:=uH dash k c;have:=Mj dash (k - 1) r;unfold encW
  grind
theorem zHk{dash:Bool}{k i:Nat}{l:Str}(h:i<l.length):encW dash (k - i) (l.drop i)=pcW dash (k - i) l[i]++encW dash (k - (i+1)) (l.drop (i+1)):=by rw[Cb h,encW,show k - i - 1=k - (i+1) by omega]
theorem Y6 {R:Type} {step:Int×List UInt8->Option (LO (Int×List UInt8) (List UInt8) R)} {l acc:Str} {k:Nat} {dash:Bool} (hl:l.length<=100000) (ha:acc.length<=100000000)
  (h1: ∀(i:Nat) (a:Str) (hi:i<l.length),a.length<=500000000->step ((i:Int),a)=some (.again (w64 ((i:Int)+1),a++pcW dash (k - i) l[i])))
  (h2: ∀a,step ((l.length:Int),a)=some (.out a)):Mg step (0,acc)=some (.out (acc++encW dash k l)):=by
 refine ZI (fun z=> ∃(i:Nat) (a:Str),z=((i:Int),a)/\i<=l.length/\a.length<=acc.length+4*i/\a++encW dash (k - i) (l.drop i)=acc++encW dash k l) (fun z=>l.length - z.1.toNat) _ ?_ ⟨0,acc,rfl,by omega,by omega,rfl⟩;rintro _ ⟨i,a,rfl,hi,hal,he⟩;rcases Xc i l.length with h|h
 ·refine .inl ⟨_,h1 i a h (by omega),⟨i+1,_,by rw[zM (by omega) (by omega)];rfl,by omega,?_,?_⟩,by simp only;rw[zM (by omega) (by omega)];omega⟩
  ·have:=uH dash (k - i) l[i]
   grind
  ·rw[<-he,zHk h,Na]
 ·have:i=l.length:=by omega
  subst this;refine .inr (.inl ⟨_,h2 a,?_⟩);rw[<-he,Pd (ja _)];rw[show encW dash (k - l.length) []=[] by rw[encW],Db]
def ai(k:Nat)(l:Str):Bool:= !(k==0)&&l==[45]
def qm(l:Str):Nat:=if [45].isPrefixOf l then 2 else 1
theorem lu(l:Str):Bl l=some ((qm l:Nat):Int):=by
 unfold Bl qm;simp only[za,Lp,Aa]
 grind
def ZU(l:Str):Str:=encW (l==[45]) (qm l) l
def jn(sep:Str)(l:List Str):Str:=List.intercalate sep l
def nt4:Str:=[110,111,116,32]
def cma2:Str:=[44,32]
def and5:Str:=[32,97,110,100,32]
def or4:Str:=[32,111,114,32]
def Tj:Str:=[40,109,105,110,45,119,105,100,116,104,58,32]
def Uj:Str:=[40,109,97,120,45,119,105,100,116,104,58,32]
def pxW:Str:=[112,120,41]
def unkW:Str:=[40,117,110,107,110,111,119,110,41]
def parW(s:Str):Str:=40::s++[41]
mutual
/-- The text of a media condition, or of a part of it. -/
def medT:zg->Str
 |⟨k,n,m,_,l⟩=>bif k==4 then ZU n else bif k==3 then nt4++(Em l).headD []else bif k==2 then jn cma2 (Em l)else bif k==1 then jn and5 (Em l)else
  (bif k==5 then Tj else Uj)++numT m false++pxW
def Em:List zg->List Str
 |[]=>[]
 |c::r=>medT c::Em r
end
mutual
/-- The text of a supports condition; wd: the text of a declaration. -/
def supT(wd:z8->Str):zg->Str
 |⟨k,_,_,d,l⟩=>bif k==7 then parW (wd d)else bif k==8 then unkW else bif k==3 then nt4++(inTs wd l).headD []else bif k==2 then jn or4 (inTs wd l)else jn and5 (inTs wd l)
def inTs(wd:z8->Str):List zg->List Str
 |[]=>[]
 |c::r=>(bif Fg c then supT wd c else parW (supT wd c))::inTs wd r
end
def AC:List zg->Bool
 |[]=>false
 |y::_=>y.kind==1&&qZ y
def headA:List zg->Bool
 |[]=>false
 |y::_=>mg y
mutual
/-- The reference's text of a condition. -/
def wrC(wd:z8->Str):zg->Str
 |⟨k,n,m,d,l⟩=>bif k==4 then ZU n else bif k==5 then Tj++numT m false++pxW else bif k==6 then Uj++numT m false++pxW else bif k==7 then parW (wd d)else bif k==8 then unkW else
  bif k==3 then nt4++(bif AC l then(wrCs wd l).headD []else(wiCs wd l).headD [])else
  bif l.isEmpty||(qZ ⟨k,n,m,d,l⟩||(k==2&&headA l))then(bif k==2 then jn cma2 (wrCs wd l)else jn and5 (wrCs wd l))
  else(bif k==2 then jn or4 (wiCs wd l)else jn and5 (wiCs wd l))
def wrCs(wd:z8->Str):List zg->List Str
 |[]=>[]
 |c::r=>wrC wd c::wrCs wd r
def wiCs(wd:z8->Str):List zg->List Str
 |[]=>[]
 |c::r=>(bif Fg c then wrC wd c else parW (wrC wd c))::wiCs wd r
end
theorem Hz: ∀l:List zg,Em l=l.map medT
 |[]=>by rw[Em];rfl
 |c::r=>by rw[Em,Hz r];rfl
theorem gu(wd:z8->Str): ∀l:List zg,inTs wd l=l.map fun c=>bif Fg c then supT wd c else parW (supT wd c)
 |[]=>by rw[inTs];rfl
 |c::r=>by rw[inTs,gu wd r];rfl
theorem ry(wd:z8->Str): ∀l:List zg,wrCs wd l=l.map (wrC wd)
 |[]=>by rw[wrCs];rfl
 |c::r=>by rw[wrCs,ry wd r];rfl
theorem EE(wd:z8->Str): ∀l:List zg,wiCs wd l=l.map fun c=>bif Fg c then wrC wd c else parW (wrC wd c)
 |[]=>by rw[wiCs];rfl
 |c::r=>by rw[wiCs,EE wd r];rfl
theorem zIG{wd:z8->Str}{f:Bool}{y:zg}(h:Dh f y=true):wrC wd y=medT y:=by
 obtain⟨k,n,m,d,l⟩:=y;have hk:k=4\/k=5\/k=6:=by
  unfold Dh at h;simp only[Da,Sb,ma]at h;rcases h.2.2 with h|h
  ·exact .inl h.2.1
  ·exact .inr h.1
 rw[wrC,medT];rcases hk with rfl|rfl|rfl<;>rfl
theorem xP{wd:z8->Str}{y:zg}(h:qZ y=true):wrC wd y=medT y:=by have hq:=h;unfold qZ at h;simp only[Da,ma]at h;obtain⟨k,n,m,d,l⟩:=y;obtain⟨hk,_,_,hl⟩:=h;simp only at hk hl;subst hk;rw[wrC,medT,hq,ry,Hz];have:l.map (wrC wd)=l.map medT:=Ye fun z hz=>let⟨_,e⟩:=cz hl hz;zIG e;rw[this,jc,Fe];rfl
theorem zIF{wd:z8->Str}{y:zg}(h:mg y=true):wrC wd y=medT y:=by
 have ha:=h;unfold mg at h;cases h3:y.kind==3 with
 |false=>rw[h3]at h;exact xP h
 |true=>
  rw[h3,Ca,Da]at h;obtain⟨k,n,m,d,l⟩:=y;have hk:k=3:=eq_of_beq h3;subst hk;obtain⟨_,h⟩:=h;simp only at h
  match l,h with
  |[],h=>cases h
  |[z],h=>
   rw[Da]at h;have hz1:(z.kind==1)=true:=by have:=h.1;unfold qZ at this;rw[Da]at this;exact this.1
   have hh:AC [z]=true:=by show(z.kind==1&&qZ z)=true;rw[hz1,h.1];rfl
   rw[wrC,medT,hh,wrCs,Em,xP h.1];rfl
  |_::_::_,h=>cases h
theorem zFU{wd:z8->Str}{c:zg}(h:ZF c=true):wrC wd c=medT c:=by
 unfold ZF at h;simp only[Da,Sb,ma,Be,Ab]at h;obtain⟨k,n,m,d,l⟩:=c;simp only at h;rcases h.2 with⟨rfl,rfl⟩|⟨rfl,hl,_,ha⟩
 ·rw[wrC,medT,wrCs,Em];rfl
 ·rw[wrC,medT,ry,Hz,Ye (g:=medT) fun z hz=>zIF (ha z hz)];cases l with
  |nil=>rfl
  |cons z r=> have:headA (z::r)=true:=ha z (by simp);rw[this];cases qZ ⟨2,n,m,d,z::r⟩<;>rfl
theorem UI{c:zg}(h:supC c=true):qZ c=false/\mg c=false:=by
 have q: ∀{c:zg},supC c=true->qZ c=false:=fun {c} h=>by
  cases hq:qZ c with
  |false=>rfl
  |true=>
   exfalso;unfold qZ at hq;simp only[Da,ma]at hq;rw[Ll,hq.1]at h;have h:((false||(true||false))&&(Xg c&&(decide (2<=c.list.length)&&c.list.all supC)))=true:=h;simp only[Da,Ab,Eb]at h;obtain⟨y,hy⟩: ∃y,y∈c.list:=by
    cases hl:c.list with
    |nil=>rw[hl]at h;simp at h
    |cons y r=>exact⟨y,by simp⟩
   obtain⟨f,hf⟩:=cz hq.2.2.2 hy;have hs:=h.2.2.2 y hy;have hk:y.kind=4\/y.kind=5\/y.kind=6:=by
    unfold Dh at hf;simp only[Da,Sb,ma]at hf;rcases hf.2.2 with hf|hf
    ·exact .inl hf.2.1
    ·exact .inr hf.1
   rw[Ll]at hs;rcases hk with e|e|e<;>rw[e]at hs<;>cases hs
 refine⟨q h,?_⟩;unfold mg;cases h3:c.kind==3 with
 |false=>exact q h
 |true=>
  rw[Ca];have h0:=h;rw[Ll,eq_of_beq h3]at h;have h:(Xg c&&((c.list.length==1)&&c.list.all supC))=true:=h;simp only[Da,Ab]at h;cases hl:c.list with
  |nil=>rw[Ec]
  |cons y r=>
   cases r with
   |nil=>simp only;rw[q (h.2.2 y (by rw[hl];simp))];simp
   |cons z r=>simp
theorem XO{wd:z8->Str}: ∀{c:zg},supC c=true->wrC wd c=supT wd c:=by
 have key: ∀(n:Nat) (c:zg),sizC c<=n->supC c=true->wrC wd c=supT wd c:=by
  intro n
  induction n with
  |zero=>intro c hc;have:=mi c;omega
  |succ n ih=>
   intro c hc hs;have hsz:=jh c;have hq:=UI hs;obtain⟨k,nm,m,d,l⟩:=c;have hm: ∀y∈l,sizC y<=n:=fun y hy=>by have:=QO (l:=l) hy;simp only at hsz;omega
   rw[Ll]at hs;simp only at hs;rw[wrC,supT];cases h7:k==7 with
   |true=>rw[eq_of_beq h7];rfl
   |false=>
    cases h8:k==8 with
    |true=>rw[eq_of_beq h8];rfl
    |false=>
     rw[h7,h8,Ba,Ba]at hs;simp only[Da,Ab]at hs;obtain⟨hk,_,hl,ha⟩:=hs;have hw:wiCs wd l=inTs wd l:=by rw[EE,gu];exact Ye fun y hy=>by rw[ih y (hm y hy) (ha y hy)]
     have hne:l.isEmpty=false:=by cases l with|nil=>(cases k==3<;>simp at hl)|cons=>rfl
     have hA:headA l=false:=by cases l with|nil=>rfl|cons y r=>exact(UI (ha y (by simp))).2
     have hQ:AC l=false:=by cases l with|nil=>rfl|cons y r=>show(y.kind==1&&qZ y)=false;rw[(UI (ha y (by simp))).1,Ec]
     rw[hQ,hA,hne,hq.1,hw,Ba,Ec,Rc,Rc,Ba];cases h3:k==3 with
     |true=>rw[eq_of_beq h3];rfl
     |false=> rw[h3,Xb,Sb]at hk;rcases hk with e|e<;>rw[eq_of_beq e]<;>rfl
 intro c hs;exact key _ c (ja _) hs
def Rj(acc:Str)(d:Nat):Str:=bif d==0&&acc.isEmpty then acc else d48 d::acc
def bk3(r:Nat):Str:=Rj (Rj (Rj [] (r%10)) (r / 10%10)) (r / 10 / 10%10)
def dotB(c:Str):Str:=bif c.isEmpty then c else 46::c
def bkOK(r:Nat):Bool:=dotB (bk3 r)==Wi r false&&decide ((bk3 r).length<=3)
theorem H6: ∀r,r<1000->bkOK r=true:=by decide+kernel
theorem zGT{r:Nat}(h:r<1000):dotB (bk3 r)=Wi r false:=by have:=H6 r h;unfold bkOK at this;rw[Da]at this;exact eq_of_beq this.1
theorem OP{r:Nat}(h:r<1000):(bk3 r).length<=3:=by have:=H6 r h;unfold bkOK at this;rw[Da]at this;exact Ub this.2
def putD:Nat->Nat->Str->Str
 |0,_,acc=>acc
 |f+1,m,acc=>if m<10 then d48 m::acc else putD f (m / 10) (d48 (m%10)::acc)
theorem R7: ∀{f m:Nat} {acc:Str},m<10 ^ f->0<f->putD f m acc=Lib.decDigits m++acc
 |0,_,_,_,h=>absurd h (by omega)
 |f+1,m,acc,h,_=>by
  rw[putD,Lib.decDigits];by_cases hm:m<10
  ·rw[Ka hm,dif_pos hm];rfl
  ·rw[Ja hm,dif_neg hm];have h2:m / 10<10 ^ f:=by rw[Dg]at h;omega
   have hf:0<f:=by
    rcases Vf f with rfl|hf
    ·simp at h;omega
    ·exact hf
   rw[R7 h2 hf,Na];rfl
theorem XQ{n:Nat}(h:n<=1000000000000):putD 10 (n / 1000) (dotB (bk3 (n%1000)))=Ug n false:=by rw[R7 (by omega) (by omega),zGT (Uf _ (by omega))];rfl
def fr3:Nat->Nat->Nat->Str
 |0,_,_=>[]
 |f+1,by_,p=>if p>0 then Lib.decDigits (p / by_)++fr3 f (by_ / 10) (p%by_)else []
def zKo(r:Nat):Bool:=(bif r==0 then []else 46::fr3 4 100 r)==Wi r false
theorem zJh: ∀r,r<1000->zKo r=true:=by decide+kernel
theorem zHu{r:Nat}(h:r<1000):(bif r==0 then []else 46::fr3 4 100 r)=Wi r false:=eq_of_beq (zJh r h)
def capF(cap:Nat):Nat->Str->Nat
 |n,[]=>n
 |n,c::r=>capF cap (min cap (decN n c)) r
theorem vK(cap:Nat): ∀(l:Str) (n:Nat) (c:UInt8),capF cap n (l++[c])=min cap (decN (capF cap n l) c)
 |[],_,_=>rfl
 |d::l,n,c=>by show capF cap (min cap (decN n d)) (l++[c])=_;rw[vK cap l];rfl
theorem Nl(cap:Nat): ∀(l:Str) (n:Nat),n<=cap->capF cap n l<=cap
 |[],_,h=>h
 |c::l,n,_=>Nl cap l _ (Nat.min_le_left ..)
theorem DR {R:Type} {step:Int×Int->Option (LO (Int×Int) Int R)} {l:Str} {cap:Nat} (b:l.all digB=true) (j:l.length<=100000) (f:cap<=1000000000000)
  (a: ∀(v:Int) (i:Nat) (hi:i<l.length),step (v,(i:Int))=some (.again (if(cap:Int)<w64 (w64 (10*v)+w64 (wu8 ((l[i].toNat:Int) - 48)))then(cap:Int)else w64 (w64 (10*v)+w64 (wu8 ((l[i].toNat:Int) - 48))),w64 ((i:Int)+1))))
  (h2: ∀v:Int,step (v,(l.length:Int))=some (.out v)):Mg step (0,0)=some (.out ((capF cap 0 l:Nat):Int)):=by
 refine ZI (fun s=> ∃i:Nat,i<=l.length/\s=(((capF cap 0 (l.take i):Nat):Int),(i:Int))) (fun s=>l.length - s.2.toNat) _ ?_ ⟨0,by omega,rfl⟩;rintro _ ⟨i,hi,rfl⟩;rcases Xc i l.length with h|h
 ·refine .inl ⟨_,a _ i h,⟨i+1,by omega,?_⟩,by simp only;rw[zM (by omega) (by omega)];omega⟩;have e:=Br (Ab.1 b _ (Kb h));have d:capF cap 0 (l.take (i+1))=min cap (decN (capF cap 0 (l.take i)) l[i]):=by rw[jb h,vK]
  have g:=Nl cap (l.take i) 0 (Mc _);have c:wu8 ((l[i].toNat:Int) - 48)=((l[i].toNat - 48:Nat):Int):=by show IntKind.u8.wrap _=_;rw[IntKind.wrap_u8];omega
  unfold decN at d;rw[c,zM (n:=10*_) (by omega) (by omega),zM (n:=((l[i].toNat - 48:Nat):Int)) (by omega) (by omega),zM (n:=(i:Int)+1) (by omega) (by omega),zM (by omega) (by omega)];refine Prod.ext ?_ ?_
  ·grind
  ·grind
 grind
theorem bK: ∀(k n:Nat),n<=Pg->Nh k n<=Pg
 |0,_,h=>h
 |k+1,n,h=>by
  unfold Nh;split
  ·exact h
  ·exact bK k _ (Nat.min_le_left ..)
theorem VU {R:Type} {step:Int×Int->Option (LO (Int×Int) Int R)} {v:Nat} {p:Int} (n:p<=4000000) (d: -4000000<=p) (i:v<=1000000000000)
  (h: ∀(a b:Int),step (a,b)=bif bif bif decide (a>0)then decide (b>0)else false then decide (b<1000000000000)else false then some (.again (w64 (a - 1),if 1000000000000<w64 (10*b)then 1000000000000 else w64 (10*b)))else some (.out b)):
  Mg step (p,(v:Int))=some (.out ((Nh p.toNat v:Nat):Int)):=by
 have o:Pg=1000000000000:=rfl;refine ZI (fun s=> ∃(a:Int) (b:Nat),s=(a,(b:Int))/\a<=4000000/\ -4000000<=a/\b<=1000000000000/\Nh a.toNat b=Nh p.toNat v) (fun s=>s.1.toNat) _ ?_ ⟨p,v,rfl,n,d,i,rfl⟩;rintro _ ⟨a,b,rfl,r,f,q,c⟩;rw[h];by_cases e:a>0
 ·obtain⟨k,l⟩: ∃k,a.toNat=k+1:=⟨a.toNat - 1,by omega⟩;rw[l,Nh]at c;rw[Ga e,Ca];by_cases g:b=0\/Pg<=b
  ·grind
  ·rw[Ja g]at c;have m:decide (((b:Nat):Int)>0)=true:=Ga (by omega);have j:decide (((b:Nat):Int)<1000000000000)=true:=Ga (by omega);rw[m,Ca,j,Ca];refine .inl ⟨_,rfl,⟨a - 1,min Pg (10*b),?_,by omega,by omega,by omega,?_⟩,by simp only;rw[zM (by omega) (by omega)];omega⟩
   ·rw[zM (by omega) (by omega),zM (by omega) (by omega)]
    grind
   grind
 ·rw[La e,Ba];refine .inr (.inl ⟨_,rfl,?_⟩);rw[<-c,show a.toNat=0 by omega];rfl
structure NumP where
 sg:Str
 D:Str
 F:Option Str
 X:Option (UInt8×Str×Str)
def dotS:Option Str->Str
 |none=>[]
 |some f=>46::f
def expT:Option (UInt8×Str×Str)->Str
 |none=>[]
 |some (e,s,x)=>e::(s++x)
def NumP.txt(n:NumP):Str:=n.sg++(n.D++(dotS n.F++expT n.X))
def sgB(s:Str):Bool:=s==[]||s==[43]||s==[45]
def NumP.ok(n:NumP):Bool:=sgB n.sg&&n.D.all digB&&(match n.F with|none=> !n.D.isEmpty|some f=> !f.isEmpty&&f.all digB)&&
 (match n.X with|none=>true|some (e,s,x)=>(e==101||e==69)&&sgB s&& !x.isEmpty&&x.all digB)
def expV:Option (UInt8×Str×Str)->Int
 |none=>0
 |some (_,s,x)=>if s==[45]then -((capF 1048576 0 x:Nat):Int)else((capF 1048576 0 x:Nat):Int)
def thoV(A:Str)(p:Int):Nat:=Nh p.toNat (capF Pg 0 (if p<0 then A.take ((A.length:Int)+p).toNat else A))
def NumP.val(n:NumP):Int:=
 let v:=thoV (n.D++n.F.getD []) (3+expV n.X - ((n.F.getD []).length:Int))
 if n.sg==[45]then -(v:Int)else(v:Int)
theorem tu{s:Str}(h:sgB s=true):s=[]\/s=[43]\/s=[45]:=by
 unfold sgB at h
 grind
theorem A7{s q:Str}(h:sgB s=true)(b: ∀c r,q=c::r->List.contains [43,45] c=false):Lib.trimLeftS (s++q) [43,45]=q:=by
 have a:Lib.trimLeftS q [43,45]=q:=by
  unfold Lib.trimLeftS;cases q with
  |nil=>rfl
  |cons c r=>simp_all
 rcases tu h with rfl|rfl|rfl
 ·exact a
 ·show List.dropWhile _ (43::q)=_;rw[yc];exact a
 ·show List.dropWhile _ (45::q)=_;rw[yc];exact a
theorem Y8{e:UInt8}(he:e=101\/e=69)(t:Str): ∀(l:Str),(l.all fun b=>digB b||b==46)=true->Lib.indexAny (l++e::t) [101,69]=(l.length:Int)
 |[],_=>by
  rw[Vb,Lib.indexAny]
  grind
 |c::l,h=>by
  rw[Yc,Da]at h;have hc:List.contains [101,69] c=false:=by
   have: ∀n:Nat,n<256->(digB (UInt8.ofNat n)||UInt8.ofNat n==46)=true->List.contains [101,69] (UInt8.ofNat n)=false:=by decide+kernel
   have:=this c.toNat (Ib c);rw[ic]at this;exact this h.1
  rw[Bb,Lib.indexAny,hc,Y8 he t l h.2]
  grind
theorem X5{l:Str}(h:l.all digB=true):(l.all fun b=>digB b||b==46)=true:=by
 grind
theorem Bz{l:Str}(h: ∀b∈l,b.toNat<128):dh l=true:=by
 unfold dh
 grind
theorem zDZ{l:Str}(h:dh l=true): ∀b∈l,b.toNat<128:=by
 unfold dh at h
 grind
theorem zG7{D:Str}(a:D.all digB=true)(F:Option Str): ∃f,Lib.cut (D++dotS F) [46]=(D,F.getD [],f):=by
 unfold Lib.cut;rw[eF];cases F with
 |none=> rw[show dotS none=[]from rfl,Db,AJ _ a,Ja (by decide)];simp_all
 |some g=> rw[show dotS (some g)=46::g from rfl,BJ _ _ a,Ka (by omega)];simp_all
theorem dP {D:Str} {F:Option Str} {E:Int} (w:D.all digB=true) (y:(F.getD []).all digB=true) (R:D.length+(F.getD []).length<=50000) (Q:E<=2000000) (C: -2000000<=E) (s:UInt8) (r:Str)
  (M:((s.toNat:Int)==45)=(r==[45])) (u:short (D++dotS F)=true):
  (za (cutF (D++dotS F,[46])) fun c=>
 need (zO c.1.length c.2.1.length)<|
 zP (X:=Str×Int) (
   bif decide (w64 ((3+E) - (c.2.1.length:Int))<0)then
    need (decide (0<=(if w64 (((c.1++c.2.1).length:Int)+w64 ((3+E) - (c.2.1.length:Int)))>0 then w64 (((c.1++c.2.1).length:Int)+w64 ((3+E) - (c.2.1.length:Int)))else 0))&&decide ((if w64 (((c.1++c.2.1).length:Int)+w64 ((3+E) - (c.2.1.length:Int)))>0 then w64 (((c.1++c.2.1).length:Int)+w64 ((3+E) - (c.2.1.length:Int)))else 0)<=((c.1++c.2.1).length:Int)))<|
    some (LX.out (List.take (if w64 (((c.1++c.2.1).length:Int)+w64 ((3+E) - (c.2.1.length:Int)))>0 then w64 (((c.1++c.2.1).length:Int)+w64 ((3+E) - (c.2.1.length:Int)))else 0).toNat (c.1++c.2.1),w64 ((3+E) - (c.2.1.length:Int))))
   else
    some (LX.out (c.1++c.2.1,w64 ((3+E) - (c.2.1.length:Int))))) fun j=>
 need (decide (j.1.length<=maxLen))<|
 zS (fun(d:Int×Int)=>
   bif decide (d.2<(j.1.length:Int))then
    need (decide (0<=d.2)&&decide (d.2<(j.1.length:Int)))<|
    za j.1[d.2.toNat]? fun g=>
    some (LO.again (if 1000000000000<w64 (w64 (10*d.1)+w64 (wu8 ((g.toNat:Int) - 48)))then 1000000000000 else w64 (w64 (10*d.1)+w64 (wu8 ((g.toNat:Int) - 48))),w64 (d.2+1)))
   else
    some (LO.out d.1):Int×Int->Option (LO (Int×Int) (Int) _)) (0,0) fun l=>
 zS (fun(e:Int×Int)=>
   bif bif bif decide (e.1>0)then decide (e.2>0)else false then decide (e.2<1000000000000)else false then
    some (LO.again (w64 (e.1 - 1),if 1000000000000<w64 (10*e.2)then 1000000000000 else w64 (10*e.2)))
   else
    some (LO.out e.2):Int×Int->Option (LO (Int×Int) (Int) _)) (j.2,l) fun h=>
 zP (X:=Int) (
   bif (s.toNat:Int)==45 then
    some (LX.out (w64 (0 - h)))
   else
    some (LX.out h)) fun k=>
 some k)=some (if r==[45]then -((thoV (D++F.getD []) (3+E - ((F.getD []).length:Int)):Nat):Int)else((thoV (D++F.getD []) (3+E - ((F.getD []).length:Int)):Nat):Int)):=by
 obtain⟨f,m⟩:=zG7 w F;have O:cutF (D++dotS F,[46])=some (D,F.getD [],f):=by unfold cutF;rw[zo (by exact u)];exact congrArg some m
 have x:maxLen=9223372036854775807:=rfl;have t:Pg=1000000000000:=rfl;simp only[za,O,Aa];generalize F.getD []=G at*;rw[zo (zV.2 (by omega))];obtain⟨p,L⟩: ∃p:Int,p=3+E - (G.length:Int):=⟨_,rfl⟩;rw[<-L,zM (n:=p) (by omega) (by omega)];have S:(D++G).all digB=true:=by rw[List.all_append,w,y];rfl
 have K:(D++G).length<=50000:=by rw[Ea];omega
 generalize D++G=A at*;have H: ∀B:Str,B.all digB=true->B.length<=50000->(need (decide (B.length<=maxLen))<|
 zS (fun(d:Int×Int)=>
   bif decide (d.2<(B.length:Int))then
    need (decide (0<=d.2)&&decide (d.2<(B.length:Int)))<|
    (B[d.2.toNat]?).bind fun g=>
    some (LO.again (if 1000000000000<w64 (w64 (10*d.1)+w64 (wu8 ((g.toNat:Int) - 48)))then 1000000000000 else w64 (w64 (10*d.1)+w64 (wu8 ((g.toNat:Int) - 48))),w64 (d.2+1)))
   else
    some (LO.out d.1):Int×Int->Option (LO (Int×Int) (Int) _)) (0,0) fun l=>
 zS (fun(e:Int×Int)=>
   bif bif bif decide (e.1>0)then decide (e.2>0)else false then decide (e.2<1000000000000)else false then
    some (LO.again (w64 (e.1 - 1),if 1000000000000<w64 (10*e.2)then 1000000000000 else w64 (10*e.2)))
   else
    some (LO.out e.2):Int×Int->Option (LO (Int×Int) (Int) _)) (p,l) fun h=>
 zP (X:=Int) (
   bif (s.toNat:Int)==45 then
    some (LX.out (w64 (0 - h)))
   else
    some (LX.out h)) fun k=>
 some k)=some (if r==[45]then -((Nh p.toNat (capF Pg 0 B):Nat):Int)else((Nh p.toNat (capF Pg 0 B):Nat):Int)):=by
  intro B J z;have o:=Nl Pg B 0 (Mc _);rw[zo (Ga (by omega))];rw[Zk (DR (cap:=Pg) J (by omega) (by omega) (fun v i U=> ?_) (fun v=> ?_))]
  ·have N:=bK p.toNat _ o;rw[Zk (VU (by omega) (by omega) (by omega) (fun a b=> ?_)),M]
   ·cases T:r==[45]with
    |true=> rw[Ca,zk,zM (by omega) (by omega),Ka rfl];congr 1;omega
    |false=>simp_all
   ·simp only
  ·simp_all
  ·grind
 unfold thoV;by_cases q:p<0
 ·rw[Ga q,Ca,Ka q];have P:(if w64 ((A.length:Int)+p)>0 then w64 ((A.length:Int)+p)else 0)=((((A.length:Int)+p).toNat:Nat):Int):=by rw[zM (by omega) (by omega)];split<;>omega
  rw[P,zo (by grind),zk,Oa]
  grind
 ·rw[La q,Ba,Ja q,zk]
  grind
theorem AY{n:NumP}(h:n.ok=true)(hl:n.txt.length<=40000):qN n.txt=some n.val:=by
 obtain⟨sg,D,F,X⟩:=n;unfold NumP.ok at h;simp only[Da]at h;obtain⟨⟨⟨hsg,hD⟩,hFo⟩,hX⟩:=h;have hF:(F.getD []).all digB=true:=by
  cases F with
  |none=>rfl
  |some f=>grind
 have hne:D++dotS F≠[]:=by
  cases F with
  |none=>simp_all
  |some f=>simp[dotS]
 have hpar:((D++dotS F).all fun b=>digB b||b==46)=true:=by
  rw[List.all_append,X5 hD];cases F with
  |none=>rfl
  |some f=>rw[show dotS (some f)=46::f from rfl,Yc,X5 (show f.all digB=true from hF)];rfl
 have hlen:sg.length+(D.length+((dotS F).length+(expT X).length))<=40000:=by
  have:(NumP.txt ⟨sg,D,F,X⟩).length=sg.length+(D.length+((dotS F).length+(expT X).length)):=by unfold NumP.txt;simp only[Ea]
  omega
 have hFl:(F.getD []).length<=(dotS F).length:=by
  cases F with
  |none=>grind
  |some f=>show f.length<=(46::f).length;grind
 have hhead: ∀c r,D++(dotS F++expT X)=c::r->List.contains [43,45] c=false:=by
  rw[<-Na];intro c r e;cases hq:D++dotS F with
  |nil=>grind
  |cons d q=>
   rw[hq,Bb]at e;injection e with e1 _;subst e1;rw[hq,Yc,Da,Sb]at hpar;rcases hpar.1 with hd|hd
   ·exact(Oh hd).2.2.2.2
   grind
 have hy1: ∃b,geti (NumP.txt ⟨sg,D,F,X⟩) 0=some b/\(((b.toNat:Int)==45)=(sg==[45])):=by
  unfold NumP.txt;show∃b,geti (sg++(D++(dotS F++expT X))) 0=some b/\_;rcases tu hsg with rfl|rfl|rfl
  ·cases hq:D++(dotS F++expT X)with
   |nil=>simp_all
   |cons c r=>
    refine⟨c,rfl,?_⟩;have:=hhead c r hq;refine Ia.2 (fun e=> ?_);have:c=45:=Cf.1 (by grind)
    grind
  ·exact⟨43,rfl,rfl⟩
  ·exact⟨45,rfl,rfl⟩
 obtain⟨y1,hg,hyy⟩:=hy1;have t1:Pk (NumP.txt ⟨sg,D,F,X⟩,[43,45])=some (D++(dotS F++expT X)):=by unfold Pk;rw[zo (show(short ([43,45]:Str)&&dh [43,45])=true by decide)];exact congrArg some (A7 hsg hhead)
 unfold qN;simp only[za,hg,t1,Aa];have hsh:short (D++dotS F)=true:=Ga (by grind);have hasc:dh (D++dotS F)=true:=E9 hpar;cases X with
 |none=>
  have t2:ik (D++(dotS F++expT none),[101,69])=some (-1):=by show ik (D++(dotS F++[]),[101,69])=_;rw[Db];unfold ik;rw[zo (by simp only[hsh,hasc,Lb,aa];decide)];exact congrArg some (wI _ hpar)
  simp only[t2,Aa,show decide ((-1:Int)>=0)=false from rfl,Ba,zk];rw[show D++(dotS F++expT none)=D++dotS F by show D++(dotS F++[])=_;grind];have:=dP (E:=0) hD hF (by omega) (by omega) (by omega) y1 sg hyy hsh;exact this
 |some ex=>
  obtain⟨e,s,x⟩:=ex;simp only[Da]at hX;obtain⟨⟨⟨he,hs⟩,hxne⟩,hx⟩:=hX;have he':e=101\/e=69:=by rw[Sb,ma,ma]at he;exact he
  have hexl:(expT (some (e,s,x))).length=1+(s.length+x.length):=by show(e::(s++x)).length=_;rw[Fa,Ea];omega
  have hass:D++(dotS F++expT (some (e,s,x)))=(D++dotS F)++e::(s++x):=by rw[<-Na];rfl
  have hasx:dh ((D++dotS F)++e::(s++x))=true:=by
   refine Bz (fun b hb=> ?_);rcases Yd.1 hb with hb|hb
   ·exact zDZ hasc b hb
   ·rcases Rb.1 hb with hb|hb
    ·subst hb;rcases he' with rfl|rfl<;>decide
    ·rcases Yd.1 hb with hb|hb
     ·rcases tu hs with rfl|rfl|rfl
      ·cases hb
      ·simp_all
      simp_all
     ·have:=Br (Ab.1 hx b hb);omega
  have hlt:((D++dotS F)++e::(s++x)).length<=40000:=by rw[Ea,Fa,Ea,Ea];omega
  have t2:ik (D++(dotS F++expT (some (e,s,x))),[101,69])=some ((D++dotS F).length:Int):=by rw[hass];unfold ik;show need (short ((D++dotS F)++e::(s++x))&&short [101,69]&&dh ((D++dotS F)++e::(s++x))&&dh [101,69]) _=_;rw[show short ((D++dotS F)++e::(s++x))=true from Ga (by omega),hasx];exact congrArg some (Y8 he' (s++x) _ hpar)
  have hdrop:List.drop (D++dotS F).length ((D++dotS F)++e::(s++x))=e::(s++x):=List.drop_left;have hdrop1:List.drop ((D++dotS F).length+1) ((D++dotS F)++e::(s++x))=s++x:=by rw[<-Ud,hdrop];rfl
  have hd0:(D++dotS F).length<=40000:=by rw[Ea];omega
  have hw1:w64 (((D++dotS F).length:Int)+1)=(((D++dotS F).length+1:Nat):Int):=by rw[zM (by omega) (by omega)];omega
  simp only[t2,Aa];rw[Ga (show(((D++dotS F).length:Nat):Int)>=0 by omega),Ca,hw1,hass];have hlt2:(D++dotS F).length+1<=((D++dotS F)++e::(s++x)).length:=by rw[Ea (bs:=e::(s++x)),Fa];omega
  rw[zo (by grind),Oa,hdrop1];have hxh: ∀c r,x=c::r->List.contains [43,45] c=false:=by intro c r e;subst e;rw[Yc,Da]at hx;exact(Oh hx.1).2.2.2.2
  have t4:Pk (s++x,[43,45])=some x:=by unfold Pk;rw[zo (show(short ([43,45]:Str)&&dh [43,45])=true by decide)];exact congrArg some (A7 hs hxh)
  have hxl:x.length<=40000:=by omega
  have hml:maxLen=9223372036854775807:=rfl;simp only[t4,Aa];rw[zo (Ga (by omega))];have hcap:=Nl 1048576 x 0 (Mc _);rw[Zk (DR (cap:=1048576) hx (by omega) (by omega) (fun v i hi=> ?_) (fun v=> ?_))]
  ·have hg8: ∃y8,geti ((D++dotS F)++e::(s++x)) (((D++dotS F).length+1:Nat):Int)=some y8/\(((y8.toNat:Int)==45)=(s==[45])):=by
    have hgg: ∀(b:UInt8) (r:Str),s++x=b::r->geti ((D++dotS F)++e::(s++x)) (((D++dotS F).length+1:Nat):Int)=some b:=by
     intro b r e1;unfold geti;have:((D++dotS F)++e::(s++x))[(D++dotS F).length+1]? =some b:=by rw[rf (by omega),show(D++dotS F).length+1 - (D++dotS F).length=1 by omega,Pf,e1];rfl
     rw[Oa,this,Ga (by omega)];rfl
    rcases tu hs with rfl|rfl|rfl
    ·cases hxx:x with
     |nil=>grind
     |cons c r=>
      refine⟨c,by grind,?_⟩;have:=hxh c r hxx;refine Ia.2 (fun e=> ?_);have h45:c=45:=Cf.1 (by grind)
      grind
    ·grind
    ·grind
   obtain⟨y8,h8,h8'⟩:=hg8;simp only[h8,Aa];rw[h8'];have hj:(bif s==[45]then(some (LX.out ((D++dotS F)++e::(s++x),3,w64 (0 - ((capF 1048576 0 x:Nat):Int)))):Option (LX (Str×Int×Int) (LX (Str×Int) Int)))else some (LX.out ((D++dotS F)++e::(s++x),3,((capF 1048576 0 x:Nat):Int))))
     =some (LX.out ((D++dotS F)++e::(s++x),3,expV (some (e,s,x)))):=by
    unfold expV;simp only;cases s==[45]with
    |true=>rw[Ca,Ka rfl,zM (by omega) (by omega)];simp
    |false=>grind
   have hEb:expV (some (e,s,x))<=1048576/\ -1048576<=expV (some (e,s,x)):=by unfold expV;simp only;split<;>omega
   refine(congrArg (fun o=>zP (zP o _) _) hj).trans ?_;simp only[zk];rw[show decide ((((D++dotS F).length:Nat):Int)<=((((D++dotS F)++e::(s++x)).length:Nat):Int))=true from Ga (by omega),zo (by rfl)];simp only[zk,Oa,List.take_left];rw[zM (by omega) (by omega)];exact dP (E:=expV (some (e,s,x))) hD hF (by omega) (by omega) (by omega) y1 sg hyy hsh
  ·simp_all
  ·grind
theorem Uy{n:Nat}(h:n<16):Qw (hexD n)=true/\hexN (hexD n)=n/\(hexD n==10)=false/\letB (hexD n)=true:=by
 have: ∀n:Nat,n<16->Qw (hexD n)=true/\hexN (hexD n)=n/\(hexD n==10)=false/\letB (hexD n)=true:=by decide+kernel
 exact this n h
theorem fF{k n:Nat}{c:UInt8}{r:Str}(h:Qw c=true):hexes (k+1) n (c::r)=hexes k (16*n+hexN c) r:=by rw[hexes,Ka h]
theorem O8{n:Nat}(h:n<256)(R:Str):hexes 6 0 (hexS n++32::R)=(n,32::R):=by
 unfold hexS;by_cases c:n<16
 ·obtain⟨a,b,_⟩:=Uy c;rw[Ka c,Ld,fF a,b,Sy _ _ (32::R) (show Qw 32=false by decide)];simp
 ·obtain⟨a,b,_⟩:=Uy (show n / 16<16 by omega);obtain⟨e,d,_⟩:=Uy (show n%16<16 by omega);rw[Ja c,Bb,Ld,fF a,fF e,b,d,Sy _ _ (32::R) (show Qw 32=false by decide)]
  grind
theorem xK{n:Nat}(h:n<256)(R:Str): ∃d t,hexS n++R=d::t/\Qw d=true/\(d==10)=false:=by
 unfold hexS;by_cases c:n<16
 ·obtain⟨a,_,b,_⟩:=Uy c;simp_all
 ·obtain⟨a,_,b,_⟩:=Uy (show n / 16<16 by omega);exact⟨_,_,by rw[Ja c];rfl,a,b⟩
theorem TR{c:UInt8}(a:c≠0)(h:c.toNat<128):xg c.toNat=[c]:=by
 have b:c.toNat≠0:=by intro e;exact a (Cf.1 e)
 unfold xg;rw[Ja (by omega),Ka h,ic]
theorem TS{r:Str}(h:escS (92::r)=true):zt (92::r)=((zA r).1++(zt (zA r).2).1,(zt (zA r).2).2):=by rw[zZ,Ja (by decide),Ka h]
theorem vP{c:UInt8}(h0:c≠0)(h:c.toNat<128)(R:Str):zt (escC c++R)=(c::(zt R).1,(zt R).2):=by
 unfold escC;cases hg:decide (32<c.toNat)&&decide (c.toNat<127)&& !digB c&& !alB c with
 |true=>
  rw[Ca];have hx:Qw c=false/\(c==10)=false:=by
   have: ∀n:Nat,n<256->(decide (32<(UInt8.ofNat n).toNat)&&decide ((UInt8.ofNat n).toNat<127)&& !digB (UInt8.ofNat n)&& !alB (UInt8.ofNat n))=true->Qw (UInt8.ofNat n)=false/\(UInt8.ofNat n==10)=false:=by decide+kernel
   have:=this c.toNat (Ib c);rw[ic]at this;exact this hg
  have he:zA (c::R)=([c],R):=by show(if Qw c then _ else _)=_;rw[Ja (by rw[hx.1];decide)]
  rw[show [92,c]++R=92::c::R from rfl,TS (by unfold escS;rw[show atS (92::c::R) 0=92 from rfl,show atS (92::c::R) 1=c from rfl,hx.2];rfl),he];rfl
 |false=>
  rw[Ba,Bb,Na];obtain⟨d,t,e,hd,h10⟩:=xK (n:=c.toNat) (Ib c) ([32]++R);have he:zA (hexS c.toNat++([32]++R))=([c],R):=by have hh:=O8 (n:=c.toNat) (Ib c) R;rw[show(32::R:Str)=[32]++R from rfl,e]at hh;rw[e];show(if Qw d then(xg (hexes 6 0 (d::t)).1,unsp (hexes 6 0 (d::t)).2)else _)=_;rw[Ka hd,hh,TR h0 h];rfl
  rw[TS (by rw[e];unfold escS;rw[show atS (92::d::t) 0=92 from rfl,show atS (92::d::t) 1=d from rfl,h10];rfl),he];rfl
theorem II{c:UInt8}(h: ¬c.toNat<128):letB c=true/\digB c=false:=by
 have: ∀n:Nat,n<256-> ¬(UInt8.ofNat n).toNat<128->letB (UInt8.ofNat n)=true/\digB (UInt8.ofNat n)=false:=by decide+kernel
 have:=this c.toNat (Ib c);simp_all
theorem A8{dash:Bool}{k:Nat}{c:UInt8}(e:c≠0)(f:dash=true->c.toNat<128)(R:Str):zt (pcW dash k c++R)=(c::(zt R).1,(zt R).2):=by
 unfold pcW;cases d:letB c&&(k==0|| !digB c)&& !dash with
 |true=> rw[Da,Da]at d;rw[Ca,Ld,zZ,Ka d.1.1]
 |false=>
  rw[Ba];refine vP e ?_ R;by_cases h:c.toNat<128
  ·exact h
  ·obtain⟨a,b⟩:=II h
   grind
theorem pQ{dash:Bool}: ∀(k:Nat) (l:Str),ZA l=true->(dash=true-> ∀c∈l,c.toNat<128)->zt (encW dash k l)=(l,[])
 |_,[],_,_=>by rw[encW,Qx]
 |k,c::r,h,a=>by unfold ZA at h;rw[Yc,Da]at h;rw[encW,A8 (by grind) (fun e=>a e c (Ac ..)),pQ (k - 1) r h.2 (fun e x b=>a e x (Cc _ b))]
theorem zC1{l:Str}(h:ZA l=true):zt (ZU l)=(l,[]):=by refine pQ _ _ h (fun e c a=> ?_);simp_all
theorem bE{dash:Bool}{k:Nat}(hk:0<k)(c:UInt8)(R:Str): ∃d t,pcW dash k c++R=d::t/\(d=92/\escS (d::t)=true\/(d=c/\dash=false/\letB d=true/\digB d=false/\t=R)):=by
 have hk0:(k==0)=false:=by rw[Ia];omega
 unfold pcW;rw[hk0,Xb];cases hg:letB c&& !digB c&& !dash with
 |true=> rw[Da,Da,He,He]at hg;exact⟨c,R,rfl, .inr ⟨rfl,hg.2,hg.1.1,hg.1.2,rfl⟩⟩
 |false=>
  rw[Ba];unfold escC;cases hg2:decide (32<c.toNat)&&decide (c.toNat<127)&& !digB c&& !alB c with
  |true=>
   refine⟨92,c::R,rfl, .inl ⟨rfl,?_⟩⟩;have:c≠10:=by rintro rfl;revert hg2;decide
   unfold escS;rw[show atS (92::c::R) 1=c from rfl,Ia.2 this];rfl
  |false=> obtain⟨d,t,e,hd,h10⟩:=xK (n:=c.toNat) (Ib c) ([32]++R);refine⟨92,_,by rw[Ba,Bb,Na], .inl ⟨rfl,?_⟩⟩;rw[e];unfold escS;rw[show atS (92::d::t) 1=d from rfl,h10];rfl
theorem wR{d:UInt8}(h:letB d=true)(h2:digB d=false):fstB d=true\/d=45:=by
 unfold letB at h
 grind
theorem X3{d:UInt8}{t:Str}(a:d=92)(h:escS (d::t)=true):nmS (d::t)=true:=by subst a;unfold nmS;rw[show atS (92::t) 0=92 from rfl,Ja (by decide),h,Fe]
theorem Um{l:Str}(h:l≠[]):nmS (ZU l)=true:=by
 cases l with
 |nil=>grind
 |cons c r=>
  unfold ZU encW;obtain⟨d,t,e,u⟩:=bE (dash:=(c::r:Str)==[45]) (k:=qm (c::r)) (by unfold qm;split<;>omega) c (encW ((c::r:Str)==[45]) (qm (c::r) - 1) r);rw[e];rcases u with⟨q,j⟩|⟨rfl,j,x,v,o⟩
  ·exact X3 q j
  ·rcases wR x v with p|rfl
   ·by_cases m:d=45
    ·subst m;exact absurd p (by decide)
    ·unfold nmS;rw[show atS (d::t) 0=d from rfl,Ja (by grind),p,jc]
   ·have C:r≠[]:=by rintro rfl;exact absurd j (by decide)
    cases r with
    |nil=>grind
    |cons f g=>
     have A:qm (45::f::g)=2:=rfl;rw[A]at o;obtain⟨a,b,y,n⟩:=bE (dash:=(45::f::g:Str)==[45]) (k:=2 - 1) (by omega) f (encW ((45::f::g:Str)==[45]) (2 - 1 - 1) g);have z:t=a::b:=by rw[o,encW,y]
     rw[z];unfold nmS;rw[show atS (45::a::b) 0=45 from rfl,Ka (show((45:UInt8)==45)=true from rfl),show atS (45::a::b) 1=a from rfl,show(45::a::b:Str).drop 1=a::b from rfl];rcases n with⟨_,B⟩|⟨_,_,s,w,_⟩
     ·grind
     ·rcases wR s w with i|rfl
      ·rw[i];rfl
      ·simp
def hdB(b:UInt8):Bool:=b==45||fstB b||b==92
theorem Dt{q:Str}(h:nmS q=true):hdB (atS q 0)=true:=by
 unfold nmS at h;unfold hdB;cases a:atS q 0==45 with
 |true=>rfl
 |false=>
  rw[a,Ja (by decide),Sb]at h;rcases h with h|h
  ·rw[h];rfl
  ·unfold escS at h
   grind
theorem Fx{b:UInt8}(h:hdB b=true):spB b=false/\(b==34)=false/\(b==39)=false/\(b==35)=false/\(b==64)=false/\(b==47)=false/\(b==60)=false/\(b==43)=false/\(b==46)=false/\digB b=false/\b≠0:=by
 have: ∀n:Nat,n<256->hdB (UInt8.ofNat n)=true->spB (UInt8.ofNat n)=false/\(UInt8.ofNat n==34)=false/\(UInt8.ofNat n==39)=false/\(UInt8.ofNat n==35)=false/\(UInt8.ofNat n==64)=false/\(UInt8.ofNat n==47)=false/\(UInt8.ofNat n==60)=false/\(UInt8.ofNat n==43)=false/\(UInt8.ofNat n==46)=false/\digB (UInt8.ofNat n)=false/\UInt8.ofNat n≠0:=by decide+kernel
 have:=this b.toNat (Ib b);simp_all
theorem NZ{q:Str}(h:nmS q=true):nbS q=false:=by
 obtain⟨_,_,_,_,_,_,_,a,j,f,_⟩:=Fx (Dt h);unfold nbS unsign Lg;rw[a,Xb];cases b:atS q 0==45 with
 |false=>
  rw[Ja (by decide)];unfold undot
  grind
 |true=>
  rw[Ka rfl];unfold nmS at h;rw[b,Ka rfl]at h;have i:hdB (atS q 1)=true:=by
   unfold hdB;cases e:fstB (atS q 1)with
   |true=>simp
   |false=>
    cases g:atS q 1==45 with
    |true=>rfl
    |false=> rw[e,g,Xb,Xb]at h;unfold escS at h;rw[Da,Oi]at h;rw[h.1];rfl
  obtain⟨_,_,_,_,_,_,_,_,d,c,_⟩:=Fx i;unfold undot;rw[Oi,d,Ja (by decide),Oi,c]
theorem vZ{s r:Str}:(decide ((0:Int)<=(beh s r:Int))&&decide ((beh s r:Int)<=(s.length:Int)))=true:=by
 have:=Mi s r
 grind
theorem wO{s r:Str}(a:r<:+s):List.drop ((beh s r:Int)).toNat s=r:=by rw[Oa,jq a]
theorem iO{a b:UInt8}{m t:Str}(h:(b==a)=false):(a::m).isPrefixOf (b::t)=false:=by
 grind
theorem zIi{a:UInt8}{m q:Str}(c:a≠0)(h:(atS q 0==a)=false):(a::m).isPrefixOf q=false:=by
 cases q with
 |nil=>rfl
 |cons b t=>exact iO h
theorem Jn(m:UInt8):Zo m []=(some [],[]):=by rw[Zo]
theorem Q3(m c:UInt8)(r:Str):Zo m (c::r)=if c==m then(some [],r)
  else if c==10 then(none,c::r)
  else if c==92 then
   (if r.isEmpty then(some [],[])
   else if atS r 0==10 then Zo m (r.drop 1)
   else((Zo m (zA r).2).1.map ((zA r).1++ ·),(Zo m (zA r).2).2))
  else((Zo m r).1.map (c:: ·),(Zo m r).2):=by rw[Zo]
theorem jF(m:UInt8)(l:Str):(Zo m l).2<:+l:=by
 match l with
 |[]=>rw[Jn];grind
 |c::r=>
  rw[Q3];have a:=jd c r;split
  ·exact a
  ·split
   ·grind
   ·split
    ·split
     ·grind
     ·split
      ·exact(jF m (r.drop 1)).trans ((Bf 1 r).trans a)
      ·have:=Zv r;exact(jF m (zA r).2).trans ((Zw r).trans a)
    ·exact(jF m r).trans a
termination_by l.length
decreasing_by
 all_goals grind
theorem Cy(a b:Str)(x:Option Str):(x.map (b++ ·)).map (a++ ·)=x.map ((a++b)++ ·):=by
 cases x with
 |none=>rfl
 |some t=>grind
theorem fE(a:Str)(b:UInt8)(x:Option Str):(x.map (b:: ·)).map (a++ ·)=x.map ((a++[b])++ ·):=Cy a [b] x
def Nk:Option Str->ze
 |some t=>⟨5,t,0,[],false⟩
 |none=>⟨6,[],0,[],false⟩
theorem zIl{s q:Str}{m:UInt8}(k:s.length<=big)(w:m::q<:+s):Qn (sr s (m::q))=some (Nk (Zo m q).1,sr s (Zo m q).2):=by
 have J:big=4194304:=rfl;have D:=Zq w;unfold Qn;simp only[za,Xh k w,Aa,Uq,Ai k w]
 let g:LX (zb×ze×List UInt8) (ze×zb):=match(Zo m q).1 with
  |some t=> .out (sr s (Zo m q).2,⟨0,[],0,[],false⟩,t)
  |none=> .ret (⟨6,[],0,[],false⟩,sr s (Zo m q).2)
 rw[Ri (r:=g)]
 ·show LX.go g _=_;cases h:(Zo m q).1 with
  |some t=>simp only[g,h];rfl
  |none=>simp only[g,h];rfl
 refine ZI (fun z=> ∃(p e:Str),z=(sr s p,⟨0,[],0,[],false⟩,e)/\p<:+s/\e.length+4*p.length<=4*s.length/\(Zo m q).1=(Zo m p).1.map (e++ ·)/\(Zo m q).2=(Zo m p).2) (fun z=>s.length - z.1.at_.toNat) _ ?_
  ⟨q,[],rfl,D,by grind,by simp,rfl⟩
 rintro _ ⟨p,e,rfl,j,C,b,a⟩;simp only[Xh k j,Aa,Kq,YN,dZ];cases p with
 |nil=>
  refine .inr (.inl ⟨_,rfl,?_⟩);rw[Jn]at b a
  grind
 |cons c t=>
  have i:=j.length_le;rw[Fa]at i C;have n:=Zq j;rw[Q3]at b a;rw[show(c::t).isEmpty=false from rfl,Ba,Uq,show((c.toNat:Int)==(m.toNat:Int))=(c==m)from Ph c m,show atS (c::t) 0=c from rfl,Ai k j];have f: ∀u:Str,u.length<=t.length->u<:+s->s.length - beh s u<s.length - beh s (c::t):=by intro u A F;unfold beh;rw[Fa];omega
  cases v:c==m with
  |true=>
   grind
  |false=>
   rw[v,Ja (by decide)]at b a;rw[Ba];cases y:c==10 with
   |true=>
    grind
   |false=>
    rw[y,Ja (by decide)]at b a;rw[Ba];cases l:c==92 with
    |false=> rw[l,Ja (by decide)]at b a;simp only[zq,Ba,Aa,Ec,xy];rw[zo (Mh (by omega))];exact .inl ⟨_,rfl,⟨t,e++[c],rfl,n,by grind,by rw[b,fE],a⟩,f t (by omega) n⟩
    |true=>
     rw[l,Ka rfl]at b a;simp only[zq,Ca,Ox k j,Aa,Lb];have x:pk (c::t) 1=pk t 0:=rfl;rw[x,Kq];cases t with
     |nil=>
      rw[show([]:Str).isEmpty=true from rfl,Ka rfl]at b a;have o:beh s [c]=s.length - 1:=rfl;have G:(if((s.length:Int)<w64 ((beh s [c]:Int)+2))then(s.length:Int)else w64 ((beh s [c]:Int)+2))=((beh s []:Nat):Int):=by rw[zM (by omega) (by omega),Ka (by omega)];unfold beh;rw[Ua];omega
      refine .inl ⟨(sr s [],⟨0,[],0,[],false⟩,e),?_,⟨[],e,rfl,List.nil_suffix,by grind,by rw[b,Jn],by rw[a,Jn]⟩,f [] (by simp) List.nil_suffix⟩
      grind
     |cons d u=>
      rw[show(d::u).isEmpty=false from rfl,Ja (by decide)]at b a;simp only[show(d::u).isEmpty=false from rfl,Ra,Ca,Ba,Aa,YN];cases B:atS (d::u) 0==10 with
      |true=>
       rw[B,Ka rfl]at b a;have A:=Zq n;rw[Fa]at i C;have o:beh s (c::d::u)=s.length - (u.length+1+1):=by unfold beh;rw[Fa,Fa]
       have G:(if((s.length:Int)<w64 ((beh s (c::d::u):Int)+2))then(s.length:Int)else w64 ((beh s (c::d::u):Int)+2))=((beh s u:Nat):Int):=by rw[zM (by omega) (by omega),Ja (by omega)];unfold beh;rw[Fa,Fa];omega
       refine .inl ⟨(sr s u,⟨0,[],0,[],false⟩,e),?_,⟨u,e,rfl,A,by omega,b,a⟩,f u (by grind) A⟩
       grind
      |false=> rw[B,Ja (by decide)]at b a;have H:=xq (d::u);have E:=Zv (d::u);refine .inl ⟨(sr s (zA (d::u)).2,⟨0,[],0,[],false⟩,e++(zA (d::u)).1),?_,⟨_,_,rfl,(Zw _).trans n,by grind,by rw[b,Cy],a⟩,f _ E ((Zw _).trans n)⟩;simp only[Ba,kK k j (show e.length<=1000000000 by omega),Aa]
end Go.Lv.VT
