/- A number that is written is read as the same: token.Value. -/
import Derived.Test.YtkecjfeffabgiaaGreatDoorXb
set_option linter.unusedSimpArgs false
set_option linter.unusedVariables false
namespace Go.Lv.VT
set_option maxRecDepth 100000
def partT(r:Nat)(p:Bool):Str:=bif (Gi r).isEmpty then(bif p then [48]else [])else Gi r
theorem Sm{r:Nat}(h:r<1000)(p:Bool):(partT r p).all digB=true/\(partT r p).length<=3/\valG 0 (partT r p)*10 ^ (3 - (partT r p).length)=r/\Vi r p=(bif (partT r p).isEmpty then []else 46::partT r p)/\((partT r p).isEmpty=((r==0)&& !p)):=by
 have f:=ME r h;simp only[Ex,Da,Eb,ma]at f;obtain⟨⟨⟨⟨a,b⟩,c⟩,d⟩,e⟩:=f;unfold partT Vi;cases g:(Gi r).isEmpty with
 |true=>
  have i:r=0:=by rw[g]at d;exact ma.1 d.symm
  subst i;cases p<;>refine⟨by decide,by decide,by decide,rfl,rfl⟩
 |false=>
  grind
theorem D9{l:Str}(h:(l.all fun b=>digB b||b==46)=true):ah l=true:=by
 unfold ah;rw[Ab]at h ⊢;intro b hb;have:=h b hb;refine Ga ?_;rw[Sb]at this;rcases this with h1|h1
 ·have:=Br h1;omega
 simp_all
theorem C9{m:Nat}(p:Bool):((Ug m p).all fun b=>digB b||b==46)=true:=by
 obtain⟨d,_,_⟩:=Iu (m / 1000);obtain⟨g,_,_,e,_⟩:=Sm (r:=m%1000) (by omega) p;have f: ∀l:Str,l.all digB=true->(l.all fun b=>digB b||b==46)=true:=by intro l a;rw[Ab]at a ⊢;intro b c;rw[a b c];rfl
 unfold Ug
 grind
theorem Az(u:Nat): ∃c r,Lib.decDigits u=c::r/\digB c=true:=by
 obtain⟨b,_,a⟩:=Iu u;cases h:Lib.decDigits u with
 |nil=>exact absurd h a
 |cons c r=>grind
theorem Nh{c:UInt8}(h:digB c=true):c≠45/\c≠43/\c≠46/\c≠0/\List.contains [43,45] c=false:=by
 have: ∀n:Nat,n<256->digB (UInt8.ofNat n)=true->UInt8.ofNat n≠45/\UInt8.ofNat n≠43/\UInt8.ofNat n≠46/\UInt8.ofNat n≠0/\List.contains [43,45] (UInt8.ofNat n)=false:=by decide+kernel
 have:=this c.toNat (Ib c);simp_all
theorem zEf{m:Nat}(p:Bool): ∃f,Lib.cut (Ug m p) [46]=(Lib.decDigits (m / 1000),partT (m%1000) p,f):=by
 obtain⟨a,_,_⟩:=Iu (m / 1000);obtain⟨_,_,_,b,_⟩:=Sm (r:=m%1000) (by omega) p;unfold Ug Lib.cut;rw[aF,b];cases c:(partT (m%1000) p).isEmpty with
 |true=> rw[Ca,Db,xI _ a,Ja (by decide)];simp_all
 |false=> rw[Ba,yI _ _ a,Ka (by omega)];simp_all
theorem zq7{n:Int}(S: -1000000000000<=n)(h2:n<=1000000000000)(p:Bool):qN (numT n p)=some n:=by
 obtain⟨m,B⟩: ∃m:Nat,n.natAbs=m:=⟨_,rfl⟩;have k:m<=1000000000000:=by omega
 obtain⟨c,r,E,y⟩:=Az (m / 1000);obtain⟨h,C,_,_,t⟩:=Nh y;have d:Ug m p=c::(r++Vi (m%1000) p):=by unfold Ug;rw[E];rfl
 have A:=wy k p;obtain⟨f,j⟩:=zEf (m:=m) p;obtain⟨X,L,Y⟩:=Iu (m / 1000);obtain⟨T,U,K,V,W⟩:=Sm (r:=m%1000) (by omega) p;have H:=ym (u:=m / 1000) (by omega);have o:short (Ug m p)=true:=Ga (by omega);have w:Lib.trimLeftS (Ug m p) [43,45]=Ug m p:=by rw[d];unfold Lib.trimLeftS;rw[yc,t];rfl
 have J:Lib.trimLeftS (numT n p) [43,45]=Ug m p:=by
  unfold numT;rw[B];by_cases g:n<0
  ·rw[Ka g];show List.dropWhile _ (45::Ug m p)=_;simp_all
  ·grind
 have Q: ∃b,geti (numT n p) 0=some b/\(((b.toNat:Int)==45)=decide (n<0)):=by
  unfold numT;rw[B];by_cases g:n<0
  ·rw[Ka g,Ga g];exact⟨45,rfl,rfl⟩
  ·rw[Ja g,La g];refine⟨c,by rw[d];rfl,Ia.2 (fun e=>h ?_)⟩;exact Cf.1 (by grind)
 obtain⟨b,x,z⟩:=Q;unfold qN;simp only[za,x,Aa];have O:Nk (numT n p,[43,45])=some (Ug m p):=by unfold Nk;rw[zo (show(short ([43,45]:Str)&&ah [43,45])=true by decide)];exact congrArg some J
 have M:ek (Ug m p,[101,69])=some (-1):=by unfold ek;rw[zo (by simp only[o,D9 (C9 p),Lb,aa];decide)];exact congrArg some (uI _ (C9 p))
 have P:cutF (Ug m p,[46])=some (Lib.decDigits (m / 1000),partT (m%1000) p,f):=by unfold cutF;rw[zo (by exact o)];exact congrArg some j
 simp only[O,M,Aa,show decide ((-1:Int)>=0)=false from rfl,Ba,zk,P];rw[zo (zV.2 (by omega))];have N:w64 (3 - ((partT (m%1000) p).length:Int))=((3 - (partT (m%1000) p).length:Nat):Int):=by rw[zM (by omega) (by omega)];omega
 rw[N,La (by omega),Ba,zk];simp only;have D:maxLen=9223372036854775807:=rfl;rw[zo (Ga (by grind))];have q:valG 0 (Lib.decDigits (m / 1000)++partT (m%1000) p)*10 ^ (3 - (partT (m%1000) p).length)=m:=by rw[EE,L,Xx,je,K,og,<-Nat.pow_add,show(partT (m%1000) p).length+(3 - (partT (m%1000) p).length)=3 by omega];omega
 have s:valG 0 (Lib.decDigits (m / 1000)++partT (m%1000) p)<=1000000000000:=by have:=Ie (valG 0 (Lib.decDigits (m / 1000)++partT (m%1000) p)) (jf (n:=3 - (partT (m%1000) p).length) (show 0<10 by omega));omega
 rw[Zk (zFz (l:=Lib.decDigits (m / 1000)++partT (m%1000) p) (by grind) (by grind) s (fun v i R=> ?_) (fun v=> ?_))]
 ·rw[Zk (zAl (by omega) (by grind) (fun a b=> ?_)),q]
  ·rw[z];by_cases g:n<0
   ·rw[Ga g,Ca,zk,zM (by omega) (by omega)];congr 1;omega
   ·rw[La g,Ba,zk];congr 1;omega
  ·simp only
 ·have F:decide ((i:Int)<((Lib.decDigits (m / 1000)++partT (m%1000) p).length:Int))=true:=Ga (by omega);have G:decide ((0:Int)<=(i:Int))=true:=Ga (by omega);simp only[F,G,Ca,Lb,zF,Oa,Xa R,Aa]
 ·grind
theorem zGL(n:Int)(p:Bool):(n<0/\numT n p=45::Ug n.natAbs p)\/(¬n<0/\numT n p=Ug n.natAbs p):=by
 unfold numT
 grind
theorem zAL(m:Nat)(p:Bool): ∃c r,Ug m p=c::r/\digB c=true:=by obtain⟨c,r,h,a⟩:=Az (m / 1000);exact⟨c,r++Vi (m%1000) p,by unfold Ug;rw[h];rfl,a⟩
theorem Xn{n:Int}(b: -1000000000000<=n)(h2:n<=1000000000000)(p:Bool):(numT n p).length<=25/\1<=(numT n p).length:=by
 have:=wy (m:=n.natAbs) (by omega) p;obtain⟨c,r,a,_⟩:=zAL n.natAbs p;rcases zGL n p with⟨_,h⟩|⟨_,h⟩
 ·grind
 grind
theorem ZJ{n:Nat}(h:n<256):qb ((n:Nat):Int)=some (UInt8.ofNat n):=by
 unfold qb
 grind
theorem UI(n k:Nat)(a:k<=32):mh .i32 (n:Int) (k:Int)=((n / 2 ^ k:Nat):Int):=by
 unfold mh;rw[show(min ((k:Int).toNat) IntKind.i32.bits)=k by show min k 32=k;omega]
 grind
theorem shr6(n:Nat):mh .i32 (n:Int) 6=((n / 64:Nat):Int):=UI n 6 (by omega)
theorem nZ(n:Nat):mh .i32 (n:Int) 12=((n / 4096:Nat):Int):=UI n 12 (by omega)
theorem mZ(n:Nat):mh .i32 (n:Int) 18=((n / 262144:Nat):Int):=UI n 18 (by omega)
theorem zKh(n:Int):IntKind.u8.wrap n=n%256:=by simp[IntKind.wrap,IntKind.bits,IntKind.signed]
theorem zIG(n:Int):IntKind.u32.wrap n=n%4294967296:=by simp[IntKind.wrap,IntKind.bits,IntKind.signed]
theorem Io{n:Nat}(h:n<2147483648):w32 (n:Int)=(n:Int):=by show IntKind.i32.wrap _=_;simp only[IntKind.wrap,IntKind.bits,IntKind.signed];simp;omega
theorem vP{n:Nat}(h:n<2147483648):wu32 (n:Int)=(n:Int):=by show IntKind.u32.wrap _=_;rw[zIG];omega
theorem Nu(n:Nat):wu8 (n:Int)=((n%256:Nat):Int):=by show IntKind.u8.wrap (n:Int)=_;rw[zKh];omega
theorem eQ(n:Nat):ibOr .u8 128 (Ui .u8 (wu8 (n:Int)) 63)=((128+n%64:Nat):Int):=by
 have: ∀m:Nat,m<256->ibOr .u8 128 (Ui .u8 ((m:Nat):Int) 63)=((128+m%64:Nat):Int):=by decide+kernel
 rw[Nu,this _ (Uf _ (by omega)),show n%256%64=n%64 by omega]
theorem lZ{n:Nat}(h:n<32):ibOr .u8 192 (wu8 (n:Int))=((192+n:Nat):Int):=by
 have: ∀m:Nat,m<32->ibOr .u8 192 (wu8 ((m:Nat):Int))=((192+m:Nat):Int):=by decide+kernel
 exact this n h
theorem WH{n:Nat}(h:n<16):ibOr .u8 224 (wu8 (n:Int))=((224+n:Nat):Int):=by
 have: ∀m:Nat,m<16->ibOr .u8 224 (wu8 ((m:Nat):Int))=((224+m:Nat):Int):=by decide+kernel
 exact this n h
theorem kZ{n:Nat}(h:n<8):ibOr .u8 240 (wu8 (n:Int))=((240+n:Nat):Int):=by
 have: ∀m:Nat,m<8->ibOr .u8 240 (wu8 ((m:Nat):Int))=((240+m:Nat):Int):=by decide+kernel
 exact this n h
theorem Lh{n m:Nat}(h:n+m<=2000000000):Zj n m 1=true:=by unfold Zj;grind
theorem rZ{n:Nat}(o:n≠0)(h:n<16777216){l:Str}(m:l.length<=1000000000):qP (w32 (n:Int),l)=some (l++xg n):=by
 have j:Zj l.length 1 1=true:=Lh (by omega);have f:Zj l.length 2 1=true:=Lh (by omega);have d:Zj l.length 3 1=true:=Lh (by omega);have g:Zj l.length 4 1=true:=Lh (by omega);have c:(128+n%64)<256:=by omega
 have a:(128+n / 64%64)<256:=by omega
 have b:(128+n / 4096%64)<256:=by omega
 unfold qP qX xg;simp only[Io (show n<2147483648 by omega),vP (show n<2147483648 by omega),za,shr6,nZ,mZ,eQ,ZJ c,ZJ a,ZJ b,Aa];by_cases e:n<128
 ·rw[Ga (by omega),Ca,Nu,ZJ (by omega),Aa,zo j,Ja (by omega),Ka e,ve (by omega)]
 ·rw[La (by omega),Ba];by_cases i:n<2048
  ·rw[Ga (by omega),Ca,lZ (by omega),ZJ (by omega)];simp only[Aa];rw[zo f,Ja (by omega),Ja (by omega),Ka i];rfl
  ·rw[La (by omega),Ba];by_cases p:n<55296
   ·rw[Ga (by omega),Ca,zk];simp only[Ca];rw[WH (by omega),ZJ (by omega)];simp only[Aa];rw[zo d,Ja (by omega),Ja (by omega),Ja (by omega),Ka (by omega)];rfl
   ·rw[La (by omega),Ba,zk];simp only[P5];by_cases k:57343<n/\n<65536
    ·rw[Ga (by omega),Ga (by omega),Lb,Ca,WH (by omega),ZJ (by omega)];simp only[Aa];rw[zo d,Ja (by omega),Ja (by omega),Ja (by omega),Ka (by omega)];rfl
    ·rw[show(decide ((57343:Int)<(n:Int))&&decide ((n:Int)<=65535))=false by grind,Ba];by_cases q:65535<n/\n<=1114111
     ·rw[Ga (by omega),Ga (by omega),Lb,Ca,kZ (by omega),ZJ (by omega)];simp only[Aa];rw[zo g,Ja (by omega),Ja (by omega),Ja (by omega),Ja (by omega)];rfl
     ·rw[show(decide ((n:Int)>65535)&&decide ((n:Int)<=1114111))=false by grind,Ba,zo d,Ka (by omega)];rfl
theorem iR{l:Str}(a:l.length<=1000000000):qP (65533,l)=some (l++Hl):=by have h:=rZ (n:=65533) (by omega) (by omega) a;rw[Io (by omega)]at h;exact h
theorem Zq{s:Str}{c:UInt8}{l:Str}(h:c::l<:+s):l<:+s:=(jd c l).trans h
theorem yh{s:Str}{c:UInt8}{l:Str}(d:s.length<=big)(h:c::l<:+s):w64 ((beh s (c::l):Int)+1)=(beh s l:Int):=by
 have b:big=4194304:=rfl;have a:=h.length_le;rw[Fa]at a;have e:beh s (c::l)+1=beh s l:=by unfold beh;rw[Fa];omega
 have:=Li s l;rw[zM (by omega) (by omega)];omega
theorem Tq(c:UInt8)(l:Str):pk (c::l) 0=(c.toNat:Int):=rfl
theorem uy(c:UInt8):qb (wu8 ((c.toNat:Nat):Int))=some c:=by rw[Nu,ve (Ib c),ZJ (Ib c),Yc]
theorem Ry{b:UInt8}(h:Qw b=true):hexN b<16:=Ub h
theorem U1{n d:Nat}(hn:n<16777216)(hd:d<16):ibOr .i64 (xB .i64 (n:Int) 4) (d:Int)=((16*n+d:Nat):Int):=by
 have h1:xB .i64 (n:Int) 4=((16*n:Nat):Int):=by unfold xB;rw[show(2:Int) ^ (min (4:Int).toNat IntKind.i64.bits)=16 from rfl];rw[Zx (by omega) (by omega)];omega
 rw[h1];unfold ibOr;have e:(BitVec.ofInt IntKind.i64.bits ((16*n:Nat):Int) ||| BitVec.ofInt IntKind.i64.bits (d:Int)).toNat=16*n+d:=by
  rw[BitVec.toNat_or,BitVec.toNat_ofInt,BitVec.toNat_ofInt];rw[show((((16*n:Nat):Int)%((2 ^ IntKind.i64.bits:Nat):Int)).toNat)=16*n by show(((16*n:Nat):Int)%18446744073709551616).toNat=_;omega,
   show(((d:Int)%((2 ^ IntKind.i64.bits:Nat):Int)).toNat)=d by show((d:Int)%18446744073709551616).toNat=_;omega]
  have:=Nat.two_pow_add_eq_or_of_lt (i:=4) (b:=d) hd n;rw[show 2 ^ 4*n=16*n from rfl]at this;exact this.symm
 rw[e,Zx (by omega) (by omega)]
theorem gu(b:UInt8):decide (hexI b<0)= !Qw b:=by
 unfold hexI
 grind
theorem Py: ∀(k n:Nat) (l:Str),Qw (atS l 0)=false->hexes k n l=(n,l)
 |0,_,_,_=>rfl
 |_+1,_,[],_=>rfl
 |k+1,n,c::r,h=>by unfold hexes;rw[Ja (by rw[show Qw c=false from h];decide)]
theorem EQ {R:Type} {step:(Int×Int)×zb->Option (LO ((Int×Int)×zb) (Int×zb) R)} {s l:Str} (j:l<:+s)
  (h: ∀(n i:Nat) (q:Str),q<:+s->n<16777216->i<=6->step (((n:Int),(i:Int)),sr s q)=some (bif decide (i<6)&&Qw (atS q 0)then .again ((((16*n+hexN (atS q 0):Nat):Int),((i+1:Nat):Int)),sr s (q.drop 1))else .out ((n:Int),sr s q))):
  Mg step ((0,0),sr s l)=some (.out (((hexes 6 0 l).1:Int),sr s (hexes 6 0 l).2)):=by
 refine ZI (fun z=> ∃(n i:Nat) (q:Str),z=(((n:Int),(i:Int)),sr s q)/\q<:+s/\i<=6/\n<16 ^ i/\hexes (6 - i) n q=hexes 6 0 l) (fun z=>6 - z.1.2.toNat) _ ?_ ⟨0,0,l,rfl,j,by omega,by decide,rfl⟩;rintro _ ⟨n,i,q,rfl,g,f,k,d⟩;have e:n<16777216:=Nc k (vg (by omega) f:16 ^ i<=16 ^ 6);rw[h n i q g e f];rcases ic i 6 with b|m
 ·rw[Ga b,aa];cases a:Qw (atS q 0)with
  |true=>
   cases q with
   |nil=>exact absurd a (by decide)
   |cons c r=>
    have o:=Ry a;refine .inl ⟨_,rfl,⟨16*n+hexN (atS (c::r) 0),i+1,r,rfl,Zq g,by omega,?_,?_⟩,by grind⟩
    ·grind
    ·rw[<-d,show 6 - i=(6 - (i+1))+1 by omega];rw[hexes.eq_def ((6 - (i+1))+1) n (c::r)];simp only;rw[Ka (show Qw c=true from a)];rfl
  |false=> refine .inr (.inl ⟨_,rfl,?_⟩);rw[<-d,Py _ _ _ a]
 ·rw[La (by omega),Ob];refine .inr (.inl ⟨_,rfl,?_⟩);rw[<-d,show 6 - i=0 by omega];rfl
theorem JE: ∀(k n:Nat) (l:Str),(hexes k n l).1<16 ^ k*(n+1)
 |0,n,l=>by unfold hexes;omega
 |k+1,n,[]=>by have:0<16 ^ (k+1):=jf (by omega);unfold hexes;exact Nc (lg n) (Nat.le_mul_of_pos_left _ this)
 |k+1,n,c::r=>by
  unfold hexes;cases hx:Qw c with
  |true=> rw[Ka rfl];have h1:=JE k (16*n+hexN c) r;have:=Ry hx;refine Nc h1 ?_;rw[Dg,og];exact Nat.mul_le_mul_left _ (by omega)
  |false=> rw[Ja (by decide)];have:0<16 ^ (k+1):=jf (by omega);exact Nc (lg n) (Nat.le_mul_of_pos_left _ this)
theorem gK{s l acc:Str}{c:UInt8}(hs:s.length<=big)(hr:c::l<:+s)(ha:acc.length<=1000000000):
  Zl (sr s (c::l),acc)=some (sr s (zA l).2,acc++(zA l).1):=by
 have hl:=Zq hr;unfold Zl;simp only[yh hs hr,za,Wh hs hl,Aa,Jq];cases l with
 |nil=> rw[show([]:Str).isEmpty=true from rfl,Ca,iR ha];rfl
 |cons d r=>
  rw[show(d::r).isEmpty=false from rfl,Ba,eH];simp only[Aa,gu];cases hx:Qw (atS (d::r) 0)with
  |false=>
   rw[Ra,Ca,Tq,uy];simp only[Aa,yh hs hl];rw[zo (Lh (by omega))];have:zA (d::r)=([d],r):=by show(if Qw d then _ else _)=_;rw[Ja (by rw[show Qw d=false from hx];decide)]
   rw[this]
  |true=>
   rw[Ta,Ba];have he:zA (d::r)=(xg (hexes 6 0 (d::r)).1,unsp (hexes 6 0 (d::r)).2):=by show(if Qw d then _ else _)=_;rw[Ka (show Qw d=true from hx)]
   rw[he];rw[Zk (EQ (l:=d::r) hl (fun n i q hq hn hi=> ?_))]
   ·have hq:(hexes 6 0 (d::r)).2<:+s:=(Gz 6 0 _).trans hl;have hlt:=JE 6 0 (d::r);rw[show 16 ^ 6*(0+1)=16777216 from rfl]at hlt;simp only[Wh hs hq,Aa,Dy];have hj:(bif spB (atS (hexes 6 0 (d::r)).2 0)then some (LX.out (((hexes 6 0 (d::r)).1:Int),(⟨s,w64 ((beh s (hexes 6 0 (d::r)).2:Int)+1)⟩:zb),acc))else some (LX.out (((hexes 6 0 (d::r)).1:Int),sr s (hexes 6 0 (d::r)).2,acc)):Option (LX (Int×zb×List UInt8) (zb×List UInt8)))
      =some (LX.out (((hexes 6 0 (d::r)).1:Int),sr s (unsp (hexes 6 0 (d::r)).2),acc)):=by
     cases hh:(hexes 6 0 (d::r)).2 with
     |nil=>rfl
     |cons e t=>
      rw[hh]at hq;rw[show atS (e::t) 0=e from rfl,yh hs hq];show _=some (LX.out (_,sr s (if spB e then t else e::t),acc))
      grind
    rw[hj,zk];simp only;by_cases h0:(hexes 6 0 (d::r)).1=0
    ·rw[h0,show((((0:Nat):Int))==0)=true from rfl,Ca,zk];simp only[Io (show 65533<2147483648 by omega),show w32 (65533:Int)=65533 from Io (n:=65533) (by omega),iR ha,Aa];rfl
    ·rw[show(((hexes 6 0 (d::r)).1:Int)==0)=false by grind,Ba,zk];simp only[rZ h0 hlt ha,Aa]
   ·simp only[Wh hs hq,Aa,eH,gu];have hb6:decide ((i:Int)<6)=decide (i<6):=by rw[Bg];omega
    rw[hb6];cases decide (i<6)with
    |false=>rfl
    |true=>
     rw[Ca,aa];cases hx2:Qw (atS q 0)with
     |false=>rfl
     |true=>
      cases q with
      |nil=>exact absurd hx2 (by decide)
      |cons e t=>
       have hI:hexI (atS (e::t) 0)=(hexN (atS (e::t) 0):Int):=by unfold hexI;rw[Ka hx2]
       rw[hI,U1 hn (Ry hx2),yh hs hq,zM (by omega) (by omega)];rfl
theorem zHl{s r:Str}{k:Nat}(b:s.length<=big)(c:r<:+s)(d:k<=4):zD ((k:Int),sr s r)=some (escS (r.drop k)&&decide (k<r.length)):=by
 unfold zD;simp only[za,Np b c (show k<=8 by omega),Aa,fZ];rw[show w64 ((k:Int)+1)=((k+1:Nat):Int) by rw[zM (by omega) (by omega)];omega,Np b c (by omega)];unfold escS;rw[Ni,Ni,Ad];cases h:(atS r k==92)with
 |false=>simp_all
 |true=> have a:k<r.length:=EC (by grind);rw[Ga a];simp only[zq,Ca,Aa,aa,Lb];unfold bne;rw[XN]
theorem zHk{l:Str}(h:escS l=true):0<l.length:=by unfold escS at h;rw[Da]at h;exact EC (by grind)
theorem OE{s r:Str}{k:Nat}(hs:s.length<=big)(hr:r<:+s)(hk:k<=4):zD ((k:Int),sr s r)=some (escS (r.drop k)):=by
 rw[zHl hs hr hk];cases h:escS (r.drop k)with
 |false=>rfl
 |true=> have:=zHk h;rw[Dc]at this;rw[Ga (by omega)];rfl
theorem YJ{s r:Str}(a:s.length<=big)(b:r<:+s):zD (0,sr s r)=some (escS r):=OE (k:=0) a b (by omega)
theorem kN{s r:Str}{k:Nat}(a:s.length<=big)(b:r<:+s)(d:k<=2):zW ((k:Int),sr s r)=some (nmS (r.drop k)):=by
 unfold zW;have c:w64 ((k:Int)+1)=((k+1:Nat):Int):=by rw[zM (by omega) (by omega)];omega
 simp only[c,za,Np a b (show k<=8 by omega),Np a b (show k+1<=8 by omega),Aa,zIt,OE a b (show k<=4 by omega),OE a b (show k+1<=4 by omega)];unfold nmS;rw[Ni,Ni,Td];unfold bne;rw[uB,Ad];cases atS r k==45 with
 |true=>
  simp only[Ta,Ba,Ee];cases fstB (atS r (k+1))with
  |true=>rfl
  |false=>
   simp only[Ra,zq,Ca,Ba,Aa,uB]
   grind
 |false=> simp only[Ra,Ca];cases fstB (atS r k)<;>cases escS (r.drop k)<;>rfl
theorem zFP(n:Nat):(xg n).length<=4:=by
 unfold xg Hl
 grind
theorem xq(l:Str):(zA l).1.length<=4:=by
 cases l with
 |nil=>show Hl.length<=4;decide
 |cons c r=>
  show(if Qw c then(xg (hexes 6 0 (c::r)).1,unsp (hexes 6 0 (c::r)).2)else([c],r)).1.length<=4;split
  ·exact zFP _
  grind
theorem zZ(c:UInt8)(r:Str):zt (c::r)=if letB c then((c::(zt r).1),(zt r).2)
  else if escS (c::r)then((zA r).1++(zt (zA r).2).1,(zt (zA r).2).2)
  else([],c::r):=by rw[zt]
theorem Qx:zt []=([],[]):=by rw[zt]
theorem zJM(l:Str):(pk l 0 != -1)= !l.isEmpty:=by unfold bne;rw[Jq]
theorem aH{s r:Str}(i:s.length<=big)(k:r<:+s):Zh (sr s r)=some ((zt r).1,sr s (zt r).2):=by
 have m:big=4194304:=rfl;unfold Zh;refine NK (r:=((zt r).1,sr s (zt r).2)) ?_;refine ZI (fun z=> ∃(q a:Str),z=(sr s q,a)/\q<:+s/\a.length+4*q.length<=4*s.length/\a++(zt q).1=(zt r).1/\(zt q).2=(zt r).2) (fun z=>s.length - z.1.at_.toNat) _ ?_ ⟨r,[],rfl,k,by grind,rfl,rfl⟩;rintro _ ⟨q,a,rfl,f,j,d,b⟩;simp only[za,Wh i f,Aa,eP];cases q with
 |nil=>
  refine .inr (.inr ⟨_,rfl,?_⟩);rw[Qx]at d b
  grind
 |cons c t=>
  have g:=f.length_le;rw[Fa]at g j;rw[show atS (c::t) 0=c from rfl];rw[zZ]at d b;cases e:letB c with
  |true=>
   rw[e,Ka rfl]at d b;refine .inl ⟨(sr s t,a++[c]),?_,⟨t,a++[c],rfl,Zq f,by grind,by grind,b⟩,?_⟩
   ·rw[Ca,Tq,uy];simp only[Aa];rw[zo (Lh (by omega)),yh i f]
   ·show s.length - beh s t<s.length - beh s (c::t);unfold beh;grind
  |false=>
   rw[e,Ja (by decide)]at d b;rw[Ba,zJM,show(c::t).isEmpty=false from rfl,YJ i f];cases h:escS (c::t)with
   |true=>
    rw[h,Ka rfl]at d b;have l:=xq t;have n:=Zu t;refine .inl ⟨(sr s (zA t).2,a++(zA t).1),?_,⟨_,_,rfl,(Zw t).trans (Zq f),by grind,by grind,b⟩,?_⟩
    ·simp only[Ra,zq,Ca,Aa,gK i f (show a.length<=1000000000 by omega)]
    ·show s.length - beh s (zA t).2<s.length - beh s (c::t);unfold beh;grind
   |false=> simp_all
theorem Ul(l:Str):(zt l).2<:+l:=by
 match l with
 |[]=>rw[Qx];grind
 |c::r=>
  rw[zZ];split
  ·exact(Ul r).trans (jd c r)
  ·split
   ·have:=Zu r;exact(Ul (zA r).2).trans ((Zw r).trans (jd c r))
   grind
termination_by l.length
decreasing_by
 all_goals grind
def escC(c:UInt8):Str:=bif decide (32<c.toNat)&&decide (c.toNat<127)&& !digB c&& !alB c then [92,c]else 92::(hexS c.toNat++[32])
def pcW(dash:Bool)(k:Nat)(c:UInt8):Str:=bif letB c&&(k==0|| !digB c)&& !dash then [c]else escC c
def encW(dash:Bool):Nat->Str->Str
 |_,[]=>[]
 |k,c::r=>pcW dash k c++encW dash (k - 1) r
theorem zEN(c:UInt8):namN c.toNat=letB c:=by
 have: ∀n:Nat,n<256->namN (UInt8.ofNat n).toNat=letB (UInt8.ofNat n):=by decide+kernel
 have h:=this c.toNat (Ib c);simp_all
theorem A8(c:UInt8):il (c.toNat:Int)=some (letB c):=by rw[tV,zEN]
theorem BJ(c:UInt8):qI (c.toNat:Int)=some (digB c):=uV c
theorem zEz(c:UInt8):Vv (c.toNat:Int)=some (alB c):=of_n (by decide+kernel) c
theorem zDR(c:UInt8):wu64 (c.toNat:Int)=(c.toNat:Int):=by
 have:=Ib c;show IntKind.u64.wrap _=_;have h: ∀n:Int,IntKind.u64.wrap n=n%18446744073709551616:=fun n=>by simp[IntKind.wrap,IntKind.bits,IntKind.signed]
 rw[h];omega
theorem Ey(c:UInt8):qb ((c.toNat:Nat):Int)=some c:=by simp_all
theorem lQ(n:Nat):(hexS n).length<=2:=by unfold hexS;split<;>simp
theorem ko(c:UInt8){acc:Str}(j:acc.length<=1000000000):Z9 ((c.toNat:Int),acc)=some (acc++escC c):=by
 have i:=Ib c;unfold Z9 escC;simp only[za,BJ,zEz];have g:decide ((c.toNat:Int)>32)=decide (32<c.toNat):=by rw[Bg];omega
 have f:decide ((c.toNat:Int)<127)=decide (c.toNat<127):=by rw[Bg];omega
 rw[g,f];have b:short (acc++[(92:UInt8)])=true:=Ga (by grind);have e:lq ((wu64 (c.toNat:Int),16),acc++[(92:UInt8)])=some (acc++[(92:UInt8)]++hexS c.toNat):=by unfold lq;simp only[zDR,b];rw[zo (by simp;omega)];rfl
 have h:=lQ c.toNat;have a:need (Zj acc.length 1 1) (za (lq ((wu64 (c.toNat:Int),16),acc++[(92:UInt8)])) fun d=>need (Zj d.length 1 1) (some (d++[(32:UInt8)])))=some (acc++92::(hexS c.toNat++[32])):=by rw[zo (Lh (by omega)),e];simp only[za,Aa];rw[zo (Lh (by grind))];simp
 simp only[za]at a;rw[a];cases decide (32<c.toNat)with
 |false=>rfl
 |true=>
  cases decide (c.toNat<127)with
  |false=>rfl
  |true=>
   cases digB c with
   |true=>rfl
   |false=>
    cases alB c with
    |true=>rfl
    |false=> simp only[zq,Ca,Ra,Bool.and_self,Aa,Ey];rw[zo (Lh (by omega))]
theorem Kj(c:UInt8):(escC c).length<=4:=by
 have:=lQ c.toNat;unfold escC
 grind
theorem sH(dash:Bool)(k:Nat)(c:UInt8):(pcW dash k c).length<=4:=by
 have:=Kj c;unfold pcW
 grind
theorem Lj(dash:Bool): ∀(k:Nat) (l:Str),(encW dash k l).length<=4*l.length
 |_,[]=>by unfold encW;simp
 |k,c::r=>by
  have:=sH dash k c;have:=Lj dash (k - 1) r;unfold encW
  grind
theorem zHj{dash:Bool}{k i:Nat}{l:Str}(h:i<l.length):encW dash (k - i) (l.drop i)=pcW dash (k - i) l[i]++encW dash (k - (i+1)) (l.drop (i+1)):=by rw[Cb h,encW,show k - i - 1=k - (i+1) by omega]
theorem X6 {R:Type} {step:Int×List UInt8->Option (LO (Int×List UInt8) (List UInt8) R)} {l acc:Str} {k:Nat} {dash:Bool} (hl:l.length<=100000) (ha:acc.length<=100000000)
  (h1: ∀(i:Nat) (a:Str) (hi:i<l.length),a.length<=500000000->step ((i:Int),a)=some (.again (w64 ((i:Int)+1),a++pcW dash (k - i) l[i])))
  (h2: ∀a,step ((l.length:Int),a)=some (.out a)):Mg step (0,acc)=some (.out (acc++encW dash k l)):=by
 refine ZI (fun z=> ∃(i:Nat) (a:Str),z=((i:Int),a)/\i<=l.length/\a.length<=acc.length+4*i/\a++encW dash (k - i) (l.drop i)=acc++encW dash k l) (fun z=>l.length - z.1.toNat) _ ?_ ⟨0,acc,rfl,by omega,by omega,rfl⟩;rintro _ ⟨i,a,rfl,hi,hal,he⟩;rcases ic i l.length with h|h
 ·refine .inl ⟨_,h1 i a h (by omega),⟨i+1,_,by rw[zM (by omega) (by omega)];rfl,by omega,?_,?_⟩,by simp only;rw[zM (by omega) (by omega)];omega⟩
  ·have:=sH dash (k - i) l[i]
   grind
  ·rw[<-he,zHj h,Na]
 ·have:i=l.length:=by omega
  subst this;refine .inr (.inl ⟨_,h2 a,?_⟩);rw[<-he,Xd (ja _)];rw[show encW dash (k - l.length) []=[] by rw[encW],Db]
def Yi(k:Nat)(l:Str):Bool:= !(k==0)&&l==[45]
def qm(l:Str):Nat:=if [45].isPrefixOf l then 2 else 1
theorem ku(l:Str):Al l=some ((qm l:Nat):Int):=by
 unfold Al qm;simp only[za,Jp,Aa]
 grind
def ZU(l:Str):Str:=encW (l==[45]) (qm l) l
def jn(sep:Str)(l:List Str):Str:=List.intercalate sep l
def nt4:Str:=[110,111,116,32]
def cma2:Str:=[44,32]
def and5:Str:=[32,97,110,100,32]
def or4:Str:=[32,111,114,32]
def Sj:Str:=[40,109,105,110,45,119,105,100,116,104,58,32]
def Tj:Str:=[40,109,97,120,45,119,105,100,116,104,58,32]
def pxW:Str:=[112,120,41]
def unkW:Str:=[40,117,110,107,110,111,119,110,41]
def parW(s:Str):Str:=40::s++[41]
mutual
/-- The text of a media condition, or of a part of it. -/
def medT:zg->Str
 |⟨k,n,m,_,l⟩=>bif k==4 then ZU n else bif k==3 then nt4++(Dm l).headD []else bif k==2 then jn cma2 (Dm l)else bif k==1 then jn and5 (Dm l)else
  (bif k==5 then Sj else Tj)++numT m false++pxW
def Dm:List zg->List Str
 |[]=>[]
 |c::r=>medT c::Dm r
end
mutual
/-- The text of a supports condition; wd: the text of a declaration. -/
def supT(wd:z8->Str):zg->Str
 |⟨k,_,_,d,l⟩=>bif k==7 then parW (wd d)else bif k==8 then unkW else bif k==3 then nt4++(inTs wd l).headD []else bif k==2 then jn or4 (inTs wd l)else jn and5 (inTs wd l)
def inTs(wd:z8->Str):List zg->List Str
 |[]=>[]
 |c::r=>(bif Fg c then supT wd c else parW (supT wd c))::inTs wd r
end
def yB:List zg->Bool
 |[]=>false
 |y::_=>y.kind==1&&qZ y
def headA:List zg->Bool
 |[]=>false
 |y::_=>mg y
mutual
/-- The reference's text of a condition. -/
def wrC(wd:z8->Str):zg->Str
 |⟨k,n,m,d,l⟩=>bif k==4 then ZU n else bif k==5 then Sj++numT m false++pxW else bif k==6 then Tj++numT m false++pxW else bif k==7 then parW (wd d)else bif k==8 then unkW else
  bif k==3 then nt4++(bif yB l then(wrCs wd l).headD []else(wiCs wd l).headD [])else
  bif l.isEmpty||(qZ ⟨k,n,m,d,l⟩||(k==2&&headA l))then(bif k==2 then jn cma2 (wrCs wd l)else jn and5 (wrCs wd l))
  else(bif k==2 then jn or4 (wiCs wd l)else jn and5 (wiCs wd l))
def wrCs(wd:z8->Str):List zg->List Str
 |[]=>[]
 |c::r=>wrC wd c::wrCs wd r
def wiCs(wd:z8->Str):List zg->List Str
 |[]=>[]
 |c::r=>(bif Fg c then wrC wd c else parW (wrC wd c))::wiCs wd r
end
theorem Fz: ∀l:List zg,Dm l=l.map medT
 |[]=>by rw[Dm];rfl
 |c::r=>by rw[Dm,Fz r];rfl
theorem fu(wd:z8->Str): ∀l:List zg,inTs wd l=l.map fun c=>bif Fg c then supT wd c else parW (supT wd c)
 |[]=>by rw[inTs];rfl
 |c::r=>by rw[inTs,fu wd r];rfl
theorem ky(wd:z8->Str): ∀l:List zg,wrCs wd l=l.map (wrC wd)
 |[]=>by rw[wrCs];rfl
 |c::r=>by rw[wrCs,ky wd r];rfl
theorem CE(wd:z8->Str): ∀l:List zg,wiCs wd l=l.map fun c=>bif Fg c then wrC wd c else parW (wrC wd c)
 |[]=>by rw[wiCs];rfl
 |c::r=>by rw[wiCs,CE wd r];rfl
theorem zIF{wd:z8->Str}{f:Bool}{y:zg}(h:Dh f y=true):wrC wd y=medT y:=by
 obtain⟨k,n,m,d,l⟩:=y;have hk:k=4\/k=5\/k=6:=by
  unfold Dh at h;simp only[Da,Sb,ma]at h;rcases h.2.2 with h|h
  ·exact .inl h.2.1
  ·exact .inr h.1
 rw[wrC,medT];rcases hk with rfl|rfl|rfl<;>rfl
theorem wP{wd:z8->Str}{y:zg}(h:qZ y=true):wrC wd y=medT y:=by have hq:=h;unfold qZ at h;simp only[Da,ma]at h;obtain⟨k,n,m,d,l⟩:=y;obtain⟨hk,_,_,hl⟩:=h;simp only at hk hl;subst hk;rw[wrC,medT,hq,ky,Fz];have:l.map (wrC wd)=l.map medT:=Ye fun z hz=>let⟨_,e⟩:=bz hl hz;zIF e;rw[this,jc,Fe];rfl
theorem zIE{wd:z8->Str}{y:zg}(h:mg y=true):wrC wd y=medT y:=by
 have ha:=h;unfold mg at h;cases h3:y.kind==3 with
 |false=>rw[h3]at h;exact wP h
 |true=>
  rw[h3,Ca,Da]at h;obtain⟨k,n,m,d,l⟩:=y;have hk:k=3:=eq_of_beq h3;subst hk;obtain⟨_,h⟩:=h;simp only at h
  match l,h with
  |[],h=>cases h
  |[z],h=>
   rw[Da]at h;have hz1:(z.kind==1)=true:=by have:=h.1;unfold qZ at this;rw[Da]at this;exact this.1
   have hh:yB [z]=true:=by show(z.kind==1&&qZ z)=true;rw[hz1,h.1];rfl
   rw[wrC,medT,hh,wrCs,Dm,wP h.1];rfl
  |_::_::_,h=>cases h
theorem zFT{wd:z8->Str}{c:zg}(h:ZE c=true):wrC wd c=medT c:=by
 unfold ZE at h;simp only[Da,Sb,ma,Be,Ab]at h;obtain⟨k,n,m,d,l⟩:=c;simp only at h;rcases h.2 with⟨rfl,rfl⟩|⟨rfl,hl,_,ha⟩
 ·rw[wrC,medT,wrCs,Dm];rfl
 ·rw[wrC,medT,ky,Fz,Ye (g:=medT) fun z hz=>zIE (ha z hz)];cases l with
  |nil=>rfl
  |cons z r=> have:headA (z::r)=true:=ha z (by simp);rw[this];cases qZ ⟨2,n,m,d,z::r⟩<;>rfl
theorem RI{c:zg}(h:supC c=true):qZ c=false/\mg c=false:=by
 have q: ∀{c:zg},supC c=true->qZ c=false:=fun {c} h=>by
  cases hq:qZ c with
  |false=>rfl
  |true=>
   exfalso;unfold qZ at hq;simp only[Da,ma]at hq;rw[Kl,hq.1]at h;have h:((false||(true||false))&&(Xg c&&(decide (2<=c.list.length)&&c.list.all supC)))=true:=h;simp only[Da,Ab,Eb]at h;obtain⟨y,hy⟩: ∃y,y∈c.list:=by
    cases hl:c.list with
    |nil=>rw[hl]at h;simp at h
    |cons y r=>exact⟨y,by simp⟩
   obtain⟨f,hf⟩:=bz hq.2.2.2 hy;have hs:=h.2.2.2 y hy;have hk:y.kind=4\/y.kind=5\/y.kind=6:=by
    unfold Dh at hf;simp only[Da,Sb,ma]at hf;rcases hf.2.2 with hf|hf
    ·exact .inl hf.2.1
    ·exact .inr hf.1
   rw[Kl]at hs;rcases hk with e|e|e<;>rw[e]at hs<;>cases hs
 refine⟨q h,?_⟩;unfold mg;cases h3:c.kind==3 with
 |false=>exact q h
 |true=>
  rw[Ca];have h0:=h;rw[Kl,eq_of_beq h3]at h;have h:(Xg c&&((c.list.length==1)&&c.list.all supC))=true:=h;simp only[Da,Ab]at h;cases hl:c.list with
  |nil=>rw[Ec]
  |cons y r=>
   cases r with
   |nil=>simp only;rw[q (h.2.2 y (by rw[hl];simp))];simp
   |cons z r=>simp
theorem WO{wd:z8->Str}: ∀{c:zg},supC c=true->wrC wd c=supT wd c:=by
 have key: ∀(n:Nat) (c:zg),sizC c<=n->supC c=true->wrC wd c=supT wd c:=by
  intro n
  induction n with
  |zero=>intro c hc;have:=ji c;omega
  |succ n ih=>
   intro c hc hs;have hsz:=dh c;have hq:=RI hs;obtain⟨k,nm,m,d,l⟩:=c;have hm: ∀y∈l,sizC y<=n:=fun y hy=>by have:=QO (l:=l) hy;simp only at hsz;omega
   rw[Kl]at hs;simp only at hs;rw[wrC,supT];cases h7:k==7 with
   |true=>rw[eq_of_beq h7];rfl
   |false=>
    cases h8:k==8 with
    |true=>rw[eq_of_beq h8];rfl
    |false=>
     rw[h7,h8,Ba,Ba]at hs;simp only[Da,Ab]at hs;obtain⟨hk,_,hl,ha⟩:=hs;have hw:wiCs wd l=inTs wd l:=by rw[CE,fu];exact Ye fun y hy=>by rw[ih y (hm y hy) (ha y hy)]
     have hne:l.isEmpty=false:=by cases l with|nil=>(cases k==3<;>simp at hl)|cons=>rfl
     have hA:headA l=false:=by cases l with|nil=>rfl|cons y r=>exact(RI (ha y (by simp))).2
     have hQ:yB l=false:=by cases l with|nil=>rfl|cons y r=>show(y.kind==1&&qZ y)=false;rw[(RI (ha y (by simp))).1,Ec]
     rw[hQ,hA,hne,hq.1,hw,Ba,Ec,Rc,Rc,Ba];cases h3:k==3 with
     |true=>rw[eq_of_beq h3];rfl
     |false=> rw[h3,Xb,Sb]at hk;rcases hk with e|e<;>rw[eq_of_beq e]<;>rfl
 intro c hs;exact key _ c (ja _) hs
def Pj(acc:Str)(d:Nat):Str:=bif d==0&&acc.isEmpty then acc else d48 d::acc
def bk3(r:Nat):Str:=Pj (Pj (Pj [] (r%10)) (r / 10%10)) (r / 10 / 10%10)
def dotB(c:Str):Str:=bif c.isEmpty then c else 46::c
def bkOK(r:Nat):Bool:=dotB (bk3 r)==Vi r false&&decide ((bk3 r).length<=3)
theorem K5: ∀r,r<1000->bkOK r=true:=by decide+kernel
theorem zGS{r:Nat}(h:r<1000):dotB (bk3 r)=Vi r false:=by have:=K5 r h;unfold bkOK at this;rw[Da]at this;exact eq_of_beq this.1
theorem NP{r:Nat}(h:r<1000):(bk3 r).length<=3:=by have:=K5 r h;unfold bkOK at this;rw[Da]at this;exact Ub this.2
def putD:Nat->Nat->Str->Str
 |0,_,acc=>acc
 |f+1,m,acc=>if m<10 then d48 m::acc else putD f (m / 10) (d48 (m%10)::acc)
theorem P7: ∀{f m:Nat} {acc:Str},m<10 ^ f->0<f->putD f m acc=Lib.decDigits m++acc
 |0,_,_,_,h=>absurd h (by omega)
 |f+1,m,acc,h,_=>by
  rw[putD,Lib.decDigits];by_cases hm:m<10
  ·rw[Ka hm,dif_pos hm];rfl
  ·rw[Ja hm,dif_neg hm];have h2:m / 10<10 ^ f:=by rw[Dg]at h;omega
   have hf:0<f:=by
    rcases Vf f with rfl|hf
    ·simp at h;omega
    ·exact hf
   rw[P7 h2 hf,Na];rfl
theorem WQ{n:Nat}(h:n<=1000000000000):putD 10 (n / 1000) (dotB (bk3 (n%1000)))=Ug n false:=by rw[P7 (by omega) (by omega),zGS (Uf _ (by omega))];rfl
def fr3:Nat->Nat->Nat->Str
 |0,_,_=>[]
 |f+1,by_,p=>if p>0 then Lib.decDigits (p / by_)++fr3 f (by_ / 10) (p%by_)else []
def zKn(r:Nat):Bool:=(bif r==0 then []else 46::fr3 4 100 r)==Vi r false
theorem zJg: ∀r,r<1000->zKn r=true:=by decide+kernel
theorem zHt{r:Nat}(h:r<1000):(bif r==0 then []else 46::fr3 4 100 r)=Vi r false:=eq_of_beq (zJg r h)
def capF(cap:Nat):Nat->Str->Nat
 |n,[]=>n
 |n,c::r=>capF cap (min cap (decN n c)) r
theorem sK(cap:Nat): ∀(l:Str) (n:Nat) (c:UInt8),capF cap n (l++[c])=min cap (decN (capF cap n l) c)
 |[],_,_=>rfl
 |d::l,n,c=>by show capF cap (min cap (decN n d)) (l++[c])=_;rw[sK cap l];rfl
theorem Ml(cap:Nat): ∀(l:Str) (n:Nat),n<=cap->capF cap n l<=cap
 |[],_,h=>h
 |c::l,n,_=>Ml cap l _ (Nat.min_le_left ..)
theorem CR {R:Type} {step:Int×Int->Option (LO (Int×Int) Int R)} {l:Str} {cap:Nat} (b:l.all digB=true) (j:l.length<=100000) (f:cap<=1000000000000)
  (a: ∀(v:Int) (i:Nat) (hi:i<l.length),step (v,(i:Int))=some (.again (if(cap:Int)<w64 (w64 (10*v)+w64 (wu8 ((l[i].toNat:Int) - 48)))then(cap:Int)else w64 (w64 (10*v)+w64 (wu8 ((l[i].toNat:Int) - 48))),w64 ((i:Int)+1))))
  (h2: ∀v:Int,step (v,(l.length:Int))=some (.out v)):Mg step (0,0)=some (.out ((capF cap 0 l:Nat):Int)):=by
 refine ZI (fun s=> ∃i:Nat,i<=l.length/\s=(((capF cap 0 (l.take i):Nat):Int),(i:Int))) (fun s=>l.length - s.2.toNat) _ ?_ ⟨0,by omega,rfl⟩;rintro _ ⟨i,hi,rfl⟩;rcases ic i l.length with h|h
 ·refine .inl ⟨_,a _ i h,⟨i+1,by omega,?_⟩,by simp only;rw[zM (by omega) (by omega)];omega⟩;have e:=Br (Ab.1 b _ (Kb h));have d:capF cap 0 (l.take (i+1))=min cap (decN (capF cap 0 (l.take i)) l[i]):=by rw[jb h,sK]
  have g:=Ml cap (l.take i) 0 (Mc _);have c:wu8 ((l[i].toNat:Int) - 48)=((l[i].toNat - 48:Nat):Int):=by show IntKind.u8.wrap _=_;rw[IntKind.wrap_u8];omega
  unfold decN at d;rw[c,zM (n:=10*_) (by omega) (by omega),zM (n:=((l[i].toNat - 48:Nat):Int)) (by omega) (by omega),zM (n:=(i:Int)+1) (by omega) (by omega),zM (by omega) (by omega)];refine Prod.ext ?_ ?_
  ·grind
  ·grind
 grind
theorem XK: ∀(k n:Nat),n<=Pg->Mh k n<=Pg
 |0,_,h=>h
 |k+1,n,h=>by
  unfold Mh;split
  ·exact h
  ·exact XK k _ (Nat.min_le_left ..)
theorem VU {R:Type} {step:Int×Int->Option (LO (Int×Int) Int R)} {v:Nat} {p:Int} (n:p<=4000000) (d: -4000000<=p) (i:v<=1000000000000)
  (h: ∀(a b:Int),step (a,b)=bif bif bif decide (a>0)then decide (b>0)else false then decide (b<1000000000000)else false then some (.again (w64 (a - 1),if 1000000000000<w64 (10*b)then 1000000000000 else w64 (10*b)))else some (.out b)):
  Mg step (p,(v:Int))=some (.out ((Mh p.toNat v:Nat):Int)):=by
 have o:Pg=1000000000000:=rfl;refine ZI (fun s=> ∃(a:Int) (b:Nat),s=(a,(b:Int))/\a<=4000000/\ -4000000<=a/\b<=1000000000000/\Mh a.toNat b=Mh p.toNat v) (fun s=>s.1.toNat) _ ?_ ⟨p,v,rfl,n,d,i,rfl⟩;rintro _ ⟨a,b,rfl,r,f,q,c⟩;rw[h];by_cases e:a>0
 ·obtain⟨k,l⟩: ∃k,a.toNat=k+1:=⟨a.toNat - 1,by omega⟩;rw[l,Mh]at c;rw[Ga e,Ca];by_cases g:b=0\/Pg<=b
  ·grind
  ·rw[Ja g]at c;have m:decide (((b:Nat):Int)>0)=true:=Ga (by omega);have j:decide (((b:Nat):Int)<1000000000000)=true:=Ga (by omega);rw[m,Ca,j,Ca];refine .inl ⟨_,rfl,⟨a - 1,min Pg (10*b),?_,by omega,by omega,by omega,?_⟩,by simp only;rw[zM (by omega) (by omega)];omega⟩
   ·rw[zM (by omega) (by omega),zM (by omega) (by omega)]
    grind
   grind
 ·rw[La e,Ba];refine .inr (.inl ⟨_,rfl,?_⟩);rw[<-c,show a.toNat=0 by omega];rfl
structure NumP where
 sg:Str
 D:Str
 F:Option Str
 X:Option (UInt8×Str×Str)
def dotS:Option Str->Str
 |none=>[]
 |some f=>46::f
def expT:Option (UInt8×Str×Str)->Str
 |none=>[]
 |some (e,s,x)=>e::(s++x)
def NumP.txt(n:NumP):Str:=n.sg++(n.D++(dotS n.F++expT n.X))
def sgB(s:Str):Bool:=s==[]||s==[43]||s==[45]
def NumP.ok(n:NumP):Bool:=sgB n.sg&&n.D.all digB&&(match n.F with|none=> !n.D.isEmpty|some f=> !f.isEmpty&&f.all digB)&&
 (match n.X with|none=>true|some (e,s,x)=>(e==101||e==69)&&sgB s&& !x.isEmpty&&x.all digB)
def expV:Option (UInt8×Str×Str)->Int
 |none=>0
 |some (_,s,x)=>if s==[45]then -((capF 1048576 0 x:Nat):Int)else((capF 1048576 0 x:Nat):Int)
def thoV(A:Str)(p:Int):Nat:=Mh p.toNat (capF Pg 0 (if p<0 then A.take ((A.length:Int)+p).toNat else A))
def NumP.val(n:NumP):Int:=
 let v:=thoV (n.D++n.F.getD []) (3+expV n.X - ((n.F.getD []).length:Int))
 if n.sg==[45]then -(v:Int)else(v:Int)
theorem su{s:Str}(h:sgB s=true):s=[]\/s=[43]\/s=[45]:=by
 unfold sgB at h
 grind
theorem u6{s q:Str}(h:sgB s=true)(b: ∀c r,q=c::r->List.contains [43,45] c=false):Lib.trimLeftS (s++q) [43,45]=q:=by
 have a:Lib.trimLeftS q [43,45]=q:=by
  unfold Lib.trimLeftS;cases q with
  |nil=>rfl
  |cons c r=>simp_all
 rcases su h with rfl|rfl|rfl
 ·exact a
 ·show List.dropWhile _ (43::q)=_;rw[yc];exact a
 ·show List.dropWhile _ (45::q)=_;rw[yc];exact a
theorem X8{e:UInt8}(he:e=101\/e=69)(t:Str): ∀(l:Str),(l.all fun b=>digB b||b==46)=true->Lib.indexAny (l++e::t) [101,69]=(l.length:Int)
 |[],_=>by
  rw[Vb,Lib.indexAny]
  grind
 |c::l,h=>by
  rw[Xc,Da]at h;have hc:List.contains [101,69] c=false:=by
   have: ∀n:Nat,n<256->(digB (UInt8.ofNat n)||UInt8.ofNat n==46)=true->List.contains [101,69] (UInt8.ofNat n)=false:=by decide+kernel
   have:=this c.toNat (Ib c);rw[Yc]at this;exact this h.1
  rw[Bb,Lib.indexAny,hc,X8 he t l h.2]
  grind
theorem Y5{l:Str}(h:l.all digB=true):(l.all fun b=>digB b||b==46)=true:=by
 grind
theorem xy{l:Str}(h: ∀b∈l,b.toNat<128):ah l=true:=by
 unfold ah
 grind
theorem zDZ{l:Str}(h:ah l=true): ∀b∈l,b.toNat<128:=by
 unfold ah at h
 grind
theorem zG6{D:Str}(a:D.all digB=true)(F:Option Str): ∃f,Lib.cut (D++dotS F) [46]=(D,F.getD [],f):=by
 unfold Lib.cut;rw[aF];cases F with
 |none=> rw[show dotS none=[]from rfl,Db,xI _ a,Ja (by decide)];simp_all
 |some g=> rw[show dotS (some g)=46::g from rfl,yI _ _ a,Ka (by omega)];simp_all
theorem bP {D:Str} {F:Option Str} {E:Int} (w:D.all digB=true) (y:(F.getD []).all digB=true) (R:D.length+(F.getD []).length<=50000) (Q:E<=2000000) (C: -2000000<=E) (s:UInt8) (r:Str)
  (M:((s.toNat:Int)==45)=(r==[45])) (u:short (D++dotS F)=true):
  (za (cutF (D++dotS F,[46])) fun c=>
 need (zO c.1.length c.2.1.length)<|
 zP (X:=Str×Int) (
   bif decide (w64 ((3+E) - (c.2.1.length:Int))<0)then
    need (decide (0<=(if w64 (((c.1++c.2.1).length:Int)+w64 ((3+E) - (c.2.1.length:Int)))>0 then w64 (((c.1++c.2.1).length:Int)+w64 ((3+E) - (c.2.1.length:Int)))else 0))&&decide ((if w64 (((c.1++c.2.1).length:Int)+w64 ((3+E) - (c.2.1.length:Int)))>0 then w64 (((c.1++c.2.1).length:Int)+w64 ((3+E) - (c.2.1.length:Int)))else 0)<=((c.1++c.2.1).length:Int)))<|
    some (LX.out (List.take (if w64 (((c.1++c.2.1).length:Int)+w64 ((3+E) - (c.2.1.length:Int)))>0 then w64 (((c.1++c.2.1).length:Int)+w64 ((3+E) - (c.2.1.length:Int)))else 0).toNat (c.1++c.2.1),w64 ((3+E) - (c.2.1.length:Int))))
   else
    some (LX.out (c.1++c.2.1,w64 ((3+E) - (c.2.1.length:Int))))) fun j=>
 need (decide (j.1.length<=maxLen))<|
 zS (fun(d:Int×Int)=>
   bif decide (d.2<(j.1.length:Int))then
    need (decide (0<=d.2)&&decide (d.2<(j.1.length:Int)))<|
    za j.1[d.2.toNat]? fun g=>
    some (LO.again (if 1000000000000<w64 (w64 (10*d.1)+w64 (wu8 ((g.toNat:Int) - 48)))then 1000000000000 else w64 (w64 (10*d.1)+w64 (wu8 ((g.toNat:Int) - 48))),w64 (d.2+1)))
   else
    some (LO.out d.1):Int×Int->Option (LO (Int×Int) (Int) _)) (0,0) fun l=>
 zS (fun(e:Int×Int)=>
   bif bif bif decide (e.1>0)then decide (e.2>0)else false then decide (e.2<1000000000000)else false then
    some (LO.again (w64 (e.1 - 1),if 1000000000000<w64 (10*e.2)then 1000000000000 else w64 (10*e.2)))
   else
    some (LO.out e.2):Int×Int->Option (LO (Int×Int) (Int) _)) (j.2,l) fun h=>
 zP (X:=Int) (
   bif (s.toNat:Int)==45 then
    some (LX.out (w64 (0 - h)))
   else
    some (LX.out h)) fun k=>
 some k)=some (if r==[45]then -((thoV (D++F.getD []) (3+E - ((F.getD []).length:Int)):Nat):Int)else((thoV (D++F.getD []) (3+E - ((F.getD []).length:Int)):Nat):Int)):=by
 obtain⟨f,m⟩:=zG6 w F;have O:cutF (D++dotS F,[46])=some (D,F.getD [],f):=by unfold cutF;rw[zo (by exact u)];exact congrArg some m
 have x:maxLen=9223372036854775807:=rfl;have t:Pg=1000000000000:=rfl;simp only[za,O,Aa];generalize F.getD []=G at*;rw[zo (zV.2 (by omega))];obtain⟨p,L⟩: ∃p:Int,p=3+E - (G.length:Int):=⟨_,rfl⟩;rw[<-L,zM (n:=p) (by omega) (by omega)];have S:(D++G).all digB=true:=by rw[List.all_append,w,y];rfl
 have K:(D++G).length<=50000:=by rw[Ea];omega
 generalize D++G=A at*;have H: ∀B:Str,B.all digB=true->B.length<=50000->(need (decide (B.length<=maxLen))<|
 zS (fun(d:Int×Int)=>
   bif decide (d.2<(B.length:Int))then
    need (decide (0<=d.2)&&decide (d.2<(B.length:Int)))<|
    (B[d.2.toNat]?).bind fun g=>
    some (LO.again (if 1000000000000<w64 (w64 (10*d.1)+w64 (wu8 ((g.toNat:Int) - 48)))then 1000000000000 else w64 (w64 (10*d.1)+w64 (wu8 ((g.toNat:Int) - 48))),w64 (d.2+1)))
   else
    some (LO.out d.1):Int×Int->Option (LO (Int×Int) (Int) _)) (0,0) fun l=>
 zS (fun(e:Int×Int)=>
   bif bif bif decide (e.1>0)then decide (e.2>0)else false then decide (e.2<1000000000000)else false then
    some (LO.again (w64 (e.1 - 1),if 1000000000000<w64 (10*e.2)then 1000000000000 else w64 (10*e.2)))
   else
    some (LO.out e.2):Int×Int->Option (LO (Int×Int) (Int) _)) (p,l) fun h=>
 zP (X:=Int) (
   bif (s.toNat:Int)==45 then
    some (LX.out (w64 (0 - h)))
   else
    some (LX.out h)) fun k=>
 some k)=some (if r==[45]then -((Mh p.toNat (capF Pg 0 B):Nat):Int)else((Mh p.toNat (capF Pg 0 B):Nat):Int)):=by
  intro B J z;have o:=Ml Pg B 0 (Mc _);rw[zo (Ga (by omega))];rw[Zk (CR (cap:=Pg) J (by omega) (by omega) (fun v i U=> ?_) (fun v=> ?_))]
  ·have N:=XK p.toNat _ o;rw[Zk (VU (by omega) (by omega) (by omega) (fun a b=> ?_)),M]
   ·cases T:r==[45]with
    |true=> rw[Ca,zk,zM (by omega) (by omega),Ka rfl];congr 1;omega
    |false=>simp_all
   ·simp only
  ·simp_all
  ·grind
 unfold thoV;by_cases q:p<0
 ·rw[Ga q,Ca,Ka q];have P:(if w64 ((A.length:Int)+p)>0 then w64 ((A.length:Int)+p)else 0)=((((A.length:Int)+p).toNat:Nat):Int):=by rw[zM (by omega) (by omega)];split<;>omega
  rw[P,zo (by grind),zk,Oa]
  grind
 ·rw[La q,Ba,Ja q,zk]
  grind
theorem yX{n:NumP}(h:n.ok=true)(hl:n.txt.length<=40000):qN n.txt=some n.val:=by
 obtain⟨sg,D,F,X⟩:=n;unfold NumP.ok at h;simp only[Da]at h;obtain⟨⟨⟨hsg,hD⟩,hFo⟩,hX⟩:=h;have hF:(F.getD []).all digB=true:=by
  cases F with
  |none=>rfl
  |some f=>grind
 have hne:D++dotS F≠[]:=by
  cases F with
  |none=>simp_all
  |some f=>simp[dotS]
 have hpar:((D++dotS F).all fun b=>digB b||b==46)=true:=by
  rw[List.all_append,Y5 hD];cases F with
  |none=>rfl
  |some f=>rw[show dotS (some f)=46::f from rfl,Xc,Y5 (show f.all digB=true from hF)];rfl
 have hlen:sg.length+(D.length+((dotS F).length+(expT X).length))<=40000:=by
  have:(NumP.txt ⟨sg,D,F,X⟩).length=sg.length+(D.length+((dotS F).length+(expT X).length)):=by unfold NumP.txt;simp only[Ea]
  omega
 have hFl:(F.getD []).length<=(dotS F).length:=by
  cases F with
  |none=>grind
  |some f=>show f.length<=(46::f).length;grind
 have hhead: ∀c r,D++(dotS F++expT X)=c::r->List.contains [43,45] c=false:=by
  rw[<-Na];intro c r e;cases hq:D++dotS F with
  |nil=>grind
  |cons d q=>
   rw[hq,Bb]at e;injection e with e1 _;subst e1;rw[hq,Xc,Da,Sb]at hpar;rcases hpar.1 with hd|hd
   ·exact(Nh hd).2.2.2.2
   grind
 have hy1: ∃b,geti (NumP.txt ⟨sg,D,F,X⟩) 0=some b/\(((b.toNat:Int)==45)=(sg==[45])):=by
  unfold NumP.txt;show∃b,geti (sg++(D++(dotS F++expT X))) 0=some b/\_;rcases su hsg with rfl|rfl|rfl
  ·cases hq:D++(dotS F++expT X)with
   |nil=>simp_all
   |cons c r=>
    refine⟨c,rfl,?_⟩;have:=hhead c r hq;refine Ia.2 (fun e=> ?_);have:c=45:=Cf.1 (by grind)
    grind
  ·exact⟨43,rfl,rfl⟩
  ·exact⟨45,rfl,rfl⟩
 obtain⟨y1,hg,hyy⟩:=hy1;have t1:Nk (NumP.txt ⟨sg,D,F,X⟩,[43,45])=some (D++(dotS F++expT X)):=by unfold Nk;rw[zo (show(short ([43,45]:Str)&&ah [43,45])=true by decide)];exact congrArg some (u6 hsg hhead)
 unfold qN;simp only[za,hg,t1,Aa];have hsh:short (D++dotS F)=true:=Ga (by grind);have hasc:ah (D++dotS F)=true:=D9 hpar;cases X with
 |none=>
  have t2:ek (D++(dotS F++expT none),[101,69])=some (-1):=by show ek (D++(dotS F++[]),[101,69])=_;rw[Db];unfold ek;rw[zo (by simp only[hsh,hasc,Lb,aa];decide)];exact congrArg some (uI _ hpar)
  simp only[t2,Aa,show decide ((-1:Int)>=0)=false from rfl,Ba,zk];rw[show D++(dotS F++expT none)=D++dotS F by show D++(dotS F++[])=_;grind];have:=bP (E:=0) hD hF (by omega) (by omega) (by omega) y1 sg hyy hsh;exact this
 |some ex=>
  obtain⟨e,s,x⟩:=ex;simp only[Da]at hX;obtain⟨⟨⟨he,hs⟩,hxne⟩,hx⟩:=hX;have he':e=101\/e=69:=by rw[Sb,ma,ma]at he;exact he
  have hexl:(expT (some (e,s,x))).length=1+(s.length+x.length):=by show(e::(s++x)).length=_;rw[Fa,Ea];omega
  have hass:D++(dotS F++expT (some (e,s,x)))=(D++dotS F)++e::(s++x):=by rw[<-Na];rfl
  have hasx:ah ((D++dotS F)++e::(s++x))=true:=by
   refine xy (fun b hb=> ?_);rcases Yd.1 hb with hb|hb
   ·exact zDZ hasc b hb
   ·rcases Rb.1 hb with hb|hb
    ·subst hb;rcases he' with rfl|rfl<;>decide
    ·rcases Yd.1 hb with hb|hb
     ·rcases su hs with rfl|rfl|rfl
      ·cases hb
      ·simp_all
      simp_all
     ·have:=Br (Ab.1 hx b hb);omega
  have hlt:((D++dotS F)++e::(s++x)).length<=40000:=by rw[Ea,Fa,Ea,Ea];omega
  have t2:ek (D++(dotS F++expT (some (e,s,x))),[101,69])=some ((D++dotS F).length:Int):=by rw[hass];unfold ek;show need (short ((D++dotS F)++e::(s++x))&&short [101,69]&&ah ((D++dotS F)++e::(s++x))&&ah [101,69]) _=_;rw[show short ((D++dotS F)++e::(s++x))=true from Ga (by omega),hasx];exact congrArg some (X8 he' (s++x) _ hpar)
  have hdrop:List.drop (D++dotS F).length ((D++dotS F)++e::(s++x))=e::(s++x):=List.drop_left;have hdrop1:List.drop ((D++dotS F).length+1) ((D++dotS F)++e::(s++x))=s++x:=by rw[<-Td,hdrop];rfl
  have hd0:(D++dotS F).length<=40000:=by rw[Ea];omega
  have hw1:w64 (((D++dotS F).length:Int)+1)=(((D++dotS F).length+1:Nat):Int):=by rw[zM (by omega) (by omega)];omega
  simp only[t2,Aa];rw[Ga (show(((D++dotS F).length:Nat):Int)>=0 by omega),Ca,hw1,hass];have hlt2:(D++dotS F).length+1<=((D++dotS F)++e::(s++x)).length:=by rw[Ea (bs:=e::(s++x)),Fa];omega
  rw[zo (by grind),Oa,hdrop1];have hxh: ∀c r,x=c::r->List.contains [43,45] c=false:=by intro c r e;subst e;rw[Xc,Da]at hx;exact(Nh hx.1).2.2.2.2
  have t4:Nk (s++x,[43,45])=some x:=by unfold Nk;rw[zo (show(short ([43,45]:Str)&&ah [43,45])=true by decide)];exact congrArg some (u6 hs hxh)
  have hxl:x.length<=40000:=by omega
  have hml:maxLen=9223372036854775807:=rfl;simp only[t4,Aa];rw[zo (Ga (by omega))];have hcap:=Ml 1048576 x 0 (Mc _);rw[Zk (CR (cap:=1048576) hx (by omega) (by omega) (fun v i hi=> ?_) (fun v=> ?_))]
  ·have hg8: ∃y8,geti ((D++dotS F)++e::(s++x)) (((D++dotS F).length+1:Nat):Int)=some y8/\(((y8.toNat:Int)==45)=(s==[45])):=by
    have hgg: ∀(b:UInt8) (r:Str),s++x=b::r->geti ((D++dotS F)++e::(s++x)) (((D++dotS F).length+1:Nat):Int)=some b:=by
     intro b r e1;unfold geti;have:((D++dotS F)++e::(s++x))[(D++dotS F).length+1]? =some b:=by rw[rf (by omega),show(D++dotS F).length+1 - (D++dotS F).length=1 by omega,Pf,e1];rfl
     rw[Oa,this,Ga (by omega)];rfl
    rcases su hs with rfl|rfl|rfl
    ·cases hxx:x with
     |nil=>grind
     |cons c r=>
      refine⟨c,by grind,?_⟩;have:=hxh c r hxx;refine Ia.2 (fun e=> ?_);have h45:c=45:=Cf.1 (by grind)
      grind
    ·grind
    ·grind
   obtain⟨y8,h8,h8'⟩:=hg8;simp only[h8,Aa];rw[h8'];have hj:(bif s==[45]then(some (LX.out ((D++dotS F)++e::(s++x),3,w64 (0 - ((capF 1048576 0 x:Nat):Int)))):Option (LX (Str×Int×Int) (LX (Str×Int) Int)))else some (LX.out ((D++dotS F)++e::(s++x),3,((capF 1048576 0 x:Nat):Int))))
     =some (LX.out ((D++dotS F)++e::(s++x),3,expV (some (e,s,x)))):=by
    unfold expV;simp only;cases s==[45]with
    |true=>rw[Ca,Ka rfl,zM (by omega) (by omega)];simp
    |false=>grind
   have hEb:expV (some (e,s,x))<=1048576/\ -1048576<=expV (some (e,s,x)):=by unfold expV;simp only;split<;>omega
   refine(congrArg (fun o=>zP (zP o _) _) hj).trans ?_;simp only[zk];rw[show decide ((((D++dotS F).length:Nat):Int)<=((((D++dotS F)++e::(s++x)).length:Nat):Int))=true from Ga (by omega),zo (by rfl)];simp only[zk,Oa,List.take_left];rw[zM (by omega) (by omega)];exact bP (E:=expV (some (e,s,x))) hD hF (by omega) (by omega) (by omega) y1 sg hyy hsh
  ·simp_all
  ·grind
theorem Sy{n:Nat}(h:n<16):Qw (hexD n)=true/\hexN (hexD n)=n/\(hexD n==10)=false/\letB (hexD n)=true:=by
 have: ∀n:Nat,n<16->Qw (hexD n)=true/\hexN (hexD n)=n/\(hexD n==10)=false/\letB (hexD n)=true:=by decide+kernel
 exact this n h
theorem bF{k n:Nat}{c:UInt8}{r:Str}(h:Qw c=true):hexes (k+1) n (c::r)=hexes k (16*n+hexN c) r:=by rw[hexes,Ka h]
theorem N8{n:Nat}(h:n<256)(R:Str):hexes 6 0 (hexS n++32::R)=(n,32::R):=by
 unfold hexS;by_cases c:n<16
 ·obtain⟨a,b,_⟩:=Sy c;rw[Ka c,Ld,bF a,b,Py _ _ (32::R) (show Qw 32=false by decide)];simp
 ·obtain⟨a,b,_⟩:=Sy (show n / 16<16 by omega);obtain⟨e,d,_⟩:=Sy (show n%16<16 by omega);rw[Ja c,Bb,Ld,bF a,bF e,b,d,Py _ _ (32::R) (show Qw 32=false by decide)]
  grind
theorem uK{n:Nat}(h:n<256)(R:Str): ∃d t,hexS n++R=d::t/\Qw d=true/\(d==10)=false:=by
 unfold hexS;by_cases c:n<16
 ·obtain⟨a,_,b,_⟩:=Sy c;simp_all
 ·obtain⟨a,_,b,_⟩:=Sy (show n / 16<16 by omega);exact⟨_,_,by rw[Ja c];rfl,a,b⟩
theorem PR{c:UInt8}(a:c≠0)(h:c.toNat<128):xg c.toNat=[c]:=by
 have b:c.toNat≠0:=by intro e;exact a (Cf.1 e)
 unfold xg;rw[Ja (by omega),Ka h,Yc]
theorem SS{r:Str}(h:escS (92::r)=true):zt (92::r)=((zA r).1++(zt (zA r).2).1,(zt (zA r).2).2):=by rw[zZ,Ja (by decide),Ka h]
theorem uP{c:UInt8}(h0:c≠0)(h:c.toNat<128)(R:Str):zt (escC c++R)=(c::(zt R).1,(zt R).2):=by
 unfold escC;cases hg:decide (32<c.toNat)&&decide (c.toNat<127)&& !digB c&& !alB c with
 |true=>
  rw[Ca];have hx:Qw c=false/\(c==10)=false:=by
   have: ∀n:Nat,n<256->(decide (32<(UInt8.ofNat n).toNat)&&decide ((UInt8.ofNat n).toNat<127)&& !digB (UInt8.ofNat n)&& !alB (UInt8.ofNat n))=true->Qw (UInt8.ofNat n)=false/\(UInt8.ofNat n==10)=false:=by decide+kernel
   have:=this c.toNat (Ib c);rw[Yc]at this;exact this hg
  have he:zA (c::R)=([c],R):=by show(if Qw c then _ else _)=_;rw[Ja (by rw[hx.1];decide)]
  rw[show [92,c]++R=92::c::R from rfl,SS (by unfold escS;rw[show atS (92::c::R) 0=92 from rfl,show atS (92::c::R) 1=c from rfl,hx.2];rfl),he];rfl
 |false=>
  rw[Ba,Bb,Na];obtain⟨d,t,e,hd,h10⟩:=uK (n:=c.toNat) (Ib c) ([32]++R);have he:zA (hexS c.toNat++([32]++R))=([c],R):=by have hh:=N8 (n:=c.toNat) (Ib c) R;rw[show(32::R:Str)=[32]++R from rfl,e]at hh;rw[e];show(if Qw d then(xg (hexes 6 0 (d::t)).1,unsp (hexes 6 0 (d::t)).2)else _)=_;rw[Ka hd,hh,PR h0 h];rfl
  rw[SS (by rw[e];unfold escS;rw[show atS (92::d::t) 0=92 from rfl,show atS (92::d::t) 1=d from rfl,h10];rfl),he];rfl
theorem FI{c:UInt8}(h: ¬c.toNat<128):letB c=true/\digB c=false:=by
 have: ∀n:Nat,n<256-> ¬(UInt8.ofNat n).toNat<128->letB (UInt8.ofNat n)=true/\digB (UInt8.ofNat n)=false:=by decide+kernel
 have:=this c.toNat (Ib c);simp_all
theorem u7{dash:Bool}{k:Nat}{c:UInt8}(e:c≠0)(f:dash=true->c.toNat<128)(R:Str):zt (pcW dash k c++R)=(c::(zt R).1,(zt R).2):=by
 unfold pcW;cases d:letB c&&(k==0|| !digB c)&& !dash with
 |true=> rw[Da,Da]at d;rw[Ca,Ld,zZ,Ka d.1.1]
 |false=>
  rw[Ba];refine uP e ?_ R;by_cases h:c.toNat<128
  ·exact h
  ·obtain⟨a,b⟩:=FI h
   grind
theorem oQ{dash:Bool}: ∀(k:Nat) (l:Str),Zz l=true->(dash=true-> ∀c∈l,c.toNat<128)->zt (encW dash k l)=(l,[])
 |_,[],_,_=>by rw[encW,Qx]
 |k,c::r,h,a=>by unfold Zz at h;rw[Xc,Da]at h;rw[encW,u7 (by grind) (fun e=>a e c (Ac ..)),oQ (k - 1) r h.2 (fun e x b=>a e x (Cc _ b))]
theorem zC1{l:Str}(h:Zz l=true):zt (ZU l)=(l,[]):=by refine oQ _ _ h (fun e c a=> ?_);simp_all
theorem YE{dash:Bool}{k:Nat}(hk:0<k)(c:UInt8)(R:Str): ∃d t,pcW dash k c++R=d::t/\(d=92/\escS (d::t)=true\/(d=c/\dash=false/\letB d=true/\digB d=false/\t=R)):=by
 have hk0:(k==0)=false:=by rw[Ia];omega
 unfold pcW;rw[hk0,Xb];cases hg:letB c&& !digB c&& !dash with
 |true=> rw[Da,Da,He,He]at hg;exact⟨c,R,rfl, .inr ⟨rfl,hg.2,hg.1.1,hg.1.2,rfl⟩⟩
 |false=>
  rw[Ba];unfold escC;cases hg2:decide (32<c.toNat)&&decide (c.toNat<127)&& !digB c&& !alB c with
  |true=>
   refine⟨92,c::R,rfl, .inl ⟨rfl,?_⟩⟩;have:c≠10:=by rintro rfl;revert hg2;decide
   unfold escS;rw[show atS (92::c::R) 1=c from rfl,Ia.2 this];rfl
  |false=> obtain⟨d,t,e,hd,h10⟩:=uK (n:=c.toNat) (Ib c) ([32]++R);refine⟨92,_,by rw[Ba,Bb,Na], .inl ⟨rfl,?_⟩⟩;rw[e];unfold escS;rw[show atS (92::d::t) 1=d from rfl,h10];rfl
theorem wR{d:UInt8}(h:letB d=true)(h2:digB d=false):fstB d=true\/d=45:=by
 unfold letB at h
 grind
theorem Y3{d:UInt8}{t:Str}(a:d=92)(h:escS (d::t)=true):nmS (d::t)=true:=by subst a;unfold nmS;rw[show atS (92::t) 0=92 from rfl,Ja (by decide),h,Fe]
theorem Tm{l:Str}(h:l≠[]):nmS (ZU l)=true:=by
 cases l with
 |nil=>grind
 |cons c r=>
  unfold ZU encW;obtain⟨d,t,e,u⟩:=YE (dash:=(c::r:Str)==[45]) (k:=qm (c::r)) (by unfold qm;split<;>omega) c (encW ((c::r:Str)==[45]) (qm (c::r) - 1) r);rw[e];rcases u with⟨q,j⟩|⟨rfl,j,x,v,o⟩
  ·exact Y3 q j
  ·rcases wR x v with p|rfl
   ·by_cases m:d=45
    ·subst m;exact absurd p (by decide)
    ·unfold nmS;rw[show atS (d::t) 0=d from rfl,Ja (by grind),p,jc]
   ·have C:r≠[]:=by rintro rfl;exact absurd j (by decide)
    cases r with
    |nil=>grind
    |cons f g=>
     have A:qm (45::f::g)=2:=rfl;rw[A]at o;obtain⟨a,b,y,n⟩:=YE (dash:=(45::f::g:Str)==[45]) (k:=2 - 1) (by omega) f (encW ((45::f::g:Str)==[45]) (2 - 1 - 1) g);have z:t=a::b:=by rw[o,encW,y]
     rw[z];unfold nmS;rw[show atS (45::a::b) 0=45 from rfl,Ka (show((45:UInt8)==45)=true from rfl),show atS (45::a::b) 1=a from rfl,show(45::a::b:Str).drop 1=a::b from rfl];rcases n with⟨_,B⟩|⟨_,_,s,w,_⟩
     ·grind
     ·rcases wR s w with i|rfl
      ·rw[i];rfl
      ·simp
def hdB(b:UInt8):Bool:=b==45||fstB b||b==92
theorem Ws{q:Str}(h:nmS q=true):hdB (atS q 0)=true:=by
 unfold nmS at h;unfold hdB;cases a:atS q 0==45 with
 |true=>rfl
 |false=>
  rw[a,Ja (by decide),Sb]at h;rcases h with h|h
  ·rw[h];rfl
  ·unfold escS at h
   grind
theorem Dx{b:UInt8}(h:hdB b=true):spB b=false/\(b==34)=false/\(b==39)=false/\(b==35)=false/\(b==64)=false/\(b==47)=false/\(b==60)=false/\(b==43)=false/\(b==46)=false/\digB b=false/\b≠0:=by
 have: ∀n:Nat,n<256->hdB (UInt8.ofNat n)=true->spB (UInt8.ofNat n)=false/\(UInt8.ofNat n==34)=false/\(UInt8.ofNat n==39)=false/\(UInt8.ofNat n==35)=false/\(UInt8.ofNat n==64)=false/\(UInt8.ofNat n==47)=false/\(UInt8.ofNat n==60)=false/\(UInt8.ofNat n==43)=false/\(UInt8.ofNat n==46)=false/\digB (UInt8.ofNat n)=false/\UInt8.ofNat n≠0:=by decide+kernel
 have:=this b.toNat (Ib b);simp_all
theorem OZ{q:Str}(h:nmS q=true):nbS q=false:=by
 obtain⟨_,_,_,_,_,_,_,a,j,f,_⟩:=Dx (Ws h);unfold nbS unsign Lg;rw[a,Xb];cases b:atS q 0==45 with
 |false=>
  rw[Ja (by decide)];unfold undot
  grind
 |true=>
  rw[Ka rfl];unfold nmS at h;rw[b,Ka rfl]at h;have i:hdB (atS q 1)=true:=by
   unfold hdB;cases e:fstB (atS q 1)with
   |true=>simp
   |false=>
    cases g:atS q 1==45 with
    |true=>rfl
    |false=> rw[e,g,Xb,Xb]at h;unfold escS at h;rw[Da,Ni]at h;rw[h.1];rfl
  obtain⟨_,_,_,_,_,_,_,_,d,c,_⟩:=Dx i;unfold undot;rw[Ni,d,Ja (by decide),Ni,c]
theorem vZ{s r:Str}:(decide ((0:Int)<=(beh s r:Int))&&decide ((beh s r:Int)<=(s.length:Int)))=true:=by
 have:=Li s r
 grind
theorem vO{s r:Str}(a:r<:+s):List.drop ((beh s r:Int)).toNat s=r:=by rw[Oa,iq a]
theorem fO{a b:UInt8}{m t:Str}(h:(b==a)=false):(a::m).isPrefixOf (b::t)=false:=by
 grind
theorem zIh{a:UInt8}{m q:Str}(c:a≠0)(h:(atS q 0==a)=false):(a::m).isPrefixOf q=false:=by
 cases q with
 |nil=>rfl
 |cons b t=>exact fO h
theorem Gn(m:UInt8):Zo m []=(some [],[]):=by rw[Zo]
theorem Q0(m c:UInt8)(r:Str):Zo m (c::r)=if c==m then(some [],r)
  else if c==10 then(none,c::r)
  else if c==92 then
   (if r.isEmpty then(some [],[])
   else if atS r 0==10 then Zo m (r.drop 1)
   else((Zo m (zA r).2).1.map ((zA r).1++ ·),(Zo m (zA r).2).2))
  else((Zo m r).1.map (c:: ·),(Zo m r).2):=by rw[Zo]
theorem iF(m:UInt8)(l:Str):(Zo m l).2<:+l:=by
 match l with
 |[]=>rw[Gn];grind
 |c::r=>
  rw[Q0];have a:=jd c r;split
  ·exact a
  ·split
   ·grind
   ·split
    ·split
     ·grind
     ·split
      ·exact(iF m (r.drop 1)).trans ((Bf 1 r).trans a)
      ·have:=Zu r;exact(iF m (zA r).2).trans ((Zw r).trans a)
    ·exact(iF m r).trans a
termination_by l.length
decreasing_by
 all_goals grind
theorem yx(a b:Str)(x:Option Str):(x.map (b++ ·)).map (a++ ·)=x.map ((a++b)++ ·):=by
 cases x with
 |none=>rfl
 |some t=>grind
theorem dE(a:Str)(b:UInt8)(x:Option Str):(x.map (b:: ·)).map (a++ ·)=x.map ((a++[b])++ ·):=yx a [b] x
def Mk:Option Str->ze
 |some t=>⟨5,t,0,[],false⟩
 |none=>⟨6,[],0,[],false⟩
theorem zIk{s q:Str}{m:UInt8}(k:s.length<=big)(w:m::q<:+s):Qn (sr s (m::q))=some (Mk (Zo m q).1,sr s (Zo m q).2):=by
 have J:big=4194304:=rfl;have D:=Zq w;unfold Qn;simp only[za,Wh k w,Aa,Tq,yh k w]
 let g:LX (zb×ze×List UInt8) (ze×zb):=match(Zo m q).1 with
  |some t=> .out (sr s (Zo m q).2,⟨0,[],0,[],false⟩,t)
  |none=> .ret (⟨6,[],0,[],false⟩,sr s (Zo m q).2)
 rw[Pi (r:=g)]
 ·show LX.go g _=_;cases h:(Zo m q).1 with
  |some t=>simp only[g,h];rfl
  |none=>simp only[g,h];rfl
 refine ZI (fun z=> ∃(p e:Str),z=(sr s p,⟨0,[],0,[],false⟩,e)/\p<:+s/\e.length+4*p.length<=4*s.length/\(Zo m q).1=(Zo m p).1.map (e++ ·)/\(Zo m q).2=(Zo m p).2) (fun z=>s.length - z.1.at_.toNat) _ ?_
  ⟨q,[],rfl,D,by grind,by simp,rfl⟩
 rintro _ ⟨p,e,rfl,j,C,b,a⟩;simp only[Wh k j,Aa,Jq,XN,fZ];cases p with
 |nil=>
  refine .inr (.inl ⟨_,rfl,?_⟩);rw[Gn]at b a
  grind
 |cons c t=>
  have i:=j.length_le;rw[Fa]at i C;have n:=Zq j;rw[Q0]at b a;rw[show(c::t).isEmpty=false from rfl,Ba,Tq,show((c.toNat:Int)==(m.toNat:Int))=(c==m)from Oh c m,show atS (c::t) 0=c from rfl,yh k j];have f: ∀u:Str,u.length<=t.length->u<:+s->s.length - beh s u<s.length - beh s (c::t):=by intro u A F;unfold beh;rw[Fa];omega
  cases v:c==m with
  |true=>
   grind
  |false=>
   rw[v,Ja (by decide)]at b a;rw[Ba];cases y:c==10 with
   |true=>
    grind
   |false=>
    rw[y,Ja (by decide)]at b a;rw[Ba];cases l:c==92 with
    |false=> rw[l,Ja (by decide)]at b a;simp only[zq,Ba,Aa,Ec,uy];rw[zo (Lh (by omega))];exact .inl ⟨_,rfl,⟨t,e++[c],rfl,n,by grind,by rw[b,dE],a⟩,f t (by omega) n⟩
    |true=>
     rw[l,Ka rfl]at b a;simp only[zq,Ca,Lx k j,Aa,Lb];have x:pk (c::t) 1=pk t 0:=rfl;rw[x,Jq];cases t with
     |nil=>
      rw[show([]:Str).isEmpty=true from rfl,Ka rfl]at b a;have o:beh s [c]=s.length - 1:=rfl;have G:(if((s.length:Int)<w64 ((beh s [c]:Int)+2))then(s.length:Int)else w64 ((beh s [c]:Int)+2))=((beh s []:Nat):Int):=by rw[zM (by omega) (by omega),Ka (by omega)];unfold beh;rw[Va];omega
      refine .inl ⟨(sr s [],⟨0,[],0,[],false⟩,e),?_,⟨[],e,rfl,List.nil_suffix,by grind,by rw[b,Gn],by rw[a,Gn]⟩,f [] (by simp) List.nil_suffix⟩
      grind
     |cons d u=>
      rw[show(d::u).isEmpty=false from rfl,Ja (by decide)]at b a;simp only[show(d::u).isEmpty=false from rfl,Ra,Ca,Ba,Aa,XN];cases B:atS (d::u) 0==10 with
      |true=>
       rw[B,Ka rfl]at b a;have A:=Zq n;rw[Fa]at i C;have o:beh s (c::d::u)=s.length - (u.length+1+1):=by unfold beh;rw[Fa,Fa]
       have G:(if((s.length:Int)<w64 ((beh s (c::d::u):Int)+2))then(s.length:Int)else w64 ((beh s (c::d::u):Int)+2))=((beh s u:Nat):Int):=by rw[zM (by omega) (by omega),Ja (by omega)];unfold beh;rw[Fa,Fa];omega
       refine .inl ⟨(sr s u,⟨0,[],0,[],false⟩,e),?_,⟨u,e,rfl,A,by omega,b,a⟩,f u (by grind) A⟩
       grind
      |false=> rw[B,Ja (by decide)]at b a;have H:=xq (d::u);have E:=Zu (d::u);refine .inl ⟨(sr s (zA (d::u)).2,⟨0,[],0,[],false⟩,e++(zA (d::u)).1),?_,⟨_,_,rfl,(Zw _).trans n,by grind,by rw[b,yx],a⟩,f _ E ((Zw _).trans n)⟩;simp only[Ba,gK k j (show e.length<=1000000000 by omega),Aa]
end Go.Lv.VT
