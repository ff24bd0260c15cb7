/- A number that is written is read as the same: token.Value. -/
import Derived.Test.YtkecjfeffabgiaaGreatDoorXb
set_option linter.unusedSimpArgs false
set_option linter.unusedVariables false
namespace Go.Lv.VT
set_option maxRecDepth 100000
def partT(r:Nat)(p:Bool):Str:=bif (Tj r).isEmpty then(bif p then [48]else [])else Tj r
theorem Kn{r:Nat}(h:r<1000)(p:Bool):(partT r p).all digB=true/\(partT r p).length<=3/\valG 0 (partT r p)*10 ^ (3 - (partT r p).length)=r/\Ck r p=(bif (partT r p).isEmpty then []else 46::partT r p)/\((partT r p).isEmpty=((r==0)&& !p)):=by
 have f:=CK r h;simp only[bD,Ca,Ab,Bb]at f;obtain⟨⟨⟨⟨a,b⟩,c⟩,d⟩,e⟩:=f;unfold partT Ck;cases g:(Tj r).isEmpty with
 |true=>
  have i:r=0:=by rw[g]at d;exact Bb.1 d.symm
  subst i;cases p<;>refine⟨by decide,by decide,by decide,rfl,rfl⟩
 |false=>
  grind
theorem RP{l:Str}(h:(l.all fun b=>digB b||b==46)=true):Di l=true:=by
 unfold Di;rw[aa]at h ⊢;intro b hb;have:=h b hb;refine Ga ?_;rw[Vb]at this;rcases this with h1|h1
 ·have:=jw h1;omega
 simp_all
theorem gP{m:Nat}(p:Bool):((ig m p).all fun b=>digB b||b==46)=true:=by
 obtain⟨d,_,_⟩:=Aw (m / 1000);obtain⟨g,_,_,e,_⟩:=Kn (r:=m%1000) (by omega) p;have f: ∀l:Str,l.all digB=true->(l.all fun b=>digB b||b==46)=true:=by intro l a;rw[aa]at a ⊢;intro b c;rw[a b c];rfl
 unfold ig
 grind
theorem NA(u:Nat): ∃c r,Lib.decDigits u=c::r/\digB c=true:=by
 obtain⟨b,_,a⟩:=Aw u;cases h:Lib.decDigits u with
 |nil=>exact absurd h a
 |cons c r=>grind
theorem Ri{c:UInt8}(h:digB c=true):c≠45/\c≠43/\c≠46/\c≠0/\List.contains [43,45] c=false:=by
 have: ∀n:Nat,n<256->digB (UInt8.ofNat n)=true->UInt8.ofNat n≠45/\UInt8.ofNat n≠43/\UInt8.ofNat n≠46/\UInt8.ofNat n≠0/\List.contains [43,45] (UInt8.ofNat n)=false:=by decide+kernel
 have:=this c.toNat (Sb c);simp_all
theorem zDH{m:Nat}(p:Bool): ∃f,Lib.cut (ig m p) [46]=(Lib.decDigits (m / 1000),partT (m%1000) p,f):=by
 obtain⟨a,_,_⟩:=Aw (m / 1000);obtain⟨_,_,_,b,_⟩:=Kn (r:=m%1000) (by omega) p;unfold ig Lib.cut;rw[OG,b];cases c:(partT (m%1000) p).isEmpty with
 |true=> rw[Da,Xa,NI _ a,Ia (by decide)];simp_all
 |false=> rw[Ba,OI _ _ a,Ka (by omega)];simp_all
theorem zpj{n:Int}(S: -1000000000000<=n)(h2:n<=1000000000000)(p:Bool):qC (numT n p)=some n:=by
 obtain⟨m,B⟩: ∃m:Nat,n.natAbs=m:=⟨_,rfl⟩;have k:m<=1000000000000:=by omega
 obtain⟨c,r,E,y⟩:=NA (m / 1000);obtain⟨h,C,_,_,t⟩:=Ri y;have d:ig m p=c::(r++Ck (m%1000) p):=by unfold ig;rw[E];rfl
 have A:=NF k p;obtain⟨f,j⟩:=zDH (m:=m) p;obtain⟨X,L,Y⟩:=Aw (m / 1000);obtain⟨T,U,K,V,W⟩:=Kn (r:=m%1000) (by omega) p;have H:=sK (u:=m / 1000) (by omega);have o:short (ig m p)=true:=Ga (by omega);have w:Lib.trimLeftS (ig m p) [43,45]=ig m p:=by rw[d];unfold Lib.trimLeftS;rw[Bc,t];rfl
 have J:Lib.trimLeftS (numT n p) [43,45]=ig m p:=by
  unfold numT;rw[B];by_cases g:n<0
  ·rw[Ka g];show List.dropWhile _ (45::ig m p)=_;simp_all
  ·grind
 have Q: ∃b,geti (numT n p) 0=some b/\(((b.toNat:Int)==45)=decide (n<0)):=by
  unfold numT;rw[B];by_cases g:n<0
  ·rw[Ka g,Ga g];exact⟨45,rfl,rfl⟩
  ·rw[Ia g,Db g];refine⟨c,by rw[d];rfl,Ha.2 (fun e=>h ?_)⟩;exact Gf.1 (by grind)
 obtain⟨b,x,z⟩:=Q;unfold qC;simp only[ze,x,Aa];have O:Gl (numT n p,[43,45])=some (ig m p):=by unfold Gl;rw[zF (show(short ([43,45]:Str)&&Di [43,45])=true by decide)];exact congrArg some J
 have M:Sl (ig m p,[101,69])=some (-1):=by unfold Sl;rw[zF (by simp only[o,RP (gP p),ib,Cb];decide)];exact congrArg some (IJ _ (gP p))
 have P:cutF (ig m p,[46])=some (Lib.decDigits (m / 1000),partT (m%1000) p,f):=by unfold cutF;rw[zF (by exact o)];exact congrArg some j
 simp only[O,M,Aa,show decide ((-1:Int)>=0)=false from rfl,Ba,zq,P];rw[zF (Co.2 (by omega))];have N:w64 (3 - ((partT (m%1000) p).length:Int))=((3 - (partT (m%1000) p).length:Nat):Int):=by rw[Zq (by omega) (by omega)];omega
 rw[N,Db (by omega),Ba,zq];simp only;have D:maxLen=9223372036854775807:=rfl;rw[zF (Ga (by grind))];have q:valG 0 (Lib.decDigits (m / 1000)++partT (m%1000) p)*10 ^ (3 - (partT (m%1000) p).length)=m:=by rw[WF,L,Tz,Af,K,Nat.mul_assoc,<-Nat.pow_add,show(partT (m%1000) p).length+(3 - (partT (m%1000) p).length)=3 by omega];omega
 have s:valG 0 (Lib.decDigits (m / 1000)++partT (m%1000) p)<=1000000000000:=by have:=Ye (valG 0 (Lib.decDigits (m / 1000)++partT (m%1000) p)) (yg (n:=3 - (partT (m%1000) p).length) (show 0<10 by omega));omega
 rw[qK (zFj (l:=Lib.decDigits (m / 1000)++partT (m%1000) p) (by grind) (by grind) s (fun v i R=> ?_) (fun v=> ?_))]
 ·rw[qK (zzb (by omega) (by grind) (fun a b=> ?_)),q]
  ·rw[z];by_cases g:n<0
   ·rw[Ga g,Da,zq,Zq (by omega) (by omega)];congr 1;omega
   ·rw[Db g,Ba,zq];congr 1;omega
  ·simp only
 ·have F:decide ((i:Int)<((Lib.decDigits (m / 1000)++partT (m%1000) p).length:Int))=true:=Ga (by omega);have G:decide ((0:Int)<=(i:Int))=true:=Ga (by omega);simp only[F,G,Da,ib,zK,Nb,Ya R,Aa]
 ·grind
theorem zGJ(n:Int)(p:Bool):(n<0/\numT n p=45::ig n.natAbs p)\/(¬n<0/\numT n p=ig n.natAbs p):=by
 unfold numT
 grind
theorem zzF(m:Nat)(p:Bool): ∃c r,ig m p=c::r/\digB c=true:=by obtain⟨c,r,h,a⟩:=NA (m / 1000);exact⟨c,r++Ck (m%1000) p,by unfold ig;rw[h];rfl,a⟩
theorem fH{n:Int}(b: -1000000000000<=n)(h2:n<=1000000000000)(p:Bool):(numT n p).length<=25/\1<=(numT n p).length:=by
 have:=NF (m:=n.natAbs) (by omega) p;obtain⟨c,r,a,_⟩:=zzF n.natAbs p;rcases zGJ n p with⟨_,h⟩|⟨_,h⟩
 ·grind
 grind
theorem ZX{n:Nat}(h:n<256):QA ((n:Nat):Int)=some (UInt8.ofNat n):=by
 unfold QA
 grind
theorem uI(n k:Nat)(a:k<=32):Mi .i32 (n:Int) (k:Int)=((n / 2 ^ k:Nat):Int):=by
 unfold Mi;rw[show(min ((k:Int).toNat) IntKind.i32.bits)=k by show min k 32=k;omega]
 grind
theorem shr6(n:Nat):Mi .i32 (n:Int) 6=((n / 64:Nat):Int):=uI n 6 (by omega)
theorem dZ(n:Nat):Mi .i32 (n:Int) 12=((n / 4096:Nat):Int):=uI n 12 (by omega)
theorem cZ(n:Nat):Mi .i32 (n:Int) 18=((n / 262144:Nat):Int):=uI n 18 (by omega)
theorem zKK(n:Int):IntKind.u8.wrap n=n%256:=by simp[IntKind.wrap,IntKind.bits,IntKind.signed]
theorem zIU(n:Int):IntKind.u32.wrap n=n%4294967296:=by simp[IntKind.wrap,IntKind.bits,IntKind.signed]
theorem Fq{n:Nat}(h:n<2147483648):w32 (n:Int)=(n:Int):=by show IntKind.i32.wrap _=_;simp only[IntKind.wrap,IntKind.bits,IntKind.signed];simp;omega
theorem mP{n:Nat}(h:n<2147483648):wu32 (n:Int)=(n:Int):=by show IntKind.u32.wrap _=_;rw[zIU];omega
theorem Sz(n:Nat):wu8 (n:Int)=((n%256:Nat):Int):=by show IntKind.u8.wrap (n:Int)=_;rw[zKK];omega
theorem PQ(n:Nat):ibOr .u8 128 (Ij .u8 (wu8 (n:Int)) 63)=((128+n%64:Nat):Int):=by
 have: ∀m:Nat,m<256->ibOr .u8 128 (Ij .u8 ((m:Nat):Int) 63)=((128+m%64:Nat):Int):=by decide+kernel
 rw[Sz,this _ (pg _ (by omega)),show n%256%64=n%64 by omega]
theorem O3{n:Nat}(h:n<32):ibOr .u8 192 (wu8 (n:Int))=((192+n:Nat):Int):=by
 have: ∀m:Nat,m<32->ibOr .u8 192 (wu8 ((m:Nat):Int))=((192+m:Nat):Int):=by decide+kernel
 exact this n h
theorem VH{n:Nat}(h:n<16):ibOr .u8 224 (wu8 (n:Int))=((224+n:Nat):Int):=by
 have: ∀m:Nat,m<16->ibOr .u8 224 (wu8 ((m:Nat):Int))=((224+m:Nat):Int):=by decide+kernel
 exact this n h
theorem M3{n:Nat}(h:n<8):ibOr .u8 240 (wu8 (n:Int))=((240+n:Nat):Int):=by
 have: ∀m:Nat,m<8->ibOr .u8 240 (wu8 ((m:Nat):Int))=((240+m:Nat):Int):=by decide+kernel
 exact this n h
theorem jh{n m:Nat}(h:n+m<=2000000000):zW n m 1=true:=by unfold zW;grind
theorem gZ{n:Nat}(o:n≠0)(h:n<16777216){l:Str}(m:l.length<=1000000000):qE (w32 (n:Int),l)=some (l++Yh n):=by
 have j:zW l.length 1 1=true:=jh (by omega);have f:zW l.length 2 1=true:=jh (by omega);have d:zW l.length 3 1=true:=jh (by omega);have g:zW l.length 4 1=true:=jh (by omega);have c:(128+n%64)<256:=by omega
 have a:(128+n / 64%64)<256:=by omega
 have b:(128+n / 4096%64)<256:=by omega
 unfold qE qI Yh;simp only[Fq (show n<2147483648 by omega),mP (show n<2147483648 by omega),ze,shr6,dZ,cZ,PQ,ZX c,ZX a,ZX b,Aa];by_cases e:n<128
 ·rw[Ga (by omega),Da,Sz,ZX (by omega),Aa,zF j,Ia (by omega),Ka e,Vf (by omega)]
 ·rw[Db (by omega),Ba];by_cases i:n<2048
  ·rw[Ga (by omega),Da,O3 (by omega),ZX (by omega)];simp only[Aa];rw[zF f,Ia (by omega),Ia (by omega),Ka i];rfl
  ·rw[Db (by omega),Ba];by_cases p:n<55296
   ·rw[Ga (by omega),Da,zq];simp only[Da];rw[VH (by omega),ZX (by omega)];simp only[Aa];rw[zF d,Ia (by omega),Ia (by omega),Ia (by omega),Ka (by omega)];rfl
   ·rw[Db (by omega),Ba,zq];simp only[I7];by_cases k:57343<n/\n<65536
    ·rw[Ga (by omega),Ga (by omega),ib,Da,VH (by omega),ZX (by omega)];simp only[Aa];rw[zF d,Ia (by omega),Ia (by omega),Ia (by omega),Ka (by omega)];rfl
    ·rw[show(decide ((57343:Int)<(n:Int))&&decide ((n:Int)<=65535))=false by grind,Ba];by_cases q:65535<n/\n<=1114111
     ·rw[Ga (by omega),Ga (by omega),ib,Da,M3 (by omega),ZX (by omega)];simp only[Aa];rw[zF g,Ia (by omega),Ia (by omega),Ia (by omega),Ia (by omega)];rfl
     ·rw[show(decide ((n:Int)>65535)&&decide ((n:Int)<=1114111))=false by grind,Ba,zF d,Ka (by omega)];rfl
theorem sS{l:Str}(a:l.length<=1000000000):qE (65533,l)=some (l++Xo):=by have h:=gZ (n:=65533) (by omega) (by omega) a;rw[Fq (by omega)]at h;exact h
theorem Xk{s:Str}{c:UInt8}{l:Str}(h:c::l<:+s):l<:+s:=(Oe c l).trans h
theorem ai{s:Str}{c:UInt8}{l:Str}(d:s.length<=big)(h:c::l<:+s):w64 ((beh s (c::l):Int)+1)=(beh s l:Int):=by
 have b:big=4194304:=rfl;have a:=h.length_le;rw[Fa]at a;have e:beh s (c::l)+1=beh s l:=by unfold beh;rw[Fa];omega
 have:=um s l;rw[Zq (by omega) (by omega)];omega
theorem Ns(c:UInt8)(l:Str):pk (c::l) 0=(c.toNat:Int):=rfl
theorem AA(c:UInt8):QA (wu8 ((c.toNat:Nat):Int))=some c:=by rw[Sz,Vf (Sb c),ZX (Sb c),jd]
theorem fE{b:UInt8}(h:QW b=true):hexN b<16:=Ac h
theorem R4{n d:Nat}(hn:n<16777216)(hd:d<16):ibOr .i64 (yC .i64 (n:Int) 4) (d:Int)=((16*n+d:Nat):Int):=by
 have h1:yC .i64 (n:Int) 4=((16*n:Nat):Int):=by unfold yC;rw[show(2:Int) ^ (min (4:Int).toNat IntKind.i64.bits)=16 from rfl];rw[Zz (by omega) (by omega)];omega
 rw[h1];unfold ibOr;have e:(BitVec.ofInt IntKind.i64.bits ((16*n:Nat):Int) ||| BitVec.ofInt IntKind.i64.bits (d:Int)).toNat=16*n+d:=by
  rw[BitVec.toNat_or,BitVec.toNat_ofInt,BitVec.toNat_ofInt];rw[show((((16*n:Nat):Int)%((2 ^ IntKind.i64.bits:Nat):Int)).toNat)=16*n by show(((16*n:Nat):Int)%18446744073709551616).toNat=_;omega,
   show(((d:Int)%((2 ^ IntKind.i64.bits:Nat):Int)).toNat)=d by show((d:Int)%18446744073709551616).toNat=_;omega]
  have:=Nat.two_pow_add_eq_or_of_lt (i:=4) (b:=d) hd n;rw[show 2 ^ 4*n=16*n from rfl]at this;exact this.symm
 rw[e,Zz (by omega) (by omega)]
theorem CF(b:UInt8):decide (hexI b<0)= !QW b:=by
 unfold hexI
 grind
theorem PI: ∀(k n:Nat) (l:Str),QW (atS l 0)=false->hexes k n l=(n,l)
 |0,_,_,_=>rfl
 |_+1,_,[],_=>rfl
 |k+1,n,c::r,h=>by unfold hexes;rw[Ia (by rw[show QW c=false from h];decide)]
theorem XR {R:Type} {step:(Int×Int)×za->Option (LO ((Int×Int)×za) (Int×za) R)} {s l:Str} (j:l<:+s)
  (h: ∀(n i:Nat) (q:Str),q<:+s->n<16777216->i<=6->step (((n:Int),(i:Int)),sr s q)=some (bif decide (i<6)&&QW (atS q 0)then .again ((((16*n+hexN (atS q 0):Nat):Int),((i+1:Nat):Int)),sr s (q.drop 1))else .out ((n:Int),sr s q))):
  Ph step ((0,0),sr s l)=some (.out (((hexes 6 0 l).1:Int),sr s (hexes 6 0 l).2)):=by
 refine qa (fun z=> ∃(n i:Nat) (q:Str),z=(((n:Int),(i:Int)),sr s q)/\q<:+s/\i<=6/\n<16 ^ i/\hexes (6 - i) n q=hexes 6 0 l) (fun z=>6 - z.1.2.toNat) _ ?_ ⟨0,0,l,rfl,j,by omega,by decide,rfl⟩;rintro _ ⟨n,i,q,rfl,g,f,k,d⟩;have e:n<16777216:=Rc k (Nat.pow_le_pow_right (by omega) f:16 ^ i<=16 ^ 6);rw[h n i q g e f];rcases Xd i 6 with b|m
 ·rw[Ga b,Cb];cases a:QW (atS q 0)with
  |true=>
   cases q with
   |nil=>exact absurd a (by decide)
   |cons c r=>
    have o:=fE a;refine .inl ⟨_,rfl,⟨16*n+hexN (atS (c::r) 0),i+1,r,rfl,Xk g,by omega,?_,?_⟩,by grind⟩
    ·grind
    ·rw[<-d,show 6 - i=(6 - (i+1))+1 by omega];rw[hexes.eq_def ((6 - (i+1))+1) n (c::r)];simp only;rw[Ka (show QW c=true from a)];rfl
  |false=> refine .inr (.inl ⟨_,rfl,?_⟩);rw[<-d,PI _ _ _ a]
 ·rw[Db (by omega),Ub];refine .inr (.inl ⟨_,rfl,?_⟩);rw[<-d,show 6 - i=0 by omega];rfl
theorem xJ: ∀(k n:Nat) (l:Str),(hexes k n l).1<16 ^ k*(n+1)
 |0,n,l=>by unfold hexes;omega
 |k+1,n,[]=>by have:0<16 ^ (k+1):=yg (by omega);unfold hexes;exact Rc (Bf n) (Nat.le_mul_of_pos_left _ this)
 |k+1,n,c::r=>by
  unfold hexes;cases hx:QW c with
  |true=> rw[Ka rfl];have h1:=xJ k (16*n+hexN c) r;have:=fE hx;refine Rc h1 ?_;rw[Nat.pow_succ,Nat.mul_assoc];exact Nat.mul_le_mul_left _ (by omega)
  |false=> rw[Ia (by decide)];have:0<16 ^ (k+1):=yg (by omega);exact Rc (Bf n) (Nat.le_mul_of_pos_left _ this)
theorem nK{s l acc:Str}{c:UInt8}(hs:s.length<=big)(hr:c::l<:+s)(ha:acc.length<=1000000000):
  Zh (sr s (c::l),acc)=some (sr s (zy l).2,acc++(zy l).1):=by
 have hl:=Xk hr;unfold Zh;simp only[ai hs hr,ze,xh hs hl,Aa,Ur];cases l with
 |nil=> rw[show([]:Str).isEmpty=true from rfl,Da,sS ha];rfl
 |cons d r=>
  rw[show(d::r).isEmpty=false from rfl,Ba,MH];simp only[Aa,CF];cases hx:QW (atS (d::r) 0)with
  |false=>
   rw[Ta,Da,Ns,AA];simp only[Aa,ai hs hl];rw[zF (jh (by omega))];have:zy (d::r)=([d],r):=by show(if QW d then _ else _)=_;rw[Ia (by rw[show QW d=false from hx];decide)]
   rw[this]
  |true=>
   rw[Va,Ba];have he:zy (d::r)=(Yh (hexes 6 0 (d::r)).1,unsp (hexes 6 0 (d::r)).2):=by show(if QW d then _ else _)=_;rw[Ka (show QW d=true from hx)]
   rw[he];rw[qK (XR (l:=d::r) hl (fun n i q hq hn hi=> ?_))]
   ·have hq:(hexes 6 0 (d::r)).2<:+s:=(WA 6 0 _).trans hl;have hlt:=xJ 6 0 (d::r);rw[show 16 ^ 6*(0+1)=16777216 from rfl]at hlt;simp only[xh hs hq,Aa,Oz];have hj:(bif spB (atS (hexes 6 0 (d::r)).2 0)then some (LX.out (((hexes 6 0 (d::r)).1:Int),(⟨s,w64 ((beh s (hexes 6 0 (d::r)).2:Int)+1)⟩:za),acc))else some (LX.out (((hexes 6 0 (d::r)).1:Int),sr s (hexes 6 0 (d::r)).2,acc)):Option (LX (Int×za×List UInt8) (za×List UInt8)))
      =some (LX.out (((hexes 6 0 (d::r)).1:Int),sr s (unsp (hexes 6 0 (d::r)).2),acc)):=by
     cases hh:(hexes 6 0 (d::r)).2 with
     |nil=>rfl
     |cons e t=>
      rw[hh]at hq;rw[show atS (e::t) 0=e from rfl,ai hs hq];show _=some (LX.out (_,sr s (if spB e then t else e::t),acc))
      grind
    rw[hj,zq];simp only;by_cases h0:(hexes 6 0 (d::r)).1=0
    ·rw[h0,show((((0:Nat):Int))==0)=true from rfl,Da,zq];simp only[Fq (show 65533<2147483648 by omega),show w32 (65533:Int)=65533 from Fq (n:=65533) (by omega),sS ha,Aa];rfl
    ·rw[show(((hexes 6 0 (d::r)).1:Int)==0)=false by grind,Ba,zq];simp only[gZ h0 hlt ha,Aa]
   ·simp only[xh hs hq,Aa,MH,CF];have hb6:decide ((i:Int)<6)=decide (i<6):=by rw[og];omega
    rw[hb6];cases decide (i<6)with
    |false=>rfl
    |true=>
     rw[Da,Cb];cases hx2:QW (atS q 0)with
     |false=>rfl
     |true=>
      cases q with
      |nil=>exact absurd hx2 (by decide)
      |cons e t=>
       have hI:hexI (atS (e::t) 0)=(hexN (atS (e::t) 0):Int):=by unfold hexI;rw[Ka hx2]
       rw[hI,R4 hn (fE hx2),ai hs hq,Zq (by omega) (by omega)];rfl
theorem zHn{s r:Str}{k:Nat}(b:s.length<=big)(c:r<:+s)(d:k<=4):zI ((k:Int),sr s r)=some (escS (r.drop k)&&decide (k<r.length)):=by
 unfold zI;simp only[ze,Er b c (show k<=8 by omega),Aa,mZ];rw[show w64 ((k:Int)+1)=((k+1:Nat):Int) by rw[Zq (by omega) (by omega)];omega,Er b c (by omega)];unfold escS;rw[Bj,Bj,Ld];cases h:(atS r k==92)with
 |false=>simp_all
 |true=> have a:k<r.length:=Sy (by grind);rw[Ga a];simp only[zA,Da,Aa,Cb,ib];unfold bne;rw[XN]
theorem zHm{l:Str}(h:escS l=true):0<l.length:=by unfold escS at h;rw[Ca]at h;exact Sy (by grind)
theorem LF{s r:Str}{k:Nat}(hs:s.length<=big)(hr:r<:+s)(hk:k<=4):zI ((k:Int),sr s r)=some (escS (r.drop k)):=by
 rw[zHn hs hr hk];cases h:escS (r.drop k)with
 |false=>rfl
 |true=> have:=zHm h;rw[Dc]at this;rw[Ga (by omega)];rfl
theorem EK{s r:Str}(a:s.length<=big)(b:r<:+s):zI (0,sr s r)=some (escS r):=LF (k:=0) a b (by omega)
theorem sN{s r:Str}{k:Nat}(a:s.length<=big)(b:r<:+s)(d:k<=2):z8 ((k:Int),sr s r)=some (nmS (r.drop k)):=by
 unfold z8;have c:w64 ((k:Int)+1)=((k+1:Nat):Int):=by rw[Zq (by omega) (by omega)];omega
 simp only[c,ze,Er a b (show k<=8 by omega),Er a b (show k+1<=8 by omega),Aa,zIG,LF a b (show k<=4 by omega),LF a b (show k+1<=4 by omega)];unfold nmS;rw[Bj,Bj,Ve];unfold bne;rw[wC,Ld];cases atS r k==45 with
 |true=>
  simp only[Va,Ba,Te];cases fstB (atS r (k+1))with
  |true=>rfl
  |false=>
   simp only[Ta,zA,Da,Ba,Aa,wC]
   grind
 |false=> simp only[Ta,Da];cases fstB (atS r k)<;>cases escS (r.drop k)<;>rfl
theorem zFE(n:Nat):(Yh n).length<=4:=by
 unfold Yh Xo
 grind
theorem nA(l:Str):(zy l).1.length<=4:=by
 cases l with
 |nil=>show Xo.length<=4;decide
 |cons c r=>
  show(if QW c then(Yh (hexes 6 0 (c::r)).1,unsp (hexes 6 0 (c::r)).2)else([c],r)).1.length<=4;split
  ·exact zFE _
  grind
theorem zZ(c:UInt8)(r:Str):zu (c::r)=if letB c then((c::(zu r).1),(zu r).2)
  else if escS (c::r)then((zy r).1++(zu (zy r).2).1,(zu (zy r).2).2)
  else([],c::r):=by rw[zu]
theorem Ql:zu []=([],[]):=by rw[zu]
theorem zKf(l:Str):(pk l 0 != -1)= !l.isEmpty:=by unfold bne;rw[Ur]
theorem OH{s r:Str}(i:s.length<=big)(k:r<:+s):Ze (sr s r)=some ((zu r).1,sr s (zu r).2):=by
 have m:big=4194304:=rfl;unfold Ze;refine DL (r:=((zu r).1,sr s (zu r).2)) ?_;refine qa (fun z=> ∃(q a:Str),z=(sr s q,a)/\q<:+s/\a.length+4*q.length<=4*s.length/\a++(zu q).1=(zu r).1/\(zu q).2=(zu r).2) (fun z=>s.length - z.1.at_.toNat) _ ?_ ⟨r,[],rfl,k,by grind,rfl,rfl⟩;rintro _ ⟨q,a,rfl,f,j,d,b⟩;simp only[ze,xh i f,Aa,DR];cases q with
 |nil=>
  refine .inr (.inr ⟨_,rfl,?_⟩);rw[Ql]at d b
  grind
 |cons c t=>
  have g:=f.length_le;rw[Fa]at g j;rw[show atS (c::t) 0=c from rfl];rw[zZ]at d b;cases e:letB c with
  |true=>
   rw[e,Ka rfl]at d b;refine .inl ⟨(sr s t,a++[c]),?_,⟨t,a++[c],rfl,Xk f,by grind,by grind,b⟩,?_⟩
   ·rw[Da,Ns,AA];simp only[Aa];rw[zF (jh (by omega)),ai i f]
   ·show s.length - beh s t<s.length - beh s (c::t);unfold beh;grind
  |false=>
   rw[e,Ia (by decide)]at d b;rw[Ba,zKf,show(c::t).isEmpty=false from rfl,EK i f];cases h:escS (c::t)with
   |true=>
    rw[h,Ka rfl]at d b;have l:=nA t;have n:=Zl t;refine .inl ⟨(sr s (zy t).2,a++(zy t).1),?_,⟨_,_,rfl,(qy t).trans (Xk f),by grind,by grind,b⟩,?_⟩
    ·simp only[Ta,zA,Da,Aa,nK i f (show a.length<=1000000000 by omega)]
    ·show s.length - beh s (zy t).2<s.length - beh s (c::t);unfold beh;grind
   |false=> simp_all
theorem Eo(l:Str):(zu l).2<:+l:=by
 match l with
 |[]=>rw[Ql];grind
 |c::r=>
  rw[zZ];split
  ·exact(Eo r).trans (Oe c r)
  ·split
   ·have:=Zl r;exact(Eo (zy r).2).trans ((qy r).trans (Oe c r))
   grind
termination_by l.length
decreasing_by
 all_goals grind
def escC(c:UInt8):Str:=bif decide (32<c.toNat)&&decide (c.toNat<127)&& !digB c&& !alB c then [92,c]else 92::(hexS c.toNat++[32])
def pcW(dash:Bool)(k:Nat)(c:UInt8):Str:=bif letB c&&(k==0|| !digB c)&& !dash then [c]else escC c
def encW(dash:Bool):Nat->Str->Str
 |_,[]=>[]
 |k,c::r=>pcW dash k c++encW dash (k - 1) r
theorem zEr(c:UInt8):namN c.toNat=letB c:=by
 have: ∀n:Nat,n<256->namN (UInt8.ofNat n).toNat=letB (UInt8.ofNat n):=by decide+kernel
 have h:=this c.toNat (Sb c);simp_all
theorem zAA(c:UInt8):Om (c.toNat:Int)=some (letB c):=by rw[eX,zEr]
theorem RI(c:UInt8):qz (c.toNat:Int)=some (digB c):=gX c
theorem zD7(c:UInt8):Wx (c.toNat:Int)=some (alB c):=of_n (by decide+kernel) c
theorem zDi(c:UInt8):wu64 (c.toNat:Int)=(c.toNat:Int):=by
 have:=Sb c;show IntKind.u64.wrap _=_;have h: ∀n:Int,IntKind.u64.wrap n=n%18446744073709551616:=fun n=>by simp[IntKind.wrap,IntKind.bits,IntKind.signed]
 rw[h];omega
theorem gz(c:UInt8):QA ((c.toNat:Nat):Int)=some c:=by simp_all
theorem JS(n:Nat):(hexS n).length<=2:=by unfold hexS;split<;>simp
theorem Xq(c:UInt8){acc:Str}(j:acc.length<=1000000000):Z4 ((c.toNat:Int),acc)=some (acc++escC c):=by
 have i:=Sb c;unfold Z4 escC;simp only[ze,RI,zD7];have g:decide ((c.toNat:Int)>32)=decide (32<c.toNat):=by rw[og];omega
 have f:decide ((c.toNat:Int)<127)=decide (c.toNat<127):=by rw[og];omega
 rw[g,f];have b:short (acc++[(92:UInt8)])=true:=Ga (by grind);have e:Jt ((wu64 (c.toNat:Int),16),acc++[(92:UInt8)])=some (acc++[(92:UInt8)]++hexS c.toNat):=by unfold Jt;simp only[zDi,b];rw[zF (by simp;omega)];rfl
 have h:=JS c.toNat;have a:need (zW acc.length 1 1) (ze (Jt ((wu64 (c.toNat:Int),16),acc++[(92:UInt8)])) fun d=>need (zW d.length 1 1) (some (d++[(32:UInt8)])))=some (acc++92::(hexS c.toNat++[32])):=by rw[zF (jh (by omega)),e];simp only[ze,Aa];rw[zF (jh (by grind))];simp
 simp only[ze]at a;rw[a];cases decide (32<c.toNat)with
 |false=>rfl
 |true=>
  cases decide (c.toNat<127)with
  |false=>rfl
  |true=>
   cases digB c with
   |true=>rfl
   |false=>
    cases alB c with
    |true=>rfl
    |false=> simp only[zA,Da,Ta,vg,Aa,gz];rw[zF (jh (by omega))]
theorem IA(c:UInt8):(escC c).length<=4:=by
 have:=JS c.toNat;unfold escC
 grind
theorem K9(dash:Bool)(k:Nat)(c:UInt8):(pcW dash k c).length<=4:=by
 have:=IA c;unfold pcW
 grind
theorem Gt(dash:Bool): ∀(k:Nat) (l:Str),(encW dash k l).length<=4*l.length
 |_,[]=>by unfold encW;simp
 |k,c::r=>by
  have:=K9 dash k c;have:=Gt dash (k - 1) r;unfold encW
  grind
theorem zHj{dash:Bool}{k i:Nat}{l:Str}(h:i<l.length):encW dash (k - i) (l.drop i)=pcW dash (k - i) l[i]++encW dash (k - (i+1)) (l.drop (i+1)):=by rw[Lb h,encW,show k - i - 1=k - (i+1) by omega]
theorem Y7 {R:Type} {step:Int×List UInt8->Option (LO (Int×List UInt8) (List UInt8) R)} {l acc:Str} {k:Nat} {dash:Bool} (hl:l.length<=100000) (ha:acc.length<=100000000)
  (h1: ∀(i:Nat) (a:Str) (hi:i<l.length),a.length<=500000000->step ((i:Int),a)=some (.again (w64 ((i:Int)+1),a++pcW dash (k - i) l[i])))
  (h2: ∀a,step ((l.length:Int),a)=some (.out a)):Ph step (0,acc)=some (.out (acc++encW dash k l)):=by
 refine qa (fun z=> ∃(i:Nat) (a:Str),z=((i:Int),a)/\i<=l.length/\a.length<=acc.length+4*i/\a++encW dash (k - i) (l.drop i)=acc++encW dash k l) (fun z=>l.length - z.1.toNat) _ ?_ ⟨0,acc,rfl,by omega,by omega,rfl⟩;rintro _ ⟨i,a,rfl,hi,hal,he⟩;rcases Xd i l.length with h|h
 ·refine .inl ⟨_,h1 i a h (by omega),⟨i+1,_,by rw[Zq (by omega) (by omega)];rfl,by omega,?_,?_⟩,by simp only;rw[Zq (by omega) (by omega)];omega⟩
  ·have:=K9 dash (k - i) l[i]
   grind
  ·rw[<-he,zHj h,La]
 ·have:i=l.length:=by omega
  subst this;refine .inr (.inl ⟨_,h2 a,?_⟩);rw[<-he,je (Ua _)];rw[show encW dash (k - l.length) []=[] by rw[encW],Xa]
def Fj(k:Nat)(l:Str):Bool:= !(k==0)&&l==[45]
def ng(l:Str):Nat:=if [45].isPrefixOf l then 2 else 1
theorem Mw(l:Str):Rl l=some ((ng l:Nat):Int):=by
 unfold Rl ng;simp only[ze,QL,Aa]
 grind
def ZB(l:Str):Str:=encW (l==[45]) (ng l) l
def jn(sep:Str)(l:List Str):Str:=List.intercalate sep l
def nt4:Str:=[110,111,116,32]
def cma2:Str:=[44,32]
def and5:Str:=[32,97,110,100,32]
def or4:Str:=[32,111,114,32]
def uk:Str:=[40,109,105,110,45,119,105,100,116,104,58,32]
def Al:Str:=[40,109,97,120,45,119,105,100,116,104,58,32]
def pxW:Str:=[112,120,41]
def unkW:Str:=[40,117,110,107,110,111,119,110,41]
def parW(s:Str):Str:=40::s++[41]
mutual
/-- The text of a media condition, or of a part of it. -/
def medT:zf->Str
 |⟨k,n,m,_,l⟩=>bif k==4 then ZB n else bif k==3 then nt4++(Mk l).headD []else bif k==2 then jn cma2 (Mk l)else bif k==1 then jn and5 (Mk l)else
  (bif k==5 then uk else Al)++numT m false++pxW
def Mk:List zf->List Str
 |[]=>[]
 |c::r=>medT c::Mk r
end
mutual
/-- The text of a supports condition; wd: the text of a declaration. -/
def supT(wd:zD->Str):zf->Str
 |⟨k,_,_,d,l⟩=>bif k==7 then parW (wd d)else bif k==8 then unkW else bif k==3 then nt4++(inTs wd l).headD []else bif k==2 then jn or4 (inTs wd l)else jn and5 (inTs wd l)
def inTs(wd:zD->Str):List zf->List Str
 |[]=>[]
 |c::r=>(bif Qk c then supT wd c else parW (supT wd c))::inTs wd r
end
def BD:List zf->Bool
 |[]=>false
 |y::_=>y.kind==1&&qL y
def headA:List zf->Bool
 |[]=>false
 |y::_=>Vg y
mutual
/-- The reference's text of a condition. -/
def wrC(wd:zD->Str):zf->Str
 |⟨k,n,m,d,l⟩=>bif k==4 then ZB n else bif k==5 then uk++numT m false++pxW else bif k==6 then Al++numT m false++pxW else bif k==7 then parW (wd d)else bif k==8 then unkW else
  bif k==3 then nt4++(bif BD l then(wrCs wd l).headD []else(wiCs wd l).headD [])else
  bif l.isEmpty||(qL ⟨k,n,m,d,l⟩||(k==2&&headA l))then(bif k==2 then jn cma2 (wrCs wd l)else jn and5 (wrCs wd l))
  else(bif k==2 then jn or4 (wiCs wd l)else jn and5 (wiCs wd l))
def wrCs(wd:zD->Str):List zf->List Str
 |[]=>[]
 |c::r=>wrC wd c::wrCs wd r
def wiCs(wd:zD->Str):List zf->List Str
 |[]=>[]
 |c::r=>(bif Qk c then wrC wd c else parW (wrC wd c))::wiCs wd r
end
theorem Pt: ∀l:List zf,Mk l=l.map medT
 |[]=>by rw[Mk];rfl
 |c::r=>by rw[Mk,Pt r];rfl
theorem bn(wd:zD->Str): ∀l:List zf,inTs wd l=l.map fun c=>bif Qk c then supT wd c else parW (supT wd c)
 |[]=>by rw[inTs];rfl
 |c::r=>by rw[inTs,bn wd r];rfl
theorem xz(wd:zD->Str): ∀l:List zf,wrCs wd l=l.map (wrC wd)
 |[]=>by rw[wrCs];rfl
 |c::r=>by rw[wrCs,xz wd r];rfl
theorem UF(wd:zD->Str): ∀l:List zf,wiCs wd l=l.map fun c=>bif Qk c then wrC wd c else parW (wrC wd c)
 |[]=>by rw[wiCs];rfl
 |c::r=>by rw[wiCs,UF wd r];rfl
theorem zIT{wd:zD->Str}{f:Bool}{y:zf}(h:ag f y=true):wrC wd y=medT y:=by
 obtain⟨k,n,m,d,l⟩:=y;have hk:k=4\/k=5\/k=6:=by
  unfold ag at h;simp only[Ca,Vb,Bb]at h;rcases h.2.2 with h|h
  ·exact .inl h.2.1
  ·exact .inr h.1
 rw[wrC,medT];rcases hk with rfl|rfl|rfl<;>rfl
theorem nP{wd:zD->Str}{y:zf}(h:qL y=true):wrC wd y=medT y:=by have hq:=h;unfold qL at h;simp only[Ca,Bb]at h;obtain⟨k,n,m,d,l⟩:=y;obtain⟨hk,_,_,hl⟩:=h;simp only at hk hl;subst hk;rw[wrC,medT,hq,xz,Pt];have:l.map (wrC wd)=l.map medT:=He fun z hz=>let⟨_,e⟩:=yw hl hz;zIT e;rw[this,Td,Df];rfl
theorem zIR{wd:zD->Str}{y:zf}(h:Vg y=true):wrC wd y=medT y:=by
 have ha:=h;unfold Vg at h;cases h3:y.kind==3 with
 |false=>rw[h3]at h;exact nP h
 |true=>
  rw[h3,Da,Ca]at h;obtain⟨k,n,m,d,l⟩:=y;have hk:k=3:=eq_of_beq h3;subst hk;obtain⟨_,h⟩:=h;simp only at h
  match l,h with
  |[],h=>cases h
  |[z],h=>
   rw[Ca]at h;have hz1:(z.kind==1)=true:=by have:=h.1;unfold qL at this;rw[Ca]at this;exact this.1
   have hh:BD [z]=true:=by show(z.kind==1&&qL z)=true;rw[hz1,h.1];rfl
   rw[wrC,medT,hh,wrCs,Mk,nP h.1];rfl
  |_::_::_,h=>cases h
theorem oP{wd:zD->Str}{c:zf}(h:Zu c=true):wrC wd c=medT c:=by
 unfold Zu at h;simp only[Ca,Vb,Bb,Uc,aa]at h;obtain⟨k,n,m,d,l⟩:=c;simp only at h;rcases h.2 with⟨rfl,rfl⟩|⟨rfl,hl,_,ha⟩
 ·rw[wrC,medT,wrCs,Mk];rfl
 ·rw[wrC,medT,xz,Pt,He (g:=medT) fun z hz=>zIR (ha z hz)];cases l with
  |nil=>rfl
  |cons z r=> have:headA (z::r)=true:=ha z (by simp);rw[this];cases qL ⟨2,n,m,d,z::r⟩<;>rfl
theorem yH{c:zf}(h:supC c=true):qL c=false/\Vg c=false:=by
 have q: ∀{c:zf},supC c=true->qL c=false:=fun {c} h=>by
  cases hq:qL c with
  |false=>rfl
  |true=>
   exfalso;unfold qL at hq;simp only[Ca,Bb]at hq;rw[Jj,hq.1]at h;have h:((false||(true||false))&&(Pg c&&(decide (2<=c.list.length)&&c.list.all supC)))=true:=h;simp only[Ca,aa,Ab]at h;obtain⟨y,hy⟩: ∃y,y∈c.list:=by
    cases hl:c.list with
    |nil=>rw[hl]at h;simp at h
    |cons y r=>exact⟨y,by simp⟩
   obtain⟨f,hf⟩:=yw hq.2.2.2 hy;have hs:=h.2.2.2 y hy;have hk:y.kind=4\/y.kind=5\/y.kind=6:=by
    unfold ag at hf;simp only[Ca,Vb,Bb]at hf;rcases hf.2.2 with hf|hf
    ·exact .inl hf.2.1
    ·exact .inr hf.1
   rw[Jj]at hs;rcases hk with e|e|e<;>rw[e]at hs<;>cases hs
 refine⟨q h,?_⟩;unfold Vg;cases h3:c.kind==3 with
 |false=>exact q h
 |true=>
  rw[Da];have h0:=h;rw[Jj,eq_of_beq h3]at h;have h:(Pg c&&((c.list.length==1)&&c.list.all supC))=true:=h;simp only[Ca,aa]at h;cases hl:c.list with
  |nil=>rw[Ic]
  |cons y r=>
   cases r with
   |nil=>simp only;rw[q (h.2.2 y (by rw[hl];simp))];simp
   |cons z r=>simp
theorem GD{wd:zD->Str}: ∀{c:zf},supC c=true->wrC wd c=supT wd c:=by
 have key: ∀(n:Nat) (c:zf),sizC c<=n->supC c=true->wrC wd c=supT wd c:=by
  intro n
  induction n with
  |zero=>intro c hc;have:=Qe c;omega
  |succ n ih=>
   intro c hc hs;have hsz:=QD c;have hq:=yH hs;obtain⟨k,nm,m,d,l⟩:=c;have hm: ∀y∈l,sizC y<=n:=fun y hy=>by have:=Qx (l:=l) hy;simp only at hsz;omega
   rw[Jj]at hs;simp only at hs;rw[wrC,supT];cases h7:k==7 with
   |true=>rw[eq_of_beq h7];rfl
   |false=>
    cases h8:k==8 with
    |true=>rw[eq_of_beq h8];rfl
    |false=>
     rw[h7,h8,Ba,Ba]at hs;simp only[Ca,aa]at hs;obtain⟨hk,_,hl,ha⟩:=hs;have hw:wiCs wd l=inTs wd l:=by rw[UF,bn];exact He fun y hy=>by rw[ih y (hm y hy) (ha y hy)]
     have hne:l.isEmpty=false:=by cases l with|nil=>(cases k==3<;>simp at hl)|cons=>rfl
     have hA:headA l=false:=by cases l with|nil=>rfl|cons y r=>exact(yH (ha y (by simp))).2
     have hQ:BD l=false:=by cases l with|nil=>rfl|cons y r=>show(y.kind==1&&qL y)=false;rw[(yH (ha y (by simp))).1,Ic]
     rw[hQ,hA,hne,hq.1,hw,Ba,Ic,Gd,Gd,Ba];cases h3:k==3 with
     |true=>rw[eq_of_beq h3];rfl
     |false=> rw[h3,Jc,Vb]at hk;rcases hk with e|e<;>rw[eq_of_beq e]<;>rfl
 intro c hs;exact key _ c (Ua _) hs
def capF(cap:Nat):Nat->Str->Nat
 |n,[]=>n
 |n,c::r=>capF cap (min cap (decN n c)) r
theorem aU(cap:Nat): ∀(l:Str) (n:Nat) (c:UInt8),capF cap n (l++[c])=min cap (decN (capF cap n l) c)
 |[],_,_=>rfl
 |d::l,n,c=>by show capF cap (min cap (decN n d)) (l++[c])=_;rw[aU cap l];rfl
theorem WE(cap:Nat): ∀(l:Str) (n:Nat),n<=cap->capF cap n l<=cap
 |[],_,h=>h
 |c::l,n,_=>WE cap l _ (Nat.min_le_left ..)
theorem wR {R:Type} {step:Int×Int->Option (LO (Int×Int) Int R)} {l:Str} {cap:Nat} (b:l.all digB=true) (j:l.length<=100000) (f:cap<=1000000000000)
  (a: ∀(v:Int) (i:Nat) (hi:i<l.length),step (v,(i:Int))=some (.again (if(cap:Int)<w64 (w64 (10*v)+w64 (wu8 ((l[i].toNat:Int) - 48)))then(cap:Int)else w64 (w64 (10*v)+w64 (wu8 ((l[i].toNat:Int) - 48))),w64 ((i:Int)+1))))
  (h2: ∀v:Int,step (v,(l.length:Int))=some (.out v)):Ph step (0,0)=some (.out ((capF cap 0 l:Nat):Int)):=by
 refine qa (fun s=> ∃i:Nat,i<=l.length/\s=(((capF cap 0 (l.take i):Nat):Int),(i:Int))) (fun s=>l.length - s.2.toNat) _ ?_ ⟨0,by omega,rfl⟩;rintro _ ⟨i,hi,rfl⟩;rcases Xd i l.length with h|h
 ·refine .inl ⟨_,a _ i h,⟨i+1,by omega,?_⟩,by simp only;rw[Zq (by omega) (by omega)];omega⟩;have e:=jw (aa.1 b _ (jb h));have d:capF cap 0 (l.take (i+1))=min cap (decN (capF cap 0 (l.take i)) l[i]):=by rw[Xb h,aU]
  have g:=WE cap (l.take i) 0 (Kc _);have c:wu8 ((l[i].toNat:Int) - 48)=((l[i].toNat - 48:Nat):Int):=by show IntKind.u8.wrap _=_;rw[IntKind.wrap_u8];omega
  unfold decN at d;rw[c,Zq (n:=10*_) (by omega) (by omega),Zq (n:=((l[i].toNat - 48:Nat):Int)) (by omega) (by omega),Zq (n:=(i:Int)+1) (by omega) (by omega),Zq (by omega) (by omega)];refine Prod.ext ?_ ?_
  ·grind
  ·grind
 grind
theorem aS: ∀(k n:Nat),n<=ni->Uj k n<=ni
 |0,_,h=>h
 |k+1,n,h=>by
  unfold Uj;split
  ·exact h
  ·exact aS k _ (Nat.min_le_left ..)
theorem zwe {R:Type} {step:Int×Int->Option (LO (Int×Int) Int R)} {v:Nat} {p:Int} (n:p<=4000000) (d: -4000000<=p) (i:v<=1000000000000)
  (h: ∀(a b:Int),step (a,b)=bif bif bif decide (a>0)then decide (b>0)else false then decide (b<1000000000000)else false then some (.again (w64 (a - 1),if 1000000000000<w64 (10*b)then 1000000000000 else w64 (10*b)))else some (.out b)):
  Ph step (p,(v:Int))=some (.out ((Uj p.toNat v:Nat):Int)):=by
 have o:ni=1000000000000:=rfl;refine qa (fun s=> ∃(a:Int) (b:Nat),s=(a,(b:Int))/\a<=4000000/\ -4000000<=a/\b<=1000000000000/\Uj a.toNat b=Uj p.toNat v) (fun s=>s.1.toNat) _ ?_ ⟨p,v,rfl,n,d,i,rfl⟩;rintro _ ⟨a,b,rfl,r,f,q,c⟩;rw[h];by_cases e:a>0
 ·obtain⟨k,l⟩: ∃k,a.toNat=k+1:=⟨a.toNat - 1,by omega⟩;rw[l,Uj]at c;rw[Ga e,Da];by_cases g:b=0\/ni<=b
  ·grind
  ·rw[Ia g]at c;have m:decide (((b:Nat):Int)>0)=true:=Ga (by omega);have j:decide (((b:Nat):Int)<1000000000000)=true:=Ga (by omega);rw[m,Da,j,Da];refine .inl ⟨_,rfl,⟨a - 1,min ni (10*b),?_,by omega,by omega,by omega,?_⟩,by simp only;rw[Zq (by omega) (by omega)];omega⟩
   ·rw[Zq (by omega) (by omega),Zq (by omega) (by omega)]
    grind
   grind
 ·rw[Db e,Ba];refine .inr (.inl ⟨_,rfl,?_⟩);rw[<-c,show a.toNat=0 by omega];rfl
structure NumP where
 sg:Str
 D:Str
 F:Option Str
 X:Option (UInt8×Str×Str)
def dotS:Option Str->Str
 |none=>[]
 |some f=>46::f
def expT:Option (UInt8×Str×Str)->Str
 |none=>[]
 |some (e,s,x)=>e::(s++x)
def NumP.txt(n:NumP):Str:=n.sg++(n.D++(dotS n.F++expT n.X))
def sgB(s:Str):Bool:=s==[]||s==[43]||s==[45]
def NumP.ok(n:NumP):Bool:=sgB n.sg&&n.D.all digB&&(match n.F with|none=> !n.D.isEmpty|some f=> !f.isEmpty&&f.all digB)&&
 (match n.X with|none=>true|some (e,s,x)=>(e==101||e==69)&&sgB s&& !x.isEmpty&&x.all digB)
def expV:Option (UInt8×Str×Str)->Int
 |none=>0
 |some (_,s,x)=>if s==[45]then -((capF 1048576 0 x:Nat):Int)else((capF 1048576 0 x:Nat):Int)
def thoV(A:Str)(p:Int):Nat:=Uj p.toNat (capF ni 0 (if p<0 then A.take ((A.length:Int)+p).toNat else A))
def NumP.val(n:NumP):Int:=
 let v:=thoV (n.D++n.F.getD []) (3+expV n.X - ((n.F.getD []).length:Int))
 if n.sg==[45]then -(v:Int)else(v:Int)
theorem fF{s:Str}(h:sgB s=true):s=[]\/s=[43]\/s=[45]:=by
 unfold sgB at h
 grind
theorem X8{s q:Str}(h:sgB s=true)(b: ∀c r,q=c::r->List.contains [43,45] c=false):Lib.trimLeftS (s++q) [43,45]=q:=by
 have a:Lib.trimLeftS q [43,45]=q:=by
  unfold Lib.trimLeftS;cases q with
  |nil=>rfl
  |cons c r=>simp_all
 rcases fF h with rfl|rfl|rfl
 ·exact a
 ·show List.dropWhile _ (43::q)=_;rw[Bc];exact a
 ·show List.dropWhile _ (45::q)=_;rw[Bc];exact a
theorem WP{e:UInt8}(he:e=101\/e=69)(t:Str): ∀(l:Str),(l.all fun b=>digB b||b==46)=true->Lib.indexAny (l++e::t) [101,69]=(l.length:Int)
 |[],_=>by
  rw[Pb,Lib.indexAny]
  grind
 |c::l,h=>by
  rw[Od,Ca]at h;have hc:List.contains [101,69] c=false:=by
   have: ∀n:Nat,n<256->(digB (UInt8.ofNat n)||UInt8.ofNat n==46)=true->List.contains [101,69] (UInt8.ofNat n)=false:=by decide+kernel
   have:=this c.toNat (Sb c);rw[jd]at this;exact this h.1
  rw[Sa,Lib.indexAny,hc,WP he t l h.2]
  grind
theorem O6{l:Str}(h:l.all digB=true):(l.all fun b=>digB b||b==46)=true:=by
 grind
theorem EA{l:Str}(h: ∀b∈l,b.toNat<128):Di l=true:=by
 unfold Di
 grind
theorem zDp{l:Str}(h:Di l=true): ∀b∈l,b.toNat<128:=by
 unfold Di at h
 grind
theorem zG6{D:Str}(a:D.all digB=true)(F:Option Str): ∃f,Lib.cut (D++dotS F) [46]=(D,F.getD [],f):=by
 unfold Lib.cut;rw[OG];cases F with
 |none=> rw[show dotS none=[]from rfl,Xa,NI _ a,Ia (by decide)];simp_all
 |some g=> rw[show dotS (some g)=46::g from rfl,OI _ _ a,Ka (by omega)];simp_all
theorem yQ {D:Str} {F:Option Str} {E:Int} (w:D.all digB=true) (y:(F.getD []).all digB=true) (R:D.length+(F.getD []).length<=50000) (Q:E<=2000000) (C: -2000000<=E) (s:UInt8) (r:Str)
  (M:((s.toNat:Int)==45)=(r==[45])) (u:short (D++dotS F)=true):
  (ze (cutF (D++dotS F,[46])) fun c=>
 need (Ig c.1.length c.2.1.length)<|
 Zk (X:=Str×Int) (
   bif decide (w64 ((3+E) - (c.2.1.length:Int))<0)then
    need (decide (0<=(if w64 (((c.1++c.2.1).length:Int)+w64 ((3+E) - (c.2.1.length:Int)))>0 then w64 (((c.1++c.2.1).length:Int)+w64 ((3+E) - (c.2.1.length:Int)))else 0))&&decide ((if w64 (((c.1++c.2.1).length:Int)+w64 ((3+E) - (c.2.1.length:Int)))>0 then w64 (((c.1++c.2.1).length:Int)+w64 ((3+E) - (c.2.1.length:Int)))else 0)<=((c.1++c.2.1).length:Int)))<|
    some (LX.out (List.take (if w64 (((c.1++c.2.1).length:Int)+w64 ((3+E) - (c.2.1.length:Int)))>0 then w64 (((c.1++c.2.1).length:Int)+w64 ((3+E) - (c.2.1.length:Int)))else 0).toNat (c.1++c.2.1),w64 ((3+E) - (c.2.1.length:Int))))
   else
    some (LX.out (c.1++c.2.1,w64 ((3+E) - (c.2.1.length:Int))))) fun j=>
 need (decide (j.1.length<=maxLen))<|
 Zj (fun(d:Int×Int)=>
   bif decide (d.2<(j.1.length:Int))then
    need (decide (0<=d.2)&&decide (d.2<(j.1.length:Int)))<|
    ze j.1[d.2.toNat]? fun g=>
    some (LO.again (if 1000000000000<w64 (w64 (10*d.1)+w64 (wu8 ((g.toNat:Int) - 48)))then 1000000000000 else w64 (w64 (10*d.1)+w64 (wu8 ((g.toNat:Int) - 48))),w64 (d.2+1)))
   else
    some (LO.out d.1):Int×Int->Option (LO (Int×Int) (Int) _)) (0,0) fun l=>
 Zj (fun(e:Int×Int)=>
   bif bif bif decide (e.1>0)then decide (e.2>0)else false then decide (e.2<1000000000000)else false then
    some (LO.again (w64 (e.1 - 1),if 1000000000000<w64 (10*e.2)then 1000000000000 else w64 (10*e.2)))
   else
    some (LO.out e.2):Int×Int->Option (LO (Int×Int) (Int) _)) (j.2,l) fun h=>
 Zk (X:=Int) (
   bif (s.toNat:Int)==45 then
    some (LX.out (w64 (0 - h)))
   else
    some (LX.out h)) fun k=>
 some k)=some (if r==[45]then -((thoV (D++F.getD []) (3+E - ((F.getD []).length:Int)):Nat):Int)else((thoV (D++F.getD []) (3+E - ((F.getD []).length:Int)):Nat):Int)):=by
 obtain⟨f,m⟩:=zG6 w F;have O:cutF (D++dotS F,[46])=some (D,F.getD [],f):=by unfold cutF;rw[zF (by exact u)];exact congrArg some m
 have x:maxLen=9223372036854775807:=rfl;have t:ni=1000000000000:=rfl;simp only[ze,O,Aa];generalize F.getD []=G at*;rw[zF (Co.2 (by omega))];obtain⟨p,L⟩: ∃p:Int,p=3+E - (G.length:Int):=⟨_,rfl⟩;rw[<-L,Zq (n:=p) (by omega) (by omega)];have S:(D++G).all digB=true:=by rw[List.all_append,w,y];rfl
 have K:(D++G).length<=50000:=by rw[Ja];omega
 generalize D++G=A at*;have H: ∀B:Str,B.all digB=true->B.length<=50000->(need (decide (B.length<=maxLen))<|
 Zj (fun(d:Int×Int)=>
   bif decide (d.2<(B.length:Int))then
    need (decide (0<=d.2)&&decide (d.2<(B.length:Int)))<|
    (B[d.2.toNat]?).bind fun g=>
    some (LO.again (if 1000000000000<w64 (w64 (10*d.1)+w64 (wu8 ((g.toNat:Int) - 48)))then 1000000000000 else w64 (w64 (10*d.1)+w64 (wu8 ((g.toNat:Int) - 48))),w64 (d.2+1)))
   else
    some (LO.out d.1):Int×Int->Option (LO (Int×Int) (Int) _)) (0,0) fun l=>
 Zj (fun(e:Int×Int)=>
   bif bif bif decide (e.1>0)then decide (e.2>0)else false then decide (e.2<1000000000000)else false then
    some (LO.again (w64 (e.1 - 1),if 1000000000000<w64 (10*e.2)then 1000000000000 else w64 (10*e.2)))
   else
    some (LO.out e.2):Int×Int->Option (LO (Int×Int) (Int) _)) (p,l) fun h=>
 Zk (X:=Int) (
   bif (s.toNat:Int)==45 then
    some (LX.out (w64 (0 - h)))
   else
    some (LX.out h)) fun k=>
 some k)=some (if r==[45]then -((Uj p.toNat (capF ni 0 B):Nat):Int)else((Uj p.toNat (capF ni 0 B):Nat):Int)):=by
  intro B J z;have o:=WE ni B 0 (Kc _);rw[zF (Ga (by omega))];rw[qK (wR (cap:=ni) J (by omega) (by omega) (fun v i U=> ?_) (fun v=> ?_))]
  ·have N:=aS p.toNat _ o;rw[qK (zwe (by omega) (by omega) (by omega) (fun a b=> ?_)),M]
   ·cases T:r==[45]with
    |true=> rw[Da,zq,Zq (by omega) (by omega),Ka rfl];congr 1;omega
    |false=>simp_all
   ·simp only
  ·simp_all
  ·grind
 unfold thoV;by_cases q:p<0
 ·rw[Ga q,Da,Ka q];have P:(if w64 ((A.length:Int)+p)>0 then w64 ((A.length:Int)+p)else 0)=((((A.length:Int)+p).toNat:Nat):Int):=by rw[Zq (by omega) (by omega)];split<;>omega
  rw[P,zF (by grind),zq,Nb]
  grind
 ·rw[Db q,Ba,Ia q,zq]
  grind
theorem PY{n:NumP}(h:n.ok=true)(hl:n.txt.length<=40000):qC n.txt=some n.val:=by
 obtain⟨sg,D,F,X⟩:=n;unfold NumP.ok at h;simp only[Ca]at h;obtain⟨⟨⟨hsg,hD⟩,hFo⟩,hX⟩:=h;have hF:(F.getD []).all digB=true:=by
  cases F with
  |none=>rfl
  |some f=>grind
 have hne:D++dotS F≠[]:=by
  cases F with
  |none=>simp_all
  |some f=>simp[dotS]
 have hpar:((D++dotS F).all fun b=>digB b||b==46)=true:=by
  rw[List.all_append,O6 hD];cases F with
  |none=>rfl
  |some f=>rw[show dotS (some f)=46::f from rfl,Od,O6 (show f.all digB=true from hF)];rfl
 have hlen:sg.length+(D.length+((dotS F).length+(expT X).length))<=40000:=by
  have:(NumP.txt ⟨sg,D,F,X⟩).length=sg.length+(D.length+((dotS F).length+(expT X).length)):=by unfold NumP.txt;simp only[Ja]
  omega
 have hFl:(F.getD []).length<=(dotS F).length:=by
  cases F with
  |none=>grind
  |some f=>show f.length<=(46::f).length;grind
 have hhead: ∀c r,D++(dotS F++expT X)=c::r->List.contains [43,45] c=false:=by
  rw[<-La];intro c r e;cases hq:D++dotS F with
  |nil=>grind
  |cons d q=>
   rw[hq,Sa]at e;injection e with e1 _;subst e1;rw[hq,Od,Ca,Vb]at hpar;rcases hpar.1 with hd|hd
   ·exact(Ri hd).2.2.2.2
   grind
 have hy1: ∃b,geti (NumP.txt ⟨sg,D,F,X⟩) 0=some b/\(((b.toNat:Int)==45)=(sg==[45])):=by
  unfold NumP.txt;show∃b,geti (sg++(D++(dotS F++expT X))) 0=some b/\_;rcases fF hsg with rfl|rfl|rfl
  ·cases hq:D++(dotS F++expT X)with
   |nil=>simp_all
   |cons c r=>
    refine⟨c,rfl,?_⟩;have:=hhead c r hq;refine Ha.2 (fun e=> ?_);have:c=45:=Gf.1 (by grind)
    grind
  ·exact⟨43,rfl,rfl⟩
  ·exact⟨45,rfl,rfl⟩
 obtain⟨y1,hg,hyy⟩:=hy1;have t1:Gl (NumP.txt ⟨sg,D,F,X⟩,[43,45])=some (D++(dotS F++expT X)):=by unfold Gl;rw[zF (show(short ([43,45]:Str)&&Di [43,45])=true by decide)];exact congrArg some (X8 hsg hhead)
 unfold qC;simp only[ze,hg,t1,Aa];have hsh:short (D++dotS F)=true:=Ga (by grind);have hasc:Di (D++dotS F)=true:=RP hpar;cases X with
 |none=>
  have t2:Sl (D++(dotS F++expT none),[101,69])=some (-1):=by show Sl (D++(dotS F++[]),[101,69])=_;rw[Xa];unfold Sl;rw[zF (by simp only[hsh,hasc,ib,Cb];decide)];exact congrArg some (IJ _ hpar)
  simp only[t2,Aa,show decide ((-1:Int)>=0)=false from rfl,Ba,zq];rw[show D++(dotS F++expT none)=D++dotS F by show D++(dotS F++[])=_;grind];have:=yQ (E:=0) hD hF (by omega) (by omega) (by omega) y1 sg hyy hsh;exact this
 |some ex=>
  obtain⟨e,s,x⟩:=ex;simp only[Ca]at hX;obtain⟨⟨⟨he,hs⟩,hxne⟩,hx⟩:=hX;have he':e=101\/e=69:=by rw[Vb,Bb,Bb]at he;exact he
  have hexl:(expT (some (e,s,x))).length=1+(s.length+x.length):=by show(e::(s++x)).length=_;rw[Fa,Ja];omega
  have hass:D++(dotS F++expT (some (e,s,x)))=(D++dotS F)++e::(s++x):=by rw[<-La];rfl
  have hasx:Di ((D++dotS F)++e::(s++x))=true:=by
   refine EA (fun b hb=> ?_);rcases Ed.1 hb with hb|hb
   ·exact zDp hasc b hb
   ·rcases Jb.1 hb with hb|hb
    ·subst hb;rcases he' with rfl|rfl<;>decide
    ·rcases Ed.1 hb with hb|hb
     ·rcases fF hs with rfl|rfl|rfl
      ·cases hb
      ·simp_all
      simp_all
     ·have:=jw (aa.1 hx b hb);omega
  have hlt:((D++dotS F)++e::(s++x)).length<=40000:=by rw[Ja,Fa,Ja,Ja];omega
  have t2:Sl (D++(dotS F++expT (some (e,s,x))),[101,69])=some ((D++dotS F).length:Int):=by rw[hass];unfold Sl;show need (short ((D++dotS F)++e::(s++x))&&short [101,69]&&Di ((D++dotS F)++e::(s++x))&&Di [101,69]) _=_;rw[show short ((D++dotS F)++e::(s++x))=true from Ga (by omega),hasx];exact congrArg some (WP he' (s++x) _ hpar)
  have hdrop:List.drop (D++dotS F).length ((D++dotS F)++e::(s++x))=e::(s++x):=List.drop_left;have hdrop1:List.drop ((D++dotS F).length+1) ((D++dotS F)++e::(s++x))=s++x:=by rw[<-Ve,hdrop];rfl
  have hd0:(D++dotS F).length<=40000:=by rw[Ja];omega
  have hw1:w64 (((D++dotS F).length:Int)+1)=(((D++dotS F).length+1:Nat):Int):=by rw[Zq (by omega) (by omega)];omega
  simp only[t2,Aa];rw[Ga (show(((D++dotS F).length:Nat):Int)>=0 by omega),Da,hw1,hass];have hlt2:(D++dotS F).length+1<=((D++dotS F)++e::(s++x)).length:=by rw[Ja (bs:=e::(s++x)),Fa];omega
  rw[zF (by grind),Nb,hdrop1];have hxh: ∀c r,x=c::r->List.contains [43,45] c=false:=by intro c r e;subst e;rw[Od,Ca]at hx;exact(Ri hx.1).2.2.2.2
  have t4:Gl (s++x,[43,45])=some x:=by unfold Gl;rw[zF (show(short ([43,45]:Str)&&Di [43,45])=true by decide)];exact congrArg some (X8 hs hxh)
  have hxl:x.length<=40000:=by omega
  have hml:maxLen=9223372036854775807:=rfl;simp only[t4,Aa];rw[zF (Ga (by omega))];have hcap:=WE 1048576 x 0 (Kc _);rw[qK (wR (cap:=1048576) hx (by omega) (by omega) (fun v i hi=> ?_) (fun v=> ?_))]
  ·have hg8: ∃y8,geti ((D++dotS F)++e::(s++x)) (((D++dotS F).length+1:Nat):Int)=some y8/\(((y8.toNat:Int)==45)=(s==[45])):=by
    have hgg: ∀(b:UInt8) (r:Str),s++x=b::r->geti ((D++dotS F)++e::(s++x)) (((D++dotS F).length+1:Nat):Int)=some b:=by
     intro b r e1;unfold geti;have:((D++dotS F)++e::(s++x))[(D++dotS F).length+1]? =some b:=by rw[Ji (by omega),show(D++dotS F).length+1 - (D++dotS F).length=1 by omega,Yf,e1];rfl
     rw[Nb,this,Ga (by omega)];rfl
    rcases fF hs with rfl|rfl|rfl
    ·cases hxx:x with
     |nil=>grind
     |cons c r=>
      refine⟨c,by grind,?_⟩;have:=hxh c r hxx;refine Ha.2 (fun e=> ?_);have h45:c=45:=Gf.1 (by grind)
      grind
    ·grind
    ·grind
   obtain⟨y8,h8,h8'⟩:=hg8;simp only[h8,Aa];rw[h8'];have hj:(bif s==[45]then(some (LX.out ((D++dotS F)++e::(s++x),3,w64 (0 - ((capF 1048576 0 x:Nat):Int)))):Option (LX (Str×Int×Int) (LX (Str×Int) Int)))else some (LX.out ((D++dotS F)++e::(s++x),3,((capF 1048576 0 x:Nat):Int))))
     =some (LX.out ((D++dotS F)++e::(s++x),3,expV (some (e,s,x)))):=by
    unfold expV;simp only;cases s==[45]with
    |true=>rw[Da,Ka rfl,Zq (by omega) (by omega)];simp
    |false=>grind
   have hEb:expV (some (e,s,x))<=1048576/\ -1048576<=expV (some (e,s,x)):=by unfold expV;simp only;split<;>omega
   refine(congrArg (fun o=>Zk (Zk o _) _) hj).trans ?_;simp only[zq];rw[show decide ((((D++dotS F).length:Nat):Int)<=((((D++dotS F)++e::(s++x)).length:Nat):Int))=true from Ga (by omega),zF (by rfl)];simp only[zq,Nb,List.take_left];rw[Zq (by omega) (by omega)];exact yQ (E:=expV (some (e,s,x))) hD hF (by omega) (by omega) (by omega) y1 sg hyy hsh
  ·simp_all
  ·grind
theorem Xz{n:Nat}(h:n<16):QW (hexD n)=true/\hexN (hexD n)=n/\(hexD n==10)=false/\letB (hexD n)=true:=by
 have: ∀n:Nat,n<16->QW (hexD n)=true/\hexN (hexD n)=n/\(hexD n==10)=false/\letB (hexD n)=true:=by decide+kernel
 exact this n h
theorem YL{k n:Nat}{c:UInt8}{r:Str}(h:QW c=true):hexes (k+1) n (c::r)=hexes k (16*n+hexN c) r:=by rw[hexes,Ka h]
theorem zAN{n:Nat}(h:n<256)(R:Str):hexes 6 0 (hexS n++32::R)=(n,32::R):=by
 unfold hexS;by_cases c:n<16
 ·obtain⟨a,b,_⟩:=Xz c;rw[Ka c,xc,YL a,b,PI _ _ (32::R) (show QW 32=false by decide)];simp
 ·obtain⟨a,b,_⟩:=Xz (show n / 16<16 by omega);obtain⟨e,d,_⟩:=Xz (show n%16<16 by omega);rw[Ia c,Sa,xc,YL a,YL e,b,d,PI _ _ (32::R) (show QW 32=false by decide)]
  grind
theorem kK{n:Nat}(h:n<256)(R:Str): ∃d t,hexS n++R=d::t/\QW d=true/\(d==10)=false:=by
 unfold hexS;by_cases c:n<16
 ·obtain⟨a,_,b,_⟩:=Xz c;simp_all
 ·obtain⟨a,_,b,_⟩:=Xz (show n / 16<16 by omega);exact⟨_,_,by rw[Ia c];rfl,a,b⟩
theorem KT{c:UInt8}(a:c≠0)(h:c.toNat<128):Yh c.toNat=[c]:=by
 have b:c.toNat≠0:=by intro e;exact a (Gf.1 e)
 unfold Yh;rw[Ia (by omega),Ka h,jd]
theorem yT{r:Str}(h:escS (92::r)=true):zu (92::r)=((zy r).1++(zu (zy r).2).1,(zu (zy r).2).2):=by rw[zZ,Ia (by decide),Ka h]
theorem kQ{c:UInt8}(h0:c≠0)(h:c.toNat<128)(R:Str):zu (escC c++R)=(c::(zu R).1,(zu R).2):=by
 unfold escC;cases hg:decide (32<c.toNat)&&decide (c.toNat<127)&& !digB c&& !alB c with
 |true=>
  rw[Da];have hx:QW c=false/\(c==10)=false:=by
   have: ∀n:Nat,n<256->(decide (32<(UInt8.ofNat n).toNat)&&decide ((UInt8.ofNat n).toNat<127)&& !digB (UInt8.ofNat n)&& !alB (UInt8.ofNat n))=true->QW (UInt8.ofNat n)=false/\(UInt8.ofNat n==10)=false:=by decide+kernel
   have:=this c.toNat (Sb c);rw[jd]at this;exact this hg
  have he:zy (c::R)=([c],R):=by show(if QW c then _ else _)=_;rw[Ia (by rw[hx.1];decide)]
  rw[show [92,c]++R=92::c::R from rfl,yT (by unfold escS;rw[show atS (92::c::R) 0=92 from rfl,show atS (92::c::R) 1=c from rfl,hx.2];rfl),he];rfl
 |false=>
  rw[Ba,Sa,La];obtain⟨d,t,e,hd,h10⟩:=kK (n:=c.toNat) (Sb c) ([32]++R);have he:zy (hexS c.toNat++([32]++R))=([c],R):=by have hh:=zAN (n:=c.toNat) (Sb c) R;rw[show(32::R:Str)=[32]++R from rfl,e]at hh;rw[e];show(if QW d then(Yh (hexes 6 0 (d::t)).1,unsp (hexes 6 0 (d::t)).2)else _)=_;rw[Ka hd,hh,KT h0 h];rfl
  rw[yT (by rw[e];unfold escS;rw[show atS (92::d::t) 0=92 from rfl,show atS (92::d::t) 1=d from rfl,h10];rfl),he];rfl
theorem EI{c:UInt8}(h: ¬c.toNat<128):letB c=true/\digB c=false:=by
 have: ∀n:Nat,n<256-> ¬(UInt8.ofNat n).toNat<128->letB (UInt8.ofNat n)=true/\digB (UInt8.ofNat n)=false:=by decide+kernel
 have:=this c.toNat (Sb c);simp_all
theorem I8{dash:Bool}{k:Nat}{c:UInt8}(e:c≠0)(f:dash=true->c.toNat<128)(R:Str):zu (pcW dash k c++R)=(c::(zu R).1,(zu R).2):=by
 unfold pcW;cases d:letB c&&(k==0|| !digB c)&& !dash with
 |true=> rw[Ca,Ca]at d;rw[Da,xc,zZ,Ka d.1.1]
 |false=>
  rw[Ba];refine kQ e ?_ R;by_cases h:c.toNat<128
  ·exact h
  ·obtain⟨a,b⟩:=EI h
   grind
theorem lQ{dash:Bool}: ∀(k:Nat) (l:Str),Zy l=true->(dash=true-> ∀c∈l,c.toNat<128)->zu (encW dash k l)=(l,[])
 |_,[],_,_=>by rw[encW,Ql]
 |k,c::r,h,a=>by unfold Zy at h;rw[Od,Ca]at h;rw[encW,I8 (by grind) (fun e=>a e c (Fb ..)),lQ (k - 1) r h.2 (fun e x b=>a e x (ja _ b))]
theorem xS{l:Str}(h:Zy l=true):zu (ZB l)=(l,[]):=by refine lQ _ _ h (fun e c a=> ?_);simp_all
theorem kF{dash:Bool}{k:Nat}(hk:0<k)(c:UInt8)(R:Str): ∃d t,pcW dash k c++R=d::t/\(d=92/\escS (d::t)=true\/(d=c/\dash=false/\letB d=true/\digB d=false/\t=R)):=by
 have hk0:(k==0)=false:=by rw[Ha];omega
 unfold pcW;rw[hk0,Jc];cases hg:letB c&& !digB c&& !dash with
 |true=> rw[Ca,Ca,Lc,Lc]at hg;exact⟨c,R,rfl, .inr ⟨rfl,hg.2,hg.1.1,hg.1.2,rfl⟩⟩
 |false=>
  rw[Ba];unfold escC;cases hg2:decide (32<c.toNat)&&decide (c.toNat<127)&& !digB c&& !alB c with
  |true=>
   refine⟨92,c::R,rfl, .inl ⟨rfl,?_⟩⟩;have:c≠10:=by rintro rfl;revert hg2;decide
   unfold escS;rw[show atS (92::c::R) 1=c from rfl,Ha.2 this];rfl
  |false=> obtain⟨d,t,e,hd,h10⟩:=kK (n:=c.toNat) (Sb c) ([32]++R);refine⟨92,_,by rw[Ba,Sa,La], .inl ⟨rfl,?_⟩⟩;rw[e];unfold escS;rw[show atS (92::d::t) 1=d from rfl,h10];rfl
theorem aT{d:UInt8}(h:letB d=true)(h2:digB d=false):fstB d=true\/d=45:=by
 unfold letB at h
 grind
theorem V5{d:UInt8}{t:Str}(a:d=92)(h:escS (d::t)=true):nmS (d::t)=true:=by subst a;unfold nmS;rw[show atS (92::t) 0=92 from rfl,Ia (by decide),h,Df]
theorem Wj{l:Str}(h:l≠[]):nmS (ZB l)=true:=by
 cases l with
 |nil=>grind
 |cons c r=>
  unfold ZB encW;obtain⟨d,t,e,u⟩:=kF (dash:=(c::r:Str)==[45]) (k:=ng (c::r)) (by unfold ng;split<;>omega) c (encW ((c::r:Str)==[45]) (ng (c::r) - 1) r);rw[e];rcases u with⟨q,j⟩|⟨rfl,j,x,v,o⟩
  ·exact V5 q j
  ·rcases aT x v with p|rfl
   ·by_cases m:d=45
    ·subst m;exact absurd p (by decide)
    ·unfold nmS;rw[show atS (d::t) 0=d from rfl,Ia (by grind),p,Td]
   ·have C:r≠[]:=by rintro rfl;exact absurd j (by decide)
    cases r with
    |nil=>grind
    |cons f g=>
     have A:ng (45::f::g)=2:=rfl;rw[A]at o;obtain⟨a,b,y,n⟩:=kF (dash:=(45::f::g:Str)==[45]) (k:=2 - 1) (by omega) f (encW ((45::f::g:Str)==[45]) (2 - 1 - 1) g);have z:t=a::b:=by rw[o,encW,y]
     rw[z];unfold nmS;rw[show atS (45::a::b) 0=45 from rfl,Ka (show((45:UInt8)==45)=true from rfl),show atS (45::a::b) 1=a from rfl,show(45::a::b:Str).drop 1=a::b from rfl];rcases n with⟨_,B⟩|⟨_,_,s,w,_⟩
     ·grind
     ·rcases aT s w with i|rfl
      ·rw[i];rfl
      ·simp
def hdB(b:UInt8):Bool:=b==45||fstB b||b==92
theorem oo{q:Str}(h:nmS q=true):hdB (atS q 0)=true:=by
 unfold nmS at h;unfold hdB;cases a:atS q 0==45 with
 |true=>rfl
 |false=>
  rw[a,Ia (by decide),Vb]at h;rcases h with h|h
  ·rw[h];rfl
  ·unfold escS at h
   grind
theorem jr{b:UInt8}(h:hdB b=true):spB b=false/\(b==34)=false/\(b==39)=false/\(b==35)=false/\(b==64)=false/\(b==47)=false/\(b==60)=false/\(b==43)=false/\(b==46)=false/\digB b=false/\b≠0:=by
 have: ∀n:Nat,n<256->hdB (UInt8.ofNat n)=true->spB (UInt8.ofNat n)=false/\(UInt8.ofNat n==34)=false/\(UInt8.ofNat n==39)=false/\(UInt8.ofNat n==35)=false/\(UInt8.ofNat n==64)=false/\(UInt8.ofNat n==47)=false/\(UInt8.ofNat n==60)=false/\(UInt8.ofNat n==43)=false/\(UInt8.ofNat n==46)=false/\digB (UInt8.ofNat n)=false/\UInt8.ofNat n≠0:=by decide+kernel
 have:=this b.toNat (Sb b);simp_all
theorem X0{q:Str}(h:nmS q=true):nbS q=false:=by
 obtain⟨_,_,_,_,_,_,_,a,j,f,_⟩:=jr (oo h);unfold nbS unsign Ng;rw[a,Jc];cases b:atS q 0==45 with
 |false=>
  rw[Ia (by decide)];unfold undot
  grind
 |true=>
  rw[Ka rfl];unfold nmS at h;rw[b,Ka rfl]at h;have i:hdB (atS q 1)=true:=by
   unfold hdB;cases e:fstB (atS q 1)with
   |true=>simp
   |false=>
    cases g:atS q 1==45 with
    |true=>rfl
    |false=> rw[e,g,Jc,Jc]at h;unfold escS at h;rw[Ca,Bj]at h;rw[h.1];rfl
  obtain⟨_,_,_,_,_,_,_,_,d,c,_⟩:=jr i;unfold undot;rw[Bj,d,Ia (by decide),Bj,c]
theorem J4{s r:Str}:(decide ((0:Int)<=(beh s r:Int))&&decide ((beh s r:Int)<=(s.length:Int)))=true:=by
 have:=um s r
 grind
theorem FP{s r:Str}(a:r<:+s):List.drop ((beh s r:Int)).toNat s=r:=by rw[Nb,Nw a]
theorem xu{a b:UInt8}{m t:Str}(h:(b==a)=false):(a::m).isPrefixOf (b::t)=false:=by
 grind
theorem V9{a:UInt8}{m q:Str}(c:a≠0)(h:(atS q 0==a)=false):(a::m).isPrefixOf q=false:=by
 cases q with
 |nil=>rfl
 |cons b t=>exact xu h
theorem Fu(m:UInt8):Zg m []=(some [],[]):=by rw[Zg]
theorem QO(m c:UInt8)(r:Str):Zg m (c::r)=if c==m then(some [],r)
  else if c==10 then(none,c::r)
  else if c==92 then
   (if r.isEmpty then(some [],[])
   else if atS r 0==10 then Zg m (r.drop 1)
   else((Zg m (zy r).2).1.map ((zy r).1++ ·),(Zg m (zy r).2).2))
  else((Zg m r).1.map (c:: ·),(Zg m r).2):=by rw[Zg]
theorem Gx(m:UInt8)(l:Str):(Zg m l).2<:+l:=by
 match l with
 |[]=>rw[Fu];grind
 |c::r=>
  rw[QO];have a:=Oe c r;split
  ·exact a
  ·split
   ·grind
   ·split
    ·split
     ·grind
     ·split
      ·exact(Gx m (r.drop 1)).trans ((Cf 1 r).trans a)
      ·have:=Zl r;exact(Gx m (zy r).2).trans ((qy r).trans a)
    ·exact(Gx m r).trans a
termination_by l.length
decreasing_by
 all_goals grind
theorem pI(a b:Str)(x:Option Str):(x.map (b++ ·)).map (a++ ·)=x.map ((a++b)++ ·):=by
 cases x with
 |none=>rfl
 |some t=>grind
theorem MQ(a:Str)(b:UInt8)(x:Option Str):(x.map (b:: ·)).map (a++ ·)=x.map ((a++[b])++ ·):=pI a [b] x
def yl:Option Str->zg
 |some t=>⟨5,t,0,[],false⟩
 |none=>⟨6,[],0,[],false⟩
theorem zIv{s q:Str}{m:UInt8}(k:s.length<=big)(w:m::q<:+s):Qb (sr s (m::q))=some (yl (Zg m q).1,sr s (Zg m q).2):=by
 have J:big=4194304:=rfl;have D:=Xk w;unfold Qb;simp only[ze,xh k w,Aa,Ns,ai k w]
 let g:LX (za×zg×List UInt8) (zg×za):=match(Zg m q).1 with
  |some t=> .out (sr s (Zg m q).2,⟨0,[],0,[],false⟩,t)
  |none=> .ret (⟨6,[],0,[],false⟩,sr s (Zg m q).2)
 rw[Qd (r:=g)]
 ·show LX.go g _=_;cases h:(Zg m q).1 with
  |some t=>simp only[g,h];rfl
  |none=>simp only[g,h];rfl
 refine qa (fun z=> ∃(p e:Str),z=(sr s p,⟨0,[],0,[],false⟩,e)/\p<:+s/\e.length+4*p.length<=4*s.length/\(Zg m q).1=(Zg m p).1.map (e++ ·)/\(Zg m q).2=(Zg m p).2) (fun z=>s.length - z.1.at_.toNat) _ ?_
  ⟨q,[],rfl,D,by grind,by simp,rfl⟩
 rintro _ ⟨p,e,rfl,j,C,b,a⟩;simp only[xh k j,Aa,Ur,XN,mZ];cases p with
 |nil=>
  refine .inr (.inl ⟨_,rfl,?_⟩);rw[Fu]at b a
  grind
 |cons c t=>
  have i:=j.length_le;rw[Fa]at i C;have n:=Xk j;rw[QO]at b a;rw[show(c::t).isEmpty=false from rfl,Ba,Ns,show((c.toNat:Int)==(m.toNat:Int))=(c==m)from EJ c m,show atS (c::t) 0=c from rfl,ai k j];have f: ∀u:Str,u.length<=t.length->u<:+s->s.length - beh s u<s.length - beh s (c::t):=by intro u A F;unfold beh;rw[Fa];omega
  cases v:c==m with
  |true=>
   grind
  |false=>
   rw[v,Ia (by decide)]at b a;rw[Ba];cases y:c==10 with
   |true=>
    grind
   |false=>
    rw[y,Ia (by decide)]at b a;rw[Ba];cases l:c==92 with
    |false=> rw[l,Ia (by decide)]at b a;simp only[zA,Ba,Aa,Ic,AA];rw[zF (jh (by omega))];exact .inl ⟨_,rfl,⟨t,e++[c],rfl,n,by grind,by rw[b,MQ],a⟩,f t (by omega) n⟩
    |true=>
     rw[l,Ka rfl]at b a;simp only[zA,Da,xy k j,Aa,ib];have x:pk (c::t) 1=pk t 0:=rfl;rw[x,Ur];cases t with
     |nil=>
      rw[show([]:Str).isEmpty=true from rfl,Ka rfl]at b a;have o:beh s [c]=s.length - 1:=rfl;have G:(if((s.length:Int)<w64 ((beh s [c]:Int)+2))then(s.length:Int)else w64 ((beh s [c]:Int)+2))=((beh s []:Nat):Int):=by rw[Zq (by omega) (by omega),Ka (by omega)];unfold beh;rw[Eb];omega
      refine .inl ⟨(sr s [],⟨0,[],0,[],false⟩,e),?_,⟨[],e,rfl,List.nil_suffix,by grind,by rw[b,Fu],by rw[a,Fu]⟩,f [] (by simp) List.nil_suffix⟩
      grind
     |cons d u=>
      rw[show(d::u).isEmpty=false from rfl,Ia (by decide)]at b a;simp only[show(d::u).isEmpty=false from rfl,Ta,Da,Ba,Aa,XN];cases B:atS (d::u) 0==10 with
      |true=>
       rw[B,Ka rfl]at b a;have A:=Xk n;rw[Fa]at i C;have o:beh s (c::d::u)=s.length - (u.length+1+1):=by unfold beh;rw[Fa,Fa]
       have G:(if((s.length:Int)<w64 ((beh s (c::d::u):Int)+2))then(s.length:Int)else w64 ((beh s (c::d::u):Int)+2))=((beh s u:Nat):Int):=by rw[Zq (by omega) (by omega),Ia (by omega)];unfold beh;rw[Fa,Fa];omega
       refine .inl ⟨(sr s u,⟨0,[],0,[],false⟩,e),?_,⟨u,e,rfl,A,by omega,b,a⟩,f u (by grind) A⟩
       grind
      |false=> rw[B,Ia (by decide)]at b a;have H:=nA (d::u);have E:=Zl (d::u);refine .inl ⟨(sr s (zy (d::u)).2,⟨0,[],0,[],false⟩,e++(zy (d::u)).1),?_,⟨_,_,rfl,(qy _).trans n,by grind,by rw[b,pI],a⟩,f _ E ((qy _).trans n)⟩;simp only[Ba,nK k j (show e.length<=1000000000 by omega),Aa]
end Go.Lv.VT
