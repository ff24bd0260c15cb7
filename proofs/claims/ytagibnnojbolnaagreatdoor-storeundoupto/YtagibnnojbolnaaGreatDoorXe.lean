/- The scanner: bytes, looks ahead, runs of bytes, numbers. -/
import Derived.Test.YtagibnnojbolnaaGreatDoorXd
import Derived.Test.YtagibnnojbolnaaGreatDoorMo
import Derived.Test.YtagibnnojbolnaaGreatDoorXa
set_option linter.unusedSimpArgs false
set_option linter.unusedVariables false
namespace Go.Lv.VT
set_option maxRecDepth 100000
abbrev sc(s:Str)(k:Nat):ze:=⟨s,(k:Int)⟩
def pk(l:Str)(n:Nat):Int:=match l[n]? with|some b=>(b.toNat:Int)|none=> -1
def beh(s r:Str):Nat:=s.length - r.length
theorem QW{n:Int}(a: -9223372036854775808<=n)(h2:n<=9223372036854775807):w64 n=n:=ZT a h2
theorem Hu{s r:Str}(h:r<:+s):s.drop (beh s r)=r:=by obtain⟨t,rfl⟩:=h;unfold beh;simp_all
theorem Wm(s r:Str):beh s r<=s.length:=by unfold beh;omega
theorem zIT{s:Str}{k:Nat}(h:k<=s.length):beh s (s.drop k)=k:=by unfold beh;grind
theorem SB{s:Str}{k n:Nat}(c:s.length<=big)(g:k<=s.length)(f:n<=8):zo ((n:Int),sc s k)=some (pk (s.drop k) n):=by
 have d:big=4194304:=rfl;have e:w64 ((k:Int)+(n:Int))=((k+n:Nat):Int):=by rw[QW (by omega) (by omega)];omega
 unfold zo pk;simp only[e];rw[Xc];by_cases h:k+n<s.length
 ·rw[Fa (by omega),Ca];have b:geti s ((k+n:Nat):Int)=some s[k+n]:=zM h;have a:=Gd s[k+n];simp only[za,b,Aa,Ta h];rw[QW (by omega) (by omega)]
 ·grind
theorem OA{s:Str}{k:Nat}(b:s.length<=big)(a:k<=s.length):zo (0,sc s k)=some (pk (s.drop k) 0):=SB (n:=0) b a (by omega)
theorem jM{s:Str}{k:Nat}(b:s.length<=big)(a:k<=s.length):zo (1,sc s k)=some (pk (s.drop k) 1):=SB (n:=1) b a (by omega)
theorem zOO{s:Str}{k:Nat}(b:s.length<=big)(a:k<=s.length):zo (2,sc s k)=some (pk (s.drop k) 2):=SB (n:=2) b a (by omega)
theorem JA{a:Type}{f:Int->Option a}{p:UInt8->a}(h: ∀b:UInt8,f (b.toNat:Int)=some (p b))(c:f (-1)=some (p 0))(l:Str)(n:Nat):f (pk l n)=some (p (atS l n)):=by
 unfold pk atS
 grind
theorem of_n{a:Type}{f:Int->Option a}{p:UInt8->a}(h: ∀n:Nat,n<256->f (n:Int)=some (p (UInt8.ofNat n)))(b:UInt8):f (b.toNat:Int)=some (p b):=by have:=h b.toNat (Gd b);simp_all
theorem Pw(l:Str)(n:Nat):Ar (pk l n)=some (spB (atS l n)):=JA (of_n (by decide+kernel)) (by decide+kernel) l n
theorem Ho(l:Str)(n:Nat):Il (pk l n)=some (digB (atS l n)):=JA (of_n (by decide+kernel)) (by decide+kernel) l n
theorem zMV(l:Str)(n:Nat):Wy (pk l n)=some (fstB (atS l n)):=JA (of_n (by decide+kernel)) (by decide+kernel) l n
theorem WX(l:Str)(n:Nat):uE (pk l n)=some (letB (atS l n)):=JA (of_n (by decide+kernel)) (by decide+kernel) l n
def hexI(b:UInt8):Int:=if Jg b then(hexN b:Int)else -1
theorem mH(l:Str)(n:Nat):Ku (pk l n)=some (hexI (atS l n)):=JA (of_n (by decide+kernel)) (by decide+kernel) l n
theorem Ti(l:Str)(n:Nat)(c:UInt8)(h:c≠0):(pk l n==(c.toNat:Int))=(atS l n==c):=by
 unfold pk atS;rw[Ye];cases l[n]? with
 |none=>
  grind
 |some b=>
  show((b.toNat:Int)==(c.toNat:Int))=(b==c);by_cases e:b=c
  ·grind
  ·have:b.toNat≠c.toNat:=fun h=>e (Gf.1 h)
   grind
theorem gM(l:Str)(n:Nat):(pk l n==10)=(atS l n==10):=Ti l n 10 (by decide)
theorem iU(l:Str)(n:Nat):(pk l n==34)=(atS l n==34):=Ti l n 34 (by decide)
theorem zOP(l:Str)(n:Nat):(pk l n==35)=(atS l n==35):=Ti l n 35 (by decide)
theorem zOQ(l:Str)(n:Nat):(pk l n==37)=(atS l n==37):=Ti l n 37 (by decide)
theorem gU(l:Str)(n:Nat):(pk l n==39)=(atS l n==39):=Ti l n 39 (by decide)
theorem zOR(l:Str)(n:Nat):(pk l n==40)=(atS l n==40):=Ti l n 40 (by decide)
theorem fM(l:Str)(n:Nat):(pk l n==41)=(atS l n==41):=Ti l n 41 (by decide)
theorem dM(l:Str)(n:Nat):(pk l n==43)=(atS l n==43):=Ti l n 43 (by decide)
theorem NA(l:Str)(n:Nat):(pk l n==45)=(atS l n==45):=Ti l n 45 (by decide)
theorem bM(l:Str)(n:Nat):(pk l n==46)=(atS l n==46):=Ti l n 46 (by decide)
theorem zOS(l:Str)(n:Nat):(pk l n==64)=(atS l n==64):=Ti l n 64 (by decide)
theorem zOT(l:Str)(n:Nat):(pk l n==69)=(atS l n==69):=Ti l n 69 (by decide)
theorem fU(l:Str)(n:Nat):(pk l n==92)=(atS l n==92):=Ti l n 92 (by decide)
theorem zN4(l:Str)(n:Nat):(pk l n==101)=(atS l n==101):=Ti l n 101 (by decide)
theorem Dq(l:Str):(pk l 0== -1)=l.isEmpty:=by
 cases l with
 |nil=>rfl
 |cons b r=>
  show((b.toNat:Int)== -1)=false
  grind
theorem Ck(l:Str)(k n:Nat):atS (l.drop k) n=atS l (k+n):=by
 unfold atS
 grind
theorem eY {R:Type} {step:ze->Option (LO ze ze R)} {s:Str} (p:UInt8->Bool) (h0:p 0=false)
  (h: ∀k,k<=s.length->step (sc s k)=some (bif p (atS (s.drop k) 0)then .again (sc s (k+1))else .out (sc s k))) {k:Nat} (hk:k<=s.length):
  xg step (sc s k)=some (.out (sc s (beh s (past p (s.drop k))))):=by
 refine QA (fun z=> ∃j,z=sc s j/\j<=s.length/\past p (s.drop j)=past p (s.drop k)) (fun z=>s.length - z.at_.toNat) _ ?_ ⟨k,rfl,hk,rfl⟩;rintro _ ⟨j,rfl,hj,he⟩;rw[h j hj];cases hd:s.drop j with
 |nil=>
  rw[show atS ([]:Str) 0=0 from rfl,h0,Ba];refine .inr (.inl ⟨_,rfl,?_⟩);rw[<-he,hd];have:j=s.length:=by have:=Jd.1 hd;omega
  subst this;show LX.out (sc s (beh s []))=_;unfold beh;rw[Eb,Nat.sub_zero]
 |cons c r=>
  have hlt:j<s.length:=by
   rcases Yd j s.length with h'|h'
   ·exact h'
   ·grind
  have hr:s.drop (j+1)=r:=by have:=Ab hlt;rw[hd]at this;injection this with _ h2;exact h2.symm
  rw[show atS (c::r) 0=c from rfl];cases hp:p c with
  |true=> refine .inl ⟨_,rfl,⟨j+1,rfl,by omega,?_⟩,by grind⟩;rw[hr,<-he,hd,past,hp];rfl
  |false=> refine .inr (.inl ⟨_,rfl,?_⟩);rw[<-he,hd,past,hp,Oa (by decide),<-hd,zIT hj]
theorem oV{s:Str}{k:Nat}(b:s.length<=big)(a:k<=s.length):w64 ((k:Int)+1)=((k+1:Nat):Int):=by have c:big=4194304:=rfl;rw[QW (by omega) (by omega)];omega
theorem zKC{s:Str}{k:Nat}(a:s.length<=big)(c:k<=s.length):qb (sc s k)=some (sc s (beh s (past spB (s.drop k)))):=by
 unfold qb;rw[Bn (eY spB rfl (fun j b=> ?_) c)];simp only[za,OA a b,Aa,Pw,oV a b]
 grind
theorem zIM{s:Str}{k:Nat}(a:s.length<=big)(c:k<=s.length):ZK (sc s k)=some (sc s (beh s (past digB (s.drop k)))):=by
 unfold ZK;rw[Bn (eY digB rfl (fun j b=> ?_) c)];simp only[za,OA a b,Aa,Ho,oV a b]
 grind
theorem number_eq{s:Str}{k:Nat}(a:s.length<=big)(c:k<=s.length):Qa (sc s k)=some (nbS (s.drop k)):=by
 unfold Qa nbS unsign undot Uk;simp only[za,OA a c,Aa,dM,NA];have d: ∀(b:Bool),(Zi (X:=Int) (bif b then some (LX.out 1)else some (LX.out 0)) fun e=>
   Zi (X:=Int) ((zo (e,sc s k)).bind fun f=>bif f==46 then some (LX.out (w64 (e+1)))else some (LX.out e)) fun g=>
   (zo (g,sc s k)).bind fun i=>(Il i).bind fun j=>some j)=some (digB (atS (if atS (if b then(s.drop k).drop 1 else s.drop k) 0==46 then(if b then(s.drop k).drop 1 else s.drop k).drop 1 else(if b then(s.drop k).drop 1 else s.drop k)) 0)):=by
  intro b;cases b with
  |false=>
   simp only[Ba,zI,OA a c,Aa,bM,Ee,Rf];cases h:atS (s.drop k) 0==46 with
   |false=>simp only[Ba,zI,OA a c,Aa,Ho,Ee,Rf]
   |true=> simp only[Ca,zI,Df];rw[show w64 (0+1)=1 from rfl,jM a c];simp only[Aa,Ho];rw[Ck (s.drop k) 1 0]
  |true=>
   simp only[Ca,zI,jM a c,Aa,bM,Df];rw[Ck (s.drop k) 1 0];cases h:atS (s.drop k) (1+0)==46 with
   |false=> simp only[Nc]at h;simp only[h,Ba,zI,jM a c,Aa,Ho,Ee,Rf];rw[Ck (s.drop k) 1 0]
   |true=> simp only[Nc]at h;simp only[h,Ca,zI,Df];rw[show w64 (1+1)=2 from rfl,zOO a c];simp only[Aa,Ho];rw[Tf,Ck (s.drop k) (1+1) 0]
 have:=d (atS (s.drop k) 0==43||atS (s.drop k) 0==45)
 grind
abbrev sr(s r:Str):ze:=sc s (beh s r)
theorem sr_0(s:Str):(⟨s,0⟩:ze)=sr s s:=by show sc s 0=sc s (beh s s);unfold beh;rw[Nat.sub_self]
theorem mr{s r:Str}{n:Nat}(b:s.length<=big)(c:r<:+s)(a:n<=8):zo ((n:Int),sr s r)=some (pk r n):=by rw[SB b (Wm s r) a,Hu c]
theorem Mh{s r:Str}(a:s.length<=big)(b:r<:+s):zo (0,sr s r)=some (pk r 0):=mr (n:=0) a b (by omega)
theorem jA{s r:Str}(a:s.length<=big)(b:r<:+s):zo (1,sr s r)=some (pk r 1):=mr (n:=1) a b (by omega)
theorem zN3{s r:Str}(a:s.length<=big)(b:r<:+s):zo (2,sr s r)=some (pk r 2):=mr (n:=2) a b (by omega)
theorem FI{s r:Str}(a:s.length<=big)(b:r<:+s):qb (sr s r)=some (sr s (past spB r)):=by rw[zKC a (Wm s r),Hu b]
theorem JB{s r:Str}(a:s.length<=big)(b:r<:+s):ZK (sr s r)=some (sr s (past digB r)):=by rw[zIM a (Wm s r),Hu b]
theorem zMs{s r:Str}(a:s.length<=big)(b:r<:+s):Qa (sr s r)=some (nbS r):=by rw[number_eq a (Wm s r),Hu b]
theorem xW{s r:Str}{n:Nat}(a:r<:+s)(b:n<=r.length):beh s r+n=beh s (r.drop n):=by
 have:=a.length_le;unfold beh
 grind
theorem uH{s r:Str}{n:Nat}(c:s.length<=big)(a:r<:+s)(b:n<=r.length):(⟨s,w64 ((beh s r:Int)+(n:Int))⟩:ze)=sr s (r.drop n):=by have d:big=4194304:=rfl;have:=Wm s r;have e:=a.length_le;rw[QW (by omega) (by omega),show(beh s r:Int)+(n:Int)=((beh s r+n:Nat):Int) by omega,xW a b]
theorem XA{l:Str}{n:Nat}(h:atS l n≠0):n<l.length:=by
 rcases Yd n l.length with a|a
 ·exact a
 ·exact absurd (by unfold atS;grind) h
theorem LA{s r:Str}(a:s.length<=big)(b:r<:+s)(h:atS r 0≠0):(⟨s,w64 ((beh s r:Int)+1)⟩:ze)=sr s (r.drop 1):=uH (n:=1) a b (XA h)
theorem um{s r:Str}(a:r<:+s)(n:Nat):r.drop n<:+s:=(Cf n r).trans a
theorem Sq{s r:Str}(p:UInt8->Bool)(a:r<:+s):past p r<:+s:=(fq p r).trans a
theorem BK{s r:Str}(a:r<:+s):unsign r<:+s:=by
 unfold unsign;split
 ·exact um a 1
 ·exact a
theorem gV{b:UInt8}(h:Uk b=true):b≠0:=by rintro rfl;revert h;decide
theorem MM(a b:Bool):(bif a then true else b)=(a||b):=by cases a<;>rfl
theorem LV(a b:Bool):(bif a then b else false)=(a&&b):=by cases a<;>rfl
theorem GZ{s r:Str}(a:r<:+s):(Fh r).1<:+s:=by
 unfold Fh;split
 ·exact Sq _ (um a 1)
 ·exact a
theorem zLN{s r q:Str}(a:r<:+s)(h:expS r=some q):q<:+s:=by
 unfold expS at h;split at h
 ·split at h
  ·cases h;exact Sq _ (BK (um a 1))
  ·cases h
 ·cases h
theorem zE4{s r:Str}(b:r<:+s):(qM r).1<:+s:=by
 unfold qM;have a:=GZ (Sq digB (BK b));simp only;cases h:expS (Fh (past digB (unsign r))).1 with
 |some q=>exact zLN a h
 |none=>exact a
theorem zJu{s l:Str}(hs:s.length<=big)(hl:l<:+s):jH (sr s l)=some ((qM l).2,sr s (qM l).1):=by
 unfold jH;simp only[za,Mh hs hl,Aa,dM,NA,MM];have e1:(bif (atS l 0==43||atS l 0==45)then some (LX.out (⟨s,w64 ((beh s l:Int)+1)⟩:ze))else some (LX.out (sr s l)))=(some (LX.out (sr s (unsign l))):Option (LX ze (Bool×ze))):=by
  unfold unsign;cases h:Uk (atS l 0)with
  |true=> have h':(atS l 0==43||atS l 0==45)=true:=h;rw[h',Ca,Sa rfl,LA hs hl (gV h)]
  |false=>
   have h':(atS l 0==43||atS l 0==45)=false:=h
   grind
 rw[e1,zI];have hu:=BK hl;rw[JB hs hu];simp only[Aa];have hp:=Sq digB hu;unfold qM;generalize past digB (unsign l)=q at hp ⊢;have e2:Zi (X:=Bool×ze) (R:=Bool×ze) ((zo (0,sr s q)).bind fun y4=>
   (zF (y4==46) (zo (1,sr s q)) (default:Int)).bind fun y5=>
   (zF (y4==46) (Il y5) (default:Bool)).bind fun y6=>
   bif bif y4==46 then y6 else false then(ZK (⟨s,w64 ((beh s q:Int)+1)⟩:ze)).bind fun y7=>some (LX.out (false,y7))else some (LX.out (true,sr s q)))=Zi (some (LX.out ((Fh q).2,sr s (Fh q).1))):=by
  congr 1;unfold Fh;simp only[Mh hs hp,jA hs hp,Aa,bM];cases h:atS q 0==46 with
  |false=>simp_all
  |true=>
   simp only[z8,Aa,Ca,Ho,aa];cases h2:digB (atS q 1)with
   |false=>grind
   |true=> rw[Ca,Sa rfl,LA hs hp (by grind),JB hs (um hp 1)];rfl
 rw[e2,zI];have hw:=GZ hp;generalize Fh q=W at hw ⊢;obtain⟨w,i⟩:=W;simp only at hw ⊢;have e3:((zo (0,sr s w)).bind fun y9=>
   (zF (!(y9==101)) (zo (0,sr s w)) (default:Int)).bind fun y10=>
   bif bif y9==101 then true else y10==69 then
    Zi (X:=(Bool×Int)×ze) ((zo (1,sr s w)).bind fun y11=>bif bif y11==43 then true else y11==45 then some (LX.out ((i,2),sr s w))else some (LX.out ((i,1),sr s w))) fun j12=>
    (zo (j12.1.2,j12.2)).bind fun y13=>(Il y13).bind fun y14=>
    bif y14 then(ZK (⟨j12.2.s,w64 (j12.2.at_+j12.1.2)⟩:ze)).bind fun y15=>some (LX.out (false,y15))else some (LX.out (j12.1.1,j12.2))
   else some (LX.out (i,sr s w)))=(some (LX.out (match expS w with|some r=>(false,sr s r)|none=>(i,sr s w))):Option (LX (Bool×ze) (Bool×ze))):=by
  simp only[Mh hs hw,Aa,zN4];have e4:((zF (!(atS w 0==101)) (some (pk w 0)) (default:Int)).bind fun y10=>(some (bif atS w 0==101 then true else y10==69):Option Bool))=some (atS w 0==101||atS w 0==69):=by
   cases h:atS w 0==101 with
   |true=>rfl
   |false=>simp only[Ua,z8,Aa,Ba,zOT,Ld]
  have e5: ∀(f:Bool->Option (LX (Bool×ze) (Bool×ze))),((zF (!(atS w 0==101)) (some (pk w 0)) (default:Int)).bind fun y10=>f (bif atS w 0==101 then true else y10==69))=f (atS w 0==101||atS w 0==69):=by intro f;have:=congrArg (fun o=>Option.bind o f) e4;simpa [Option.bind_assoc] using this
  refine(e5 (fun b=>bif b then _ else _)).trans ?_;unfold expS;cases h:(atS w 0==101||atS w 0==69)with
  |false=>rfl
  |true=>
   have hne:atS w 0≠0:=by intro e;rw[e]at h;revert h;decide
   simp only[Ca,Df,jA hs hw,Aa,dM,NA,MM];unfold unsign;have hd:atS (w.drop 1) 0=atS w 1:=by rw[Ck w 1 0]
   rw[hd];cases hg:(atS w 1==43||atS w 1==45)with
   |true=>
    have hg':Uk (atS w 1)=true:=hg;have hl2:=XA (gV hg');simp only[Ca,zI,zN3 hs hw,Aa,Ho,hg',Df,Tf];rw[show atS (w.drop (1+1)) 0=atS w 2 by rw[Ck w 2 0]];cases hq:digB (atS w 2)with
    |false=>rfl
    |true=> rw[Ca,Sa rfl,show(2:Int)=((2:Nat):Int)from rfl,uH hs hw (by omega),JB hs (um hw 2)];rfl
   |false=>
    have hg':Uk (atS w 1)=false:=hg;simp only[Ba,zI,jA hs hw,Aa,Ho,hg',Ee,Rf];rw[hd];cases hq:digB (atS w 1)with
    |false=>rfl
    |true=> rw[Ca,Sa rfl,LA hs hw hne,JB hs (um hw 1)];rfl
 refine(congrArg (fun o=>Zi o _) e3).trans ?_;rw[zI];cases expS w<;>rfl
def valG(n:Nat)(l:Str):Nat:=l.foldl decN n
def d48(k:Nat):UInt8:=UInt8.ofNat (48+k)
def ak(r:Nat):Str:=Lib.trimRightB [d48 (r / 100),d48 (r / 10%10),d48 (r%10)] 48
def CV(r:Nat):Bool:=(ak r).all digB&&decide ((ak r).length<=3)&&decide (valG 0 (ak r)*10 ^ (3 - (ak r).length)=r)&&((ak r).isEmpty==(r==0))&& !((ak r).getLast? ==some 48)
theorem zJy: ∀r,r<1000->CV r=true:=by decide+kernel
def XM(r:Nat)(p:Bool):Str:=bif (ak r).isEmpty then(bif p then [46,48]else [])else 46::ak r
def zOE(m:Nat)(p:Bool):Str:=Lib.decDigits (m / 1000)++XM (m%1000) p
def numT(n:Int)(p:Bool):Str:=(if n<0 then [45]else [])++zOE n.natAbs p
theorem Vx{b:UInt8}(h:digB b=true):48<=b.toNat/\b.toNat<=57:=by unfold digB at h;simpa using h
theorem oW: ∀(q:Str),q.all digB=true->Lib.indexByte q 46= -1
 |[],_=>rfl
 |c::q,h=>by
  rw[Ad,Da]at h;have a:=Vx h.1;have b:(c==46)=false:=by refine Ea.2 (fun e=> ?_);subst e;revert a;decide
  rw[Lib.indexByte,b,oW q h.2];rfl
theorem pW: ∀(q g:Str),q.all digB=true->Lib.indexByte (q++46::g) 46=(q.length:Int)
 |[],g,_=>by rw[Bc,Lib.indexByte];rfl
 |c::q,g,h=>by
  rw[Ad,Da]at h;have hd:=Vx h.1;have hc:(c==46)=false:=by refine Ea.2 (fun e=> ?_);subst e;revert hd;decide
  rw[Sb,Lib.indexByte,hc,pW q g h.2];have:((q.length:Int)== -1)=false:=Ea.2 (by omega);rw[this,Ga];simp
theorem BX: ∀(l:Str),(l.all fun b=>digB b||b==46)=true->Lib.indexAny l [101,69]= -1
 |[],_=>rfl
 |c::l,h=>by
  rw[Ad,Da]at h;have hc:List.contains [101,69] c=false:=by
   have: ∀n:Nat,n<256->(digB (UInt8.ofNat n)||UInt8.ofNat n==46)=true->List.contains [101,69] (UInt8.ofNat n)=false:=by decide+kernel
   have:=this c.toNat (Gd c);rw[Eg]at this;exact this h.1
  rw[Lib.indexAny,hc,BX l h.2];rfl
def partT(r:Nat)(p:Bool):Str:=bif (ak r).isEmpty then(bif p then [48]else [])else ak r
theorem PW{r:Nat}(h:r<1000)(p:Bool):(partT r p).all digB=true/\(partT r p).length<=3/\valG 0 (partT r p)*10 ^ (3 - (partT r p).length)=r/\XM r p=(bif (partT r p).isEmpty then []else 46::partT r p)/\((partT r p).isEmpty=((r==0)&& !p)):=by
 have f:=zJy r h;simp only[CV,Da,ja,Db]at f;obtain⟨⟨⟨⟨a,b⟩,c⟩,d⟩,e⟩:=f;unfold partT XM;cases g:(ak r).isEmpty with
 |true=>
  have i:r=0:=by rw[g]at d;exact Db.1 d.symm
  subst i;cases p<;>refine⟨by decide,by decide,by decide,rfl,rfl⟩
 |false=>
  grind
theorem zLm{l:Str}(h:(l.all fun b=>digB b||b==46)=true):Kh l=true:=by
 unfold Kh;rw[Pb]at h ⊢;intro b hb;have:=h b hb;refine Fa ?_;rw[Yc]at this;rcases this with h1|h1
 ·have:=Vx h1;omega
 simp_all
theorem gW{c:UInt8}(h:digB c=true):c≠45/\c≠43/\c≠46/\c≠0/\List.contains [43,45] c=false:=by
 have: ∀n:Nat,n<256->digB (UInt8.ofNat n)=true->UInt8.ofNat n≠45/\UInt8.ofNat n≠43/\UInt8.ofNat n≠46/\UInt8.ofNat n≠0/\List.contains [43,45] (UInt8.ofNat n)=false:=by decide+kernel
 have:=this c.toNat (Gd c);simp_all
def capF(cap:Nat):Nat->Str->Nat
 |n,[]=>n
 |n,c::r=>capF cap (min cap (decN n c)) r
theorem NP(cap:Nat): ∀(l:Str) (n:Nat) (c:UInt8),capF cap n (l++[c])=min cap (decN (capF cap n l) c)
 |[],_,_=>rfl
 |d::l,n,c=>by show capF cap (min cap (decN n d)) (l++[c])=_;rw[NP cap l];rfl
theorem gB(cap:Nat): ∀(l:Str) (n:Nat),n<=cap->capF cap n l<=cap
 |[],_,h=>h
 |c::l,n,_=>gB cap l _ (Nat.min_le_left ..)
theorem uX {R:Type} {step:Int×Int->Option (LO (Int×Int) Int R)} {l:Str} {cap:Nat} (b:l.all digB=true) (j:l.length<=100000) (f:cap<=1000000000000)
  (a: ∀(v:Int) (i:Nat) (hi:i<l.length),step (v,(i:Int))=some (.again (if(cap:Int)<w64 (w64 (10*v)+w64 (wu8 ((l[i].toNat:Int) - 48)))then(cap:Int)else w64 (w64 (10*v)+w64 (wu8 ((l[i].toNat:Int) - 48))),w64 ((i:Int)+1))))
  (h2: ∀v:Int,step (v,(l.length:Int))=some (.out v)):xg step (0,0)=some (.out ((capF cap 0 l:Nat):Int)):=by
 refine QA (fun s=> ∃i:Nat,i<=l.length/\s=(((capF cap 0 (l.take i):Nat):Int),(i:Int))) (fun s=>l.length - s.2.toNat) _ ?_ ⟨0,by omega,rfl⟩;rintro _ ⟨i,hi,rfl⟩;rcases Yd i l.length with h|h
 ·refine .inl ⟨_,a _ i h,⟨i+1,by omega,?_⟩,by simp only;rw[QW (by omega) (by omega)];omega⟩;have e:=Vx (Pb.1 b _ (Ha h));have d:capF cap 0 (l.take (i+1))=min cap (decN (capF cap 0 (l.take i)) l[i]):=by rw[Oc h,NP]
  have g:=gB cap (l.take i) 0 (Va _);have c:wu8 ((l[i].toNat:Int) - 48)=((l[i].toNat - 48:Nat):Int):=by show IntKind.u8.wrap _=_;rw[IntKind.wrap_u8];omega
  unfold decN at d;rw[c,QW (n:=10*_) (by omega) (by omega),QW (n:=((l[i].toNat - 48:Nat):Int)) (by omega) (by omega),QW (n:=(i:Int)+1) (by omega) (by omega),QW (by omega) (by omega)];refine Prod.ext ?_ ?_
  ·grind
  ·grind
 grind
theorem nY: ∀(k n:Nat),n<=ui->Ul k n<=ui
 |0,_,h=>h
 |k+1,n,h=>by
  unfold Ul;split
  ·exact h
  ·exact nY k _ (Nat.min_le_left ..)
theorem zC5 {R:Type} {step:Int×Int->Option (LO (Int×Int) Int R)} {v:Nat} {p:Int} (n:p<=4000000) (d: -4000000<=p) (i:v<=1000000000000)
  (h: ∀(a b:Int),step (a,b)=bif bif bif decide (a>0)then decide (b>0)else false then decide (b<1000000000000)else false then some (.again (w64 (a - 1),if 1000000000000<w64 (10*b)then 1000000000000 else w64 (10*b)))else some (.out b)):
  xg step (p,(v:Int))=some (.out ((Ul p.toNat v:Nat):Int)):=by
 have o:ui=1000000000000:=rfl;refine QA (fun s=> ∃(a:Int) (b:Nat),s=(a,(b:Int))/\a<=4000000/\ -4000000<=a/\b<=1000000000000/\Ul a.toNat b=Ul p.toNat v) (fun s=>s.1.toNat) _ ?_ ⟨p,v,rfl,n,d,i,rfl⟩;rintro _ ⟨a,b,rfl,r,f,q,c⟩;rw[h];by_cases e:a>0
 ·obtain⟨k,l⟩: ∃k,a.toNat=k+1:=⟨a.toNat - 1,by omega⟩;rw[l,Ul]at c;rw[Fa e,Ca];by_cases g:b=0\/ui<=b
  ·grind
  ·rw[Oa g]at c;have m:decide (((b:Nat):Int)>0)=true:=Fa (by omega);have j:decide (((b:Nat):Int)<1000000000000)=true:=Fa (by omega);rw[m,Ca,j,Ca];refine .inl ⟨_,rfl,⟨a - 1,min ui (10*b),?_,by omega,by omega,by omega,?_⟩,by simp only;rw[QW (by omega) (by omega)];omega⟩
   ·rw[QW (by omega) (by omega),QW (by omega) (by omega)]
    grind
   grind
 ·rw[Ia e,Ba];refine .inr (.inl ⟨_,rfl,?_⟩);rw[<-c,show a.toNat=0 by omega];rfl
structure NumP where
 sg:Str
 D:Str
 F:Option Str
 X:Option (UInt8×Str×Str)
def dotS:Option Str->Str
 |none=>[]
 |some f=>46::f
def expT:Option (UInt8×Str×Str)->Str
 |none=>[]
 |some (e,s,x)=>e::(s++x)
def NumP.txt(n:NumP):Str:=n.sg++(n.D++(dotS n.F++expT n.X))
def sgB(s:Str):Bool:=s==[]||s==[43]||s==[45]
def NumP.ok(n:NumP):Bool:=sgB n.sg&&n.D.all digB&&(match n.F with|none=> !n.D.isEmpty|some f=> !f.isEmpty&&f.all digB)&&
 (match n.X with|none=>true|some (e,s,x)=>(e==101||e==69)&&sgB s&& !x.isEmpty&&x.all digB)
def expV:Option (UInt8×Str×Str)->Int
 |none=>0
 |some (_,s,x)=>if s==[45]then -((capF 1048576 0 x:Nat):Int)else((capF 1048576 0 x:Nat):Int)
def thoV(A:Str)(p:Int):Nat:=Ul p.toNat (capF ui 0 (if p<0 then A.take ((A.length:Int)+p).toNat else A))
def NumP.val(n:NumP):Int:=
 let v:=thoV (n.D++n.F.getD []) (3+expV n.X - ((n.F.getD []).length:Int))
 if n.sg==[45]then -(v:Int)else(v:Int)
theorem SC{s:Str}(h:sgB s=true):s=[]\/s=[43]\/s=[45]:=by
 unfold sgB at h
 grind
theorem pV{s q:Str}(h:sgB s=true)(b: ∀c r,q=c::r->List.contains [43,45] c=false):Lib.trimLeftS (s++q) [43,45]=q:=by
 have a:Lib.trimLeftS q [43,45]=q:=by
  unfold Lib.trimLeftS;cases q with
  |nil=>rfl
  |cons c r=>simp_all
 rcases SC h with rfl|rfl|rfl
 ·exact a
 ·show List.dropWhile _ (43::q)=_;rw[Ic];exact a
 ·show List.dropWhile _ (45::q)=_;rw[Ic];exact a
theorem CX{e:UInt8}(he:e=101\/e=69)(t:Str): ∀(l:Str),(l.all fun b=>digB b||b==46)=true->Lib.indexAny (l++e::t) [101,69]=(l.length:Int)
 |[],_=>by
  rw[Bc,Lib.indexAny]
  grind
 |c::l,h=>by
  rw[Ad,Da]at h;have hc:List.contains [101,69] c=false:=by
   have: ∀n:Nat,n<256->(digB (UInt8.ofNat n)||UInt8.ofNat n==46)=true->List.contains [101,69] (UInt8.ofNat n)=false:=by decide+kernel
   have:=this c.toNat (Gd c);rw[Eg]at this;exact this h.1
  rw[Sb,Lib.indexAny,hc,CX he t l h.2]
  grind
theorem IV{l:Str}(h:l.all digB=true):(l.all fun b=>digB b||b==46)=true:=by
 grind
theorem Iu{l:Str}(h: ∀b∈l,b.toNat<128):Kh l=true:=by
 unfold Kh
 grind
theorem zIQ{l:Str}(h:Kh l=true): ∀b∈l,b.toNat<128:=by
 unfold Kh at h
 grind
theorem zLA{D:Str}(a:D.all digB=true)(F:Option Str): ∃f,Lib.cut (D++dotS F) [46]=(D,F.getD [],f):=by
 unfold Lib.cut;rw[TK];cases F with
 |none=> rw[show dotS none=[]from rfl,Yb,oW _ a,Oa (by decide)];simp_all
 |some g=> rw[show dotS (some g)=46::g from rfl,pW _ _ a,Sa (by omega)];simp_all
theorem VX {D:Str} {F:Option Str} {E:Int} (w:D.all digB=true) (y:(F.getD []).all digB=true) (R:D.length+(F.getD []).length<=50000) (Q:E<=2000000) (C: -2000000<=E) (s:UInt8) (r:Str)
  (M:((s.toNat:Int)==45)=(r==[45])) (u:short (D++dotS F)=true):
  (za (cutF (D++dotS F,[46])) fun c=>
 need (Ui c.1.length c.2.1.length)<|
 Zi (X:=Str×Int) (
   bif decide (w64 ((3+E) - (c.2.1.length:Int))<0)then
    need (decide (0<=(if w64 (((c.1++c.2.1).length:Int)+w64 ((3+E) - (c.2.1.length:Int)))>0 then w64 (((c.1++c.2.1).length:Int)+w64 ((3+E) - (c.2.1.length:Int)))else 0))&&decide ((if w64 (((c.1++c.2.1).length:Int)+w64 ((3+E) - (c.2.1.length:Int)))>0 then w64 (((c.1++c.2.1).length:Int)+w64 ((3+E) - (c.2.1.length:Int)))else 0)<=((c.1++c.2.1).length:Int)))<|
    some (LX.out (List.take (if w64 (((c.1++c.2.1).length:Int)+w64 ((3+E) - (c.2.1.length:Int)))>0 then w64 (((c.1++c.2.1).length:Int)+w64 ((3+E) - (c.2.1.length:Int)))else 0).toNat (c.1++c.2.1),w64 ((3+E) - (c.2.1.length:Int))))
   else
    some (LX.out (c.1++c.2.1,w64 ((3+E) - (c.2.1.length:Int))))) fun j=>
 need (decide (j.1.length<=maxLen))<|
 zU (fun(d:Int×Int)=>
   bif decide (d.2<(j.1.length:Int))then
    need (decide (0<=d.2)&&decide (d.2<(j.1.length:Int)))<|
    za j.1[d.2.toNat]? fun g=>
    some (LO.again (if 1000000000000<w64 (w64 (10*d.1)+w64 (wu8 ((g.toNat:Int) - 48)))then 1000000000000 else w64 (w64 (10*d.1)+w64 (wu8 ((g.toNat:Int) - 48))),w64 (d.2+1)))
   else
    some (LO.out d.1):Int×Int->Option (LO (Int×Int) (Int) _)) (0,0) fun l=>
 zU (fun(e:Int×Int)=>
   bif bif bif decide (e.1>0)then decide (e.2>0)else false then decide (e.2<1000000000000)else false then
    some (LO.again (w64 (e.1 - 1),if 1000000000000<w64 (10*e.2)then 1000000000000 else w64 (10*e.2)))
   else
    some (LO.out e.2):Int×Int->Option (LO (Int×Int) (Int) _)) (j.2,l) fun h=>
 Zi (X:=Int) (
   bif (s.toNat:Int)==45 then
    some (LX.out (w64 (0 - h)))
   else
    some (LX.out h)) fun k=>
 some k)=some (if r==[45]then -((thoV (D++F.getD []) (3+E - ((F.getD []).length:Int)):Nat):Int)else((thoV (D++F.getD []) (3+E - ((F.getD []).length:Int)):Nat):Int)):=by
 obtain⟨f,m⟩:=zLA w F;have O:cutF (D++dotS F,[46])=some (D,F.getD [],f):=by unfold cutF;rw[ZQ (by exact u)];exact congrArg some m
 have x:maxLen=9223372036854775807:=rfl;have t:ui=1000000000000:=rfl;simp only[za,O,Aa];generalize F.getD []=G at*;rw[ZQ (IJ.2 (by omega))];obtain⟨p,L⟩: ∃p:Int,p=3+E - (G.length:Int):=⟨_,rfl⟩;rw[<-L,QW (n:=p) (by omega) (by omega)];have S:(D++G).all digB=true:=by rw[Ue,w,y];rfl
 have K:(D++G).length<=50000:=by rw[Na];omega
 generalize D++G=A at*;have H: ∀B:Str,B.all digB=true->B.length<=50000->(need (decide (B.length<=maxLen))<|
 zU (fun(d:Int×Int)=>
   bif decide (d.2<(B.length:Int))then
    need (decide (0<=d.2)&&decide (d.2<(B.length:Int)))<|
    (B[d.2.toNat]?).bind fun g=>
    some (LO.again (if 1000000000000<w64 (w64 (10*d.1)+w64 (wu8 ((g.toNat:Int) - 48)))then 1000000000000 else w64 (w64 (10*d.1)+w64 (wu8 ((g.toNat:Int) - 48))),w64 (d.2+1)))
   else
    some (LO.out d.1):Int×Int->Option (LO (Int×Int) (Int) _)) (0,0) fun l=>
 zU (fun(e:Int×Int)=>
   bif bif bif decide (e.1>0)then decide (e.2>0)else false then decide (e.2<1000000000000)else false then
    some (LO.again (w64 (e.1 - 1),if 1000000000000<w64 (10*e.2)then 1000000000000 else w64 (10*e.2)))
   else
    some (LO.out e.2):Int×Int->Option (LO (Int×Int) (Int) _)) (p,l) fun h=>
 Zi (X:=Int) (
   bif (s.toNat:Int)==45 then
    some (LX.out (w64 (0 - h)))
   else
    some (LX.out h)) fun k=>
 some k)=some (if r==[45]then -((Ul p.toNat (capF ui 0 B):Nat):Int)else((Ul p.toNat (capF ui 0 B):Nat):Int)):=by
  intro B J z;have o:=gB ui B 0 (Va _);rw[ZQ (Fa (by omega))];rw[Bn (uX (cap:=ui) J (by omega) (by omega) (fun v i U=> ?_) (fun v=> ?_))]
  ·have N:=nY p.toNat _ o;rw[Bn (zC5 (by omega) (by omega) (by omega) (fun a b=> ?_)),M]
   ·cases T:r==[45]with
    |true=> rw[Ca,zI,QW (by omega) (by omega),Sa rfl];congr 1;omega
    |false=>simp_all
   ·simp only
  ·simp_all
  ·grind
 unfold thoV;by_cases q:p<0
 ·rw[Fa q,Ca,Sa q];have P:(if w64 ((A.length:Int)+p)>0 then w64 ((A.length:Int)+p)else 0)=((((A.length:Int)+p).toNat:Nat):Int):=by rw[QW (by omega) (by omega)];split<;>omega
  rw[P,ZQ (by grind),zI,Cb]
  grind
 ·rw[Ia q,Ba,Oa q,zI]
  grind
theorem ztz{n:NumP}(h:n.ok=true)(hl:n.txt.length<=40000):uG n.txt=some n.val:=by
 obtain⟨sg,D,F,X⟩:=n;unfold NumP.ok at h;simp only[Da]at h;obtain⟨⟨⟨hsg,hD⟩,hFo⟩,hX⟩:=h;have hF:(F.getD []).all digB=true:=by
  cases F with
  |none=>rfl
  |some f=>grind
 have hne:D++dotS F≠[]:=by
  cases F with
  |none=>simp_all
  |some f=>simp[dotS]
 have hpar:((D++dotS F).all fun b=>digB b||b==46)=true:=by
  rw[Ue,IV hD];cases F with
  |none=>rfl
  |some f=>rw[show dotS (some f)=46::f from rfl,Ad,IV (show f.all digB=true from hF)];rfl
 have hlen:sg.length+(D.length+((dotS F).length+(expT X).length))<=40000:=by
  have:(NumP.txt ⟨sg,D,F,X⟩).length=sg.length+(D.length+((dotS F).length+(expT X).length)):=by unfold NumP.txt;simp only[Na]
  omega
 have hFl:(F.getD []).length<=(dotS F).length:=by
  cases F with
  |none=>grind
  |some f=>show f.length<=(46::f).length;grind
 have hhead: ∀c r,D++(dotS F++expT X)=c::r->List.contains [43,45] c=false:=by
  rw[<-Ub];intro c r e;cases hq:D++dotS F with
  |nil=>grind
  |cons d q=>
   rw[hq,Sb]at e;injection e with e1 _;subst e1;rw[hq,Ad,Da,Yc]at hpar;rcases hpar.1 with hd|hd
   ·exact(gW hd).2.2.2.2
   grind
 have hy1: ∃b,geti (NumP.txt ⟨sg,D,F,X⟩) 0=some b/\(((b.toNat:Int)==45)=(sg==[45])):=by
  unfold NumP.txt;show∃b,geti (sg++(D++(dotS F++expT X))) 0=some b/\_;rcases SC hsg with rfl|rfl|rfl
  ·cases hq:D++(dotS F++expT X)with
   |nil=>simp_all
   |cons c r=>
    refine⟨c,rfl,?_⟩;have:=hhead c r hq;refine Ea.2 (fun e=> ?_);have:c=45:=Gf.1 (by grind)
    grind
  ·exact⟨43,rfl,rfl⟩
  ·exact⟨45,rfl,rfl⟩
 obtain⟨y1,hg,hyy⟩:=hy1;have t1:Un (NumP.txt ⟨sg,D,F,X⟩,[43,45])=some (D++(dotS F++expT X)):=by unfold Un;rw[ZQ (show(short ([43,45]:Str)&&Kh [43,45])=true by decide)];exact congrArg some (pV hsg hhead)
 unfold uG;simp only[za,hg,t1,Aa];have hsh:short (D++dotS F)=true:=Fa (by grind);have hasc:Kh (D++dotS F)=true:=zLm hpar;cases X with
 |none=>
  have t2:Wo (D++(dotS F++expT none),[101,69])=some (-1):=by show Wo (D++(dotS F++[]),[101,69])=_;rw[Yb];unfold Wo;rw[ZQ (by simp only[hsh,hasc,Rb,aa];decide)];exact congrArg some (BX _ hpar)
  simp only[t2,Aa,show decide ((-1:Int)>=0)=false from rfl,Ba,zI];rw[show D++(dotS F++expT none)=D++dotS F by show D++(dotS F++[])=_;grind];have:=VX (E:=0) hD hF (by omega) (by omega) (by omega) y1 sg hyy hsh;exact this
 |some ex=>
  obtain⟨e,s,x⟩:=ex;simp only[Da]at hX;obtain⟨⟨⟨he,hs⟩,hxne⟩,hx⟩:=hX;have he':e=101\/e=69:=by rw[Yc,Db,Db]at he;exact he
  have hexl:(expT (some (e,s,x))).length=1+(s.length+x.length):=by show(e::(s++x)).length=_;rw[Ga,Na];omega
  have hass:D++(dotS F++expT (some (e,s,x)))=(D++dotS F)++e::(s++x):=by rw[<-Ub];rfl
  have hasx:Kh ((D++dotS F)++e::(s++x))=true:=by
   refine Iu (fun b hb=> ?_);rcases Rc.1 hb with hb|hb
   ·exact zIQ hasc b hb
   ·rcases Jb.1 hb with hb|hb
    ·subst hb;rcases he' with rfl|rfl<;>decide
    ·rcases Rc.1 hb with hb|hb
     ·rcases SC hs with rfl|rfl|rfl
      ·cases hb
      ·simp_all
      simp_all
     ·have:=Vx (Pb.1 hx b hb);omega
  have hlt:((D++dotS F)++e::(s++x)).length<=40000:=by rw[Na,Ga,Na,Na];omega
  have t2:Wo (D++(dotS F++expT (some (e,s,x))),[101,69])=some ((D++dotS F).length:Int):=by rw[hass];unfold Wo;show need (short ((D++dotS F)++e::(s++x))&&short [101,69]&&Kh ((D++dotS F)++e::(s++x))&&Kh [101,69]) _=_;rw[show short ((D++dotS F)++e::(s++x))=true from Fa (by omega),hasx];exact congrArg some (CX he' (s++x) _ hpar)
  have hdrop:List.drop (D++dotS F).length ((D++dotS F)++e::(s++x))=e::(s++x):=List.drop_left;have hdrop1:List.drop ((D++dotS F).length+1) ((D++dotS F)++e::(s++x))=s++x:=by rw[<-Tf,hdrop];rfl
  have hd0:(D++dotS F).length<=40000:=by rw[Na];omega
  have hw1:w64 (((D++dotS F).length:Int)+1)=(((D++dotS F).length+1:Nat):Int):=by rw[QW (by omega) (by omega)];omega
  simp only[t2,Aa];rw[Fa (show(((D++dotS F).length:Nat):Int)>=0 by omega),Ca,hw1,hass];have hlt2:(D++dotS F).length+1<=((D++dotS F)++e::(s++x)).length:=by rw[Na (bs:=e::(s++x)),Ga];omega
  rw[ZQ (by grind),Cb,hdrop1];have hxh: ∀c r,x=c::r->List.contains [43,45] c=false:=by intro c r e;subst e;rw[Ad,Da]at hx;exact(gW hx.1).2.2.2.2
  have t4:Un (s++x,[43,45])=some x:=by unfold Un;rw[ZQ (show(short ([43,45]:Str)&&Kh [43,45])=true by decide)];exact congrArg some (pV hs hxh)
  have hxl:x.length<=40000:=by omega
  have hml:maxLen=9223372036854775807:=rfl;simp only[t4,Aa];rw[ZQ (Fa (by omega))];have hcap:=gB 1048576 x 0 (Va _);rw[Bn (uX (cap:=1048576) hx (by omega) (by omega) (fun v i hi=> ?_) (fun v=> ?_))]
  ·have hg8: ∃y8,geti ((D++dotS F)++e::(s++x)) (((D++dotS F).length+1:Nat):Int)=some y8/\(((y8.toNat:Int)==45)=(s==[45])):=by
    have hgg: ∀(b:UInt8) (r:Str),s++x=b::r->geti ((D++dotS F)++e::(s++x)) (((D++dotS F).length+1:Nat):Int)=some b:=by
     intro b r e1;unfold geti;have:((D++dotS F)++e::(s++x))[(D++dotS F).length+1]? =some b:=by rw[List.getElem?_append_right (by omega),show(D++dotS F).length+1 - (D++dotS F).length=1 by omega,rf,e1];rfl
     rw[Cb,this,Fa (by omega)];rfl
    rcases SC hs with rfl|rfl|rfl
    ·cases hxx:x with
     |nil=>grind
     |cons c r=>
      refine⟨c,by grind,?_⟩;have:=hxh c r hxx;refine Ea.2 (fun e=> ?_);have h45:c=45:=Gf.1 (by grind)
      grind
    ·grind
    ·grind
   obtain⟨y8,h8,h8'⟩:=hg8;simp only[h8,Aa];rw[h8'];have hj:(bif s==[45]then(some (LX.out ((D++dotS F)++e::(s++x),3,w64 (0 - ((capF 1048576 0 x:Nat):Int)))):Option (LX (Str×Int×Int) (LX (Str×Int) Int)))else some (LX.out ((D++dotS F)++e::(s++x),3,((capF 1048576 0 x:Nat):Int))))
     =some (LX.out ((D++dotS F)++e::(s++x),3,expV (some (e,s,x)))):=by
    unfold expV;simp only;cases s==[45]with
    |true=>rw[Ca,Sa rfl,QW (by omega) (by omega)];simp
    |false=>grind
   have hEb:expV (some (e,s,x))<=1048576/\ -1048576<=expV (some (e,s,x)):=by unfold expV;simp only;split<;>omega
   refine(congrArg (fun o=>Zi (Zi o _) _) hj).trans ?_;simp only[zI];rw[show decide ((((D++dotS F).length:Nat):Int)<=((((D++dotS F)++e::(s++x)).length:Nat):Int))=true from Fa (by omega),ZQ (by rfl)];simp only[zI,Cb,List.take_left];rw[QW (by omega) (by omega)];exact VX (E:=expV (some (e,s,x))) hD hF (by omega) (by omega) (by omega) y1 sg hyy hsh
  ·simp_all
  ·grind
theorem qF{n:Nat}(h:n<256):QN ((n:Nat):Int)=some (UInt8.ofNat n):=by
 unfold QN
 grind
theorem bO(n k:Nat)(a:k<=32):Wh .i32 (n:Int) (k:Int)=((n / 2 ^ k:Nat):Int):=by
 unfold Wh;rw[show(min ((k:Int).toNat) IntKind.i32.bits)=k by show min k 32=k;omega]
 grind
theorem shr6(n:Nat):Wh .i32 (n:Int) 6=((n / 64:Nat):Int):=bO n 6 (by omega)
theorem FU(n:Nat):Wh .i32 (n:Int) 12=((n / 4096:Nat):Int):=bO n 12 (by omega)
theorem EU(n:Nat):Wh .i32 (n:Int) 18=((n / 262144:Nat):Int):=bO n 18 (by omega)
theorem zOy(n:Int):IntKind.u8.wrap n=n%256:=by simp[IntKind.wrap,IntKind.bits,IntKind.signed]
theorem zM6(n:Int):IntKind.u32.wrap n=n%4294967296:=by simp[IntKind.wrap,IntKind.bits,IntKind.signed]
theorem Eo{n:Nat}(h:n<2147483648):w32 (n:Int)=(n:Int):=by show IntKind.i32.wrap _=_;simp only[IntKind.wrap,IntKind.bits,IntKind.signed];simp;omega
theorem PX{n:Nat}(h:n<2147483648):wu32 (n:Int)=(n:Int):=by show IntKind.u32.wrap _=_;rw[zM6];omega
theorem Ww(n:Nat):wu8 (n:Int)=((n%256:Nat):Int):=by show IntKind.u8.wrap (n:Int)=_;rw[zOy];omega
theorem PY(n:Nat):ibOr .u8 128 (Wi .u8 (wu8 (n:Int)) 63)=((128+n%64:Nat):Int):=by
 have: ∀m:Nat,m<256->ibOr .u8 128 (Wi .u8 ((m:Nat):Int) 63)=((128+m%64:Nat):Int):=by decide+kernel
 rw[Ww,this _ (Nat.mod_lt _ (by omega)),show n%256%64=n%64 by omega]
theorem UU{n:Nat}(h:n<32):ibOr .u8 192 (wu8 (n:Int))=((192+n:Nat):Int):=by
 have: ∀m:Nat,m<32->ibOr .u8 192 (wu8 ((m:Nat):Int))=((192+m:Nat):Int):=by decide+kernel
 exact this n h
theorem yH{n:Nat}(h:n<16):ibOr .u8 224 (wu8 (n:Int))=((224+n:Nat):Int):=by
 have: ∀m:Nat,m<16->ibOr .u8 224 (wu8 ((m:Nat):Int))=((224+m:Nat):Int):=by decide+kernel
 exact this n h
theorem kU{n:Nat}(h:n<8):ibOr .u8 240 (wu8 (n:Int))=((240+n:Nat):Int):=by
 have: ∀m:Nat,m<8->ibOr .u8 240 (wu8 ((m:Nat):Int))=((240+m:Nat):Int):=by decide+kernel
 exact this n h
theorem Kj{n m:Nat}(h:n+m<=2000000000):ZB n m 1=true:=by unfold ZB;grind
theorem JU{n:Nat}(o:n≠0)(h:n<16777216){l:Str}(m:l.length<=1000000000):QZ (w32 (n:Int),l)=some (l++Xj n):=by
 have j:ZB l.length 1 1=true:=Kj (by omega);have f:ZB l.length 2 1=true:=Kj (by omega);have d:ZB l.length 3 1=true:=Kj (by omega);have g:ZB l.length 4 1=true:=Kj (by omega);have c:(128+n%64)<256:=by omega
 have a:(128+n / 64%64)<256:=by omega
 have b:(128+n / 4096%64)<256:=by omega
 unfold QZ EM Xj;simp only[Eo (show n<2147483648 by omega),PX (show n<2147483648 by omega),za,shr6,FU,EU,PY,qF c,qF a,qF b,Aa];by_cases e:n<128
 ·rw[Fa (by omega),Ca,Ww,qF (by omega),Aa,ZQ j,Oa (by omega),Sa e,Vf (by omega)]
 ·rw[Ia (by omega),Ba];by_cases i:n<2048
  ·rw[Fa (by omega),Ca,UU (by omega),qF (by omega)];simp only[Aa];rw[ZQ f,Oa (by omega),Oa (by omega),Sa i];rfl
  ·rw[Ia (by omega),Ba];by_cases p:n<55296
   ·rw[Fa (by omega),Ca,zI];simp only[Ca];rw[yH (by omega),qF (by omega)];simp only[Aa];rw[ZQ d,Oa (by omega),Oa (by omega),Oa (by omega),Sa (by omega)];rfl
   ·rw[Ia (by omega),Ba,zI];simp only[LV];by_cases k:57343<n/\n<65536
    ·rw[Fa (by omega),Fa (by omega),Rb,Ca,yH (by omega),qF (by omega)];simp only[Aa];rw[ZQ d,Oa (by omega),Oa (by omega),Oa (by omega),Sa (by omega)];rfl
    ·rw[show(decide ((57343:Int)<(n:Int))&&decide ((n:Int)<=65535))=false by grind,Ba];by_cases q:65535<n/\n<=1114111
     ·rw[Fa (by omega),Fa (by omega),Rb,Ca,kU (by omega),qF (by omega)];simp only[Aa];rw[ZQ g,Oa (by omega),Oa (by omega),Oa (by omega),Oa (by omega)];rfl
     ·rw[show(decide ((n:Int)>65535)&&decide ((n:Int)<=1114111))=false by grind,Ba,ZQ d,Sa (by omega)];rfl
theorem uY{l:Str}(a:l.length<=1000000000):QZ (65533,l)=some (l++Aw):=by have h:=JU (n:=65533) (by omega) (by omega) a;rw[Eo (by omega)]at h;exact h
theorem Kk{s:Str}{c:UInt8}{l:Str}(h:c::l<:+s):l<:+s:=(Oe c l).trans h
theorem Ei{s:Str}{c:UInt8}{l:Str}(d:s.length<=big)(h:c::l<:+s):w64 ((beh s (c::l):Int)+1)=(beh s l:Int):=by
 have b:big=4194304:=rfl;have a:=h.length_le;rw[Ga]at a;have e:beh s (c::l)+1=beh s l:=by unfold beh;rw[Ga];omega
 have:=Wm s l;rw[QW (by omega) (by omega)];omega
theorem Kq(c:UInt8)(l:Str):pk (c::l) 0=(c.toNat:Int):=rfl
theorem Fx(c:UInt8):QN (wu8 ((c.toNat:Nat):Int))=some c:=by rw[Ww,Vf (Gd c),qF (Gd c),Eg]
theorem yB{b:UInt8}(h:Jg b=true):hexN b<16:=Ib h
theorem RV{n d:Nat}(hn:n<16777216)(hd:d<16):ibOr .i64 (VA .i64 (n:Int) 4) (d:Int)=((16*n+d:Nat):Int):=by
 have h1:VA .i64 (n:Int) 4=((16*n:Nat):Int):=by unfold VA;rw[show(2:Int) ^ (min (4:Int).toNat IntKind.i64.bits)=16 from rfl];rw[ZT (by omega) (by omega)];omega
 rw[h1];unfold ibOr;have e:(BitVec.ofInt IntKind.i64.bits ((16*n:Nat):Int) ||| BitVec.ofInt IntKind.i64.bits (d:Int)).toNat=16*n+d:=by
  rw[BitVec.toNat_or,BitVec.toNat_ofInt,BitVec.toNat_ofInt];rw[show((((16*n:Nat):Int)%((2 ^ IntKind.i64.bits:Nat):Int)).toNat)=16*n by show(((16*n:Nat):Int)%18446744073709551616).toNat=_;omega,
   show(((d:Int)%((2 ^ IntKind.i64.bits:Nat):Int)).toNat)=d by show((d:Int)%18446744073709551616).toNat=_;omega]
  have:=Nat.two_pow_add_eq_or_of_lt (i:=4) (b:=d) hd n;rw[show 2 ^ 4*n=16*n from rfl]at this;exact this.symm
 rw[e,ZT (by omega) (by omega)]
theorem jC(b:UInt8):decide (hexI b<0)= !Jg b:=by
 unfold hexI
 grind
theorem zL1: ∀(k n:Nat) (l:Str),Jg (atS l 0)=false->hexes k n l=(n,l)
 |0,_,_,_=>rfl
 |_+1,_,[],_=>rfl
 |k+1,n,c::r,h=>by unfold hexes;rw[Oa (by rw[show Jg c=false from h];decide)]
theorem jX {R:Type} {step:(Int×Int)×ze->Option (LO ((Int×Int)×ze) (Int×ze) R)} {s l:Str} (j:l<:+s)
  (h: ∀(n i:Nat) (q:Str),q<:+s->n<16777216->i<=6->step (((n:Int),(i:Int)),sr s q)=some (bif decide (i<6)&&Jg (atS q 0)then .again ((((16*n+hexN (atS q 0):Nat):Int),((i+1:Nat):Int)),sr s (q.drop 1))else .out ((n:Int),sr s q))):
  xg step ((0,0),sr s l)=some (.out (((hexes 6 0 l).1:Int),sr s (hexes 6 0 l).2)):=by
 refine QA (fun z=> ∃(n i:Nat) (q:Str),z=(((n:Int),(i:Int)),sr s q)/\q<:+s/\i<=6/\n<16 ^ i/\hexes (6 - i) n q=hexes 6 0 l) (fun z=>6 - z.1.2.toNat) _ ?_ ⟨0,0,l,rfl,j,by omega,by decide,rfl⟩;rintro _ ⟨n,i,q,rfl,g,f,k,d⟩;have e:n<16777216:=Dc k (Nat.pow_le_pow_right (by omega) f:16 ^ i<=16 ^ 6);rw[h n i q g e f];rcases Yd i 6 with b|m
 ·rw[Fa b,aa];cases a:Jg (atS q 0)with
  |true=>
   cases q with
   |nil=>exact absurd a (by decide)
   |cons c r=>
    have o:=yB a;refine .inl ⟨_,rfl,⟨16*n+hexN (atS (c::r) 0),i+1,r,rfl,Kk g,by omega,?_,?_⟩,by grind⟩
    ·grind
    ·rw[<-d,show 6 - i=(6 - (i+1))+1 by omega];rw[hexes.eq_def ((6 - (i+1))+1) n (c::r)];simp only;rw[Sa (show Jg c=true from a)];rfl
  |false=> refine .inr (.inl ⟨_,rfl,?_⟩);rw[<-d,zL1 _ _ _ a]
 ·rw[Ia (by omega),Ac];refine .inr (.inl ⟨_,rfl,?_⟩);rw[<-d,show 6 - i=0 by omega];rfl
theorem DJ: ∀(k n:Nat) (l:Str),(hexes k n l).1<16 ^ k*(n+1)
 |0,n,l=>by unfold hexes;omega
 |k+1,n,[]=>by have:0<16 ^ (k+1):=Nat.pow_pos (by omega);unfold hexes;exact Dc (Fe n) (Nat.le_mul_of_pos_left _ this)
 |k+1,n,c::r=>by
  unfold hexes;cases hx:Jg c with
  |true=> rw[Sa rfl];have h1:=DJ k (16*n+hexN c) r;have:=yB hx;refine Dc h1 ?_;rw[Nat.pow_succ,Nat.mul_assoc];exact Nat.mul_le_mul_left _ (by omega)
  |false=> rw[Oa (by decide)];have:0<16 ^ (k+1):=Nat.pow_pos (by omega);exact Dc (Fe n) (Nat.le_mul_of_pos_left _ this)
theorem oJ{s l acc:Str}{c:UInt8}(hs:s.length<=big)(hr:c::l<:+s)(ha:acc.length<=1000000000):
  qg (sr s (c::l),acc)=some (sr s (Zh l).2,acc++(Zh l).1):=by
 have hl:=Kk hr;unfold qg;simp only[Ei hs hr,za,Mh hs hl,Aa,Dq];cases l with
 |nil=> rw[show([]:Str).isEmpty=true from rfl,Ca,uY ha];rfl
 |cons d r=>
  rw[show(d::r).isEmpty=false from rfl,Ba,mH];simp only[Aa,jC];cases hx:Jg (atS (d::r) 0)with
  |false=>
   rw[Ua,Ca,Kq,Fx];simp only[Aa,Ei hs hl];rw[ZQ (Kj (by omega))];have:Zh (d::r)=([d],r):=by show(if Jg d then _ else _)=_;rw[Oa (by rw[show Jg d=false from hx];decide)]
   rw[this]
  |true=>
   rw[Ya,Ba];have he:Zh (d::r)=(Xj (hexes 6 0 (d::r)).1,unsp (hexes 6 0 (d::r)).2):=by show(if Jg d then _ else _)=_;rw[Sa (show Jg d=true from hx)]
   rw[he];rw[Bn (jX (l:=d::r) hl (fun n i q hq hn hi=> ?_))]
   ·have hq:(hexes 6 0 (d::r)).2<:+s:=(Tx 6 0 _).trans hl;have hlt:=DJ 6 0 (d::r);rw[show 16 ^ 6*(0+1)=16777216 from rfl]at hlt;simp only[Mh hs hq,Aa,Pw];have hj:(bif spB (atS (hexes 6 0 (d::r)).2 0)then some (LX.out (((hexes 6 0 (d::r)).1:Int),(⟨s,w64 ((beh s (hexes 6 0 (d::r)).2:Int)+1)⟩:ze),acc))else some (LX.out (((hexes 6 0 (d::r)).1:Int),sr s (hexes 6 0 (d::r)).2,acc)):Option (LX (Int×ze×List UInt8) (ze×List UInt8)))
      =some (LX.out (((hexes 6 0 (d::r)).1:Int),sr s (unsp (hexes 6 0 (d::r)).2),acc)):=by
     cases hh:(hexes 6 0 (d::r)).2 with
     |nil=>rfl
     |cons e t=>
      rw[hh]at hq;rw[show atS (e::t) 0=e from rfl,Ei hs hq];show _=some (LX.out (_,sr s (if spB e then t else e::t),acc))
      grind
    rw[hj,zI];simp only;by_cases h0:(hexes 6 0 (d::r)).1=0
    ·rw[h0,show((((0:Nat):Int))==0)=true from rfl,Ca,zI];simp only[Eo (show 65533<2147483648 by omega),show w32 (65533:Int)=65533 from Eo (n:=65533) (by omega),uY ha,Aa];rfl
    ·rw[show(((hexes 6 0 (d::r)).1:Int)==0)=false by grind,Ba,zI];simp only[JU h0 hlt ha,Aa]
   ·simp only[Mh hs hq,Aa,mH,jC];have hb6:decide ((i:Int)<6)=decide (i<6):=by rw[decide_eq_decide];omega
    rw[hb6];cases decide (i<6)with
    |false=>rfl
    |true=>
     rw[Ca,aa];cases hx2:Jg (atS q 0)with
     |false=>rfl
     |true=>
      cases q with
      |nil=>exact absurd hx2 (by decide)
      |cons e t=>
       have hI:hexI (atS (e::t) 0)=(hexN (atS (e::t) 0):Int):=by unfold hexI;rw[Sa hx2]
       rw[hI,RV hn (yB hx2),Ei hs hq,QW (by omega) (by omega)];rfl
theorem zLI{s r:Str}{k:Nat}(b:s.length<=big)(c:r<:+s)(d:k<=4):ZA ((k:Int),sr s r)=some (escS (r.drop k)&&decide (k<r.length)):=by
 unfold ZA;simp only[za,mr b c (show k<=8 by omega),Aa,fU];rw[show w64 ((k:Int)+1)=((k+1:Nat):Int) by rw[QW (by omega) (by omega)];omega,mr b c (by omega)];unfold escS;rw[Ck,Ck,Nc];cases h:(atS r k==92)with
 |false=>simp_all
 |true=> have a:k<r.length:=XA (by grind);rw[Fa a];simp only[zF,Ca,Aa,aa,Rb];unfold bne;rw[gM]
theorem zLH{l:Str}(h:escS l=true):0<l.length:=by unfold escS at h;rw[Da]at h;exact XA (by grind)
theorem oC{s r:Str}{k:Nat}(hs:s.length<=big)(hr:r<:+s)(hk:k<=4):ZA ((k:Int),sr s r)=some (escS (r.drop k)):=by
 rw[zLI hs hr hk];cases h:escS (r.drop k)with
 |false=>rfl
 |true=> have:=zLH h;rw[jb]at this;rw[Fa (by omega)];rfl
theorem oI{s r:Str}(a:s.length<=big)(b:r<:+s):ZA (0,sr s r)=some (escS r):=oC (k:=0) a b (by omega)
theorem PM{s r:Str}{k:Nat}(a:s.length<=big)(b:r<:+s)(d:k<=2):ZC ((k:Int),sr s r)=some (nmS (r.drop k)):=by
 unfold ZC;have c:w64 ((k:Int)+1)=((k+1:Nat):Int):=by rw[QW (by omega) (by omega)];omega
 simp only[c,za,mr a b (show k<=8 by omega),mr a b (show k+1<=8 by omega),Aa,zMV,oC a b (show k<=4 by omega),oC a b (show k+1<=4 by omega)];unfold nmS;rw[Ck,Ck,Tf];unfold bne;rw[NA,Nc];cases atS r k==45 with
 |true=>
  simp only[Ya,Ba,Df];cases fstB (atS r (k+1))with
  |true=>rfl
  |false=>
   simp only[Ua,zF,Ca,Ba,Aa,NA]
   grind
 |false=> simp only[Ua,Ca];cases fstB (atS r k)<;>cases escS (r.drop k)<;>rfl
theorem zKB(n:Nat):(Xj n).length<=4:=by
 unfold Xj Aw
 grind
theorem Ux(l:Str):(Zh l).1.length<=4:=by
 cases l with
 |nil=>show Aw.length<=4;decide
 |cons c r=>
  show(if Jg c then(Xj (hexes 6 0 (c::r)).1,unsp (hexes 6 0 (c::r)).2)else([c],r)).1.length<=4;split
  ·exact zKB _
  grind
theorem Cz(c:UInt8)(r:Str):ZE (c::r)=if letB c then((c::(ZE r).1),(ZE r).2)
  else if escS (c::r)then((Zh r).1++(ZE (Zh r).2).1,(ZE (Zh r).2).2)
  else([],c::r):=by rw[ZE]
theorem sD:ZE []=([],[]):=by rw[ZE]
theorem zN8(l:Str):(pk l 0 != -1)= !l.isEmpty:=by unfold bne;rw[Dq]
theorem oH{s r:Str}(i:s.length<=big)(k:r<:+s):ZR (sr s r)=some ((ZE r).1,sr s (ZE r).2):=by
 have m:big=4194304:=rfl;unfold ZR;refine RJ (r:=((ZE r).1,sr s (ZE r).2)) ?_;refine QA (fun z=> ∃(q a:Str),z=(sr s q,a)/\q<:+s/\a.length+4*q.length<=4*s.length/\a++(ZE q).1=(ZE r).1/\(ZE q).2=(ZE r).2) (fun z=>s.length - z.1.at_.toNat) _ ?_ ⟨r,[],rfl,k,by grind,rfl,rfl⟩;rintro _ ⟨q,a,rfl,f,j,d,b⟩;simp only[za,Mh i f,Aa,WX];cases q with
 |nil=>
  refine .inr (.inr ⟨_,rfl,?_⟩);rw[sD]at d b
  grind
 |cons c t=>
  have g:=f.length_le;rw[Ga]at g j;rw[show atS (c::t) 0=c from rfl];rw[Cz]at d b;cases e:letB c with
  |true=>
   rw[e,Sa rfl]at d b;refine .inl ⟨(sr s t,a++[c]),?_,⟨t,a++[c],rfl,Kk f,by grind,by grind,b⟩,?_⟩
   ·rw[Ca,Kq,Fx];simp only[Aa];rw[ZQ (Kj (by omega)),Ei i f]
   ·show s.length - beh s t<s.length - beh s (c::t);unfold beh;grind
  |false=>
   rw[e,Oa (by decide)]at d b;rw[Ba,zN8,show(c::t).isEmpty=false from rfl,oI i f];cases h:escS (c::t)with
   |true=>
    rw[h,Sa rfl]at d b;have l:=Ux t;have n:=ZW t;refine .inl ⟨(sr s (Zh t).2,a++(Zh t).1),?_,⟨_,_,rfl,(Qh t).trans (Kk f),by grind,by grind,b⟩,?_⟩
    ·simp only[Ua,zF,Ca,Aa,oJ i f (show a.length<=1000000000 by omega)]
    ·show s.length - beh s (Zh t).2<s.length - beh s (c::t);unfold beh;grind
   |false=> simp_all
theorem Vo(l:Str):(ZE l).2<:+l:=by
 match l with
 |[]=>rw[sD];grind
 |c::r=>
  rw[Cz];split
  ·exact(Vo r).trans (Oe c r)
  ·split
   ·have:=ZW r;exact(Vo (Zh r).2).trans ((Qh r).trans (Oe c r))
   grind
termination_by l.length
decreasing_by
 all_goals grind
def escC(c:UInt8):Str:=bif decide (32<c.toNat)&&decide (c.toNat<127)&& !digB c&& !alB c then [92,c]else 92::(hexS c.toNat++[32])
def pcW(dash:Bool)(k:Nat)(c:UInt8):Str:=bif letB c&&(k==0|| !digB c)&& !dash then [c]else escC c
def encW(dash:Bool):Nat->Str->Str
 |_,[]=>[]
 |k,c::r=>pcW dash k c++encW dash (k - 1) r
def zNu(l:Str):Nat:=if [45].isPrefixOf l then 2 else 1
def Gw(l:Str):Str:=encW (l==[45]) (zNu l) l
end Go.Lv.VT
