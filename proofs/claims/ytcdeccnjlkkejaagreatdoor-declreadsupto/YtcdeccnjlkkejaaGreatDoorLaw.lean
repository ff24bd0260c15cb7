/- The reading of tokens: what the program's text and the reference's come to. -/
import Derived.Test.YtcdeccnjlkkejaaGreatDoorTy
import Derived.Test.YtcdeccnjlkkejaaGreatDoorMo
import Derived.Test.YtcdeccnjlkkejaaGreatDoorTx
set_option linter.unusedSimpArgs false
set_option linter.unusedVariables false
namespace Go.Lv.VT
def atS(l:Str)(n:Nat):UInt8:=l.getD n 0
def digB(b:UInt8):Bool:=decide (48<=b.toNat)&&decide (b.toNat<=57)
def spB(b:UInt8):Bool:=b==10||b==9||b==32
def alB(b:UInt8):Bool:=decide (65<=b.toNat)&&decide (b.toNat<=90)||decide (97<=b.toNat)&&decide (b.toNat<=122)
def fstB(b:UInt8):Bool:=alB b||b==95||decide (128<=b.toNat)
def letB(b:UInt8):Bool:=fstB b||digB b||b==45
def hexN(b:UInt8):Nat:=
 if digB b then b.toNat - 48 else if 97<=b.toNat/\b.toNat<=102 then b.toNat - 87 else if 65<=b.toNat/\b.toNat<=70 then b.toNat - 55 else 16
def Vf(b:UInt8):Bool:=decide (hexN b<16)
def escS(l:Str):Bool:=atS l 0==92&& !(atS l 1==10)
def nmS(l:Str):Bool:=if atS l 0==45 then fstB (atS l 1)||atS l 1==45||escS (l.drop 1)else fstB (atS l 0)||escS l
def di(b:UInt8):Bool:=b==43||b==45
def unsign(l:Str):Str:=if di (atS l 0)then l.drop 1 else l
def undot(l:Str):Str:=if atS l 0==46 then l.drop 1 else l
def nbS(l:Str):Bool:=digB (atS (undot (unsign l)) 0)
def Sl:Str:=[239,191,189]
def wh(n:Nat):Str:=
 if n=0\/(55296<=n/\n<=57343)\/1114111<n then Sl
 else if n<128 then [UInt8.ofNat n]
 else if n<2048 then [UInt8.ofNat (192+n / 64),UInt8.ofNat (128+n%64)]
 else if n<65536 then [UInt8.ofNat (224+n / 4096),UInt8.ofNat (128+n / 64%64),UInt8.ofNat (128+n%64)]
 else [UInt8.ofNat (240+n / 262144),UInt8.ofNat (128+n / 4096%64),UInt8.ofNat (128+n / 64%64),UInt8.ofNat (128+n%64)]
def hexes:Nat->Nat->Str->Nat×Str
 |0,n,l=>(n,l)
 |_+1,n,[]=>(n,[])
 |k+1,n,c::r=>if Vf c then hexes k (16*n+hexN c) r else(n,c::r)
def unsp:Str->Str
 |[]=>[]
 |c::r=>if spB c then r else c::r
def zu:Str->Str×Str
 |[]=>(Sl,[])
 |c::r=>if Vf c then(wh (hexes 6 0 (c::r)).1,unsp (hexes 6 0 (c::r)).2)else([c],r)
theorem Sw: ∀(k n:Nat) (l:Str),(hexes k n l).2<:+l
 |0,n,l=>Re l
 |k+1,n,[]=>Re _
 |k+1,n,c::r=>by
  unfold hexes;split
  ·exact(Sw k _ r).trans (Ae c r)
  grind
theorem wV(l:Str):unsp l<:+l:=by
 cases l with
 |nil=>exact Re _
 |cons c r=>
  show(if spB c then r else c::r)<:+c::r
  grind
theorem Zc(l:Str):(zu l).2<:+l:=by
 cases l with
 |nil=>exact Re _
 |cons c r=>
  show(if Vf c then(wh (hexes 6 0 (c::r)).1,unsp (hexes 6 0 (c::r)).2)else([c],r)).2<:+c::r;split
  ·exact(wV _).trans (Sw 6 0 _)
  grind
theorem zT(l:Str):(zu l).2.length<=l.length:=(Zc l).length_le
def zF:Str->Str×Str
 |[]=>([],[])
 |c::r=>
  if letB c then((c::(zF r).1),(zF r).2)
  else if escS (c::r)then((zu r).1++(zF (zu r).2).1,(zF (zu r).2).2)
  else([],c::r)
termination_by l=>l.length
decreasing_by
 all_goals first|(have:=zT r;simp only[Ea];omega)|(simp only[Ea];omega)
def past(p:UInt8->Bool):Str->Str
 |[]=>[]
 |c::r=>if p c then past p r else c::r
theorem Mm(p:UInt8->Bool): ∀l:Str,past p l<:+l
 |[]=>Re _
 |c::r=>by
  unfold past;split
  ·exact(Mm p r).trans (Ae c r)
  grind
def QD(l:Str):Str×Bool:=
 if atS l 0==46&&digB (atS l 1)then(past digB (l.drop 1),false)else(l,true)
def expS(l:Str):Option Str:=
 if atS l 0==101||atS l 0==69 then(if digB (atS (unsign (l.drop 1)) 0)then some (past digB (unsign (l.drop 1)))else none)else none
def Zb(l:Str):Str×Bool:=
 let x:=QD (past digB (unsign l))
 match expS x.1 with
 |some r=>(r,false)
 |none=>x
def decN(n:Nat)(b:UInt8):Nat:=10*n+(b.toNat - 48)
def upto(l r:Str):Str:=l.take (l.length - r.length)
def zR(m:UInt8):Str->Option Str×Str
 |[]=>(some [],[])
 |c::r=>
  if c==m then(some [],r)
  else if c==10 then(none,c::r)
  else if c==92 then
   (if r.isEmpty then(some [],[])
   else if atS r 0==10 then zR m (r.drop 1)
   else((zR m (zu r).2).1.map ((zu r).1++ ·),(zR m (zu r).2).2))
  else((zR m r).1.map (c:: ·),(zR m r).2)
termination_by l=>l.length
decreasing_by
 all_goals first|(have:=zT r;simp only[Ea];omega)|(simp only[Ea,Oc];omega)
def badS:Str->Str
 |[]=>[]
 |c::r=>if c==41 then r else if escS (c::r)then badS (zu r).2 else badS r
termination_by l=>l.length
decreasing_by
 all_goals first|(have:=zT r;simp only[Ea];omega)|(simp only[Ea];omega)
def unB(b:UInt8):Bool:=decide (b.toNat<=8)||b==11||decide (14<=b.toNat)&&decide (b.toNat<=31)||b==127
def urlS:Str->Option Str×Str
 |[]=>(some [],[])
 |c::r=>
  if c==41 then(some [],r)
  else if spB c then(match past spB r with
   |[]=>(some [],[])
   |d::a=>if d==41 then(some [],a)else(none,badS (d::a)))
  else if c==34||c==39||c==40||unB c||c==92&& !escS (c::r)then(none,badS (c::r))
  else if c==92 then((urlS (zu r).2).1.map ((zu r).1++ ·),(urlS (zu r).2).2)
  else((urlS r).1.map (c:: ·),(urlS r).2)
termination_by l=>l.length
decreasing_by
 all_goals first|(have:=zT r;simp only[Ea];omega)|(simp only[Ea];omega)
def Ih(b:UInt8):Int:=
 if b==58 then 16 else if b==59 then 17 else if b==44 then 18 else if b==91 then 19 else if b==93 then 20 else if b==40 then 21 else if b==41 then 22 else if b==123 then 23 else if b==125 then 24 else 0
def Og(k:Int):zf:=⟨k,[],0,[],false⟩
def uf:Nat:=1000000000000
def Ah:Nat->Nat->Nat
 |0,n=>n
 |k+1,n=>if n=0\/uf<=n then n else Ah k (min uf (10*n))
set_option maxRecDepth 100000
abbrev sc(s:Str)(k:Nat):za:=⟨s,(k:Int)⟩
def pk(l:Str)(n:Nat):Int:=match l[n]? with|some b=>(b.toNat:Int)|none=> -1
def beh(s r:Str):Nat:=s.length - r.length
theorem Zf{n:Int}(a: -9223372036854775808<=n)(h2:n<=9223372036854775807):w64 n=n:=ZT a h2
theorem Ho{s r:Str}(h:r<:+s):s.drop (beh s r)=r:=by obtain⟨t,rfl⟩:=h;unfold beh;simp_all
theorem Yh(s r:Str):beh s r<=s.length:=by unfold beh;omega
theorem nW{s:Str}{k:Nat}(h:k<=s.length):beh s (s.drop k)=k:=by unfold beh;grind
theorem VA{s:Str}{k n:Nat}(c:s.length<=big)(g:k<=s.length)(f:n<=8):zg ((n:Int),sc s k)=some (pk (s.drop k) n):=by
 have d:big=4194304:=rfl;have e:w64 ((k:Int)+(n:Int))=((k+n:Nat):Int):=by rw[Zf (by omega) (by omega)];omega
 unfold zg pk;simp only[e];rw[Df];by_cases h:k+n<s.length
 ·rw[La (by omega),Ca];have b:geti s ((k+n:Nat):Int)=some s[k+n]:=Zt h;have a:=Xc s[k+n];simp only[ze,b,Aa,Ja h];rw[Zf (by omega) (by omega)]
 ·grind
theorem Au{s:Str}{k:Nat}(b:s.length<=big)(a:k<=s.length):zg (0,sc s k)=some (pk (s.drop k) 0):=VA (n:=0) b a (by omega)
theorem gJ{s:Str}{k:Nat}(b:s.length<=big)(a:k<=s.length):zg (1,sc s k)=some (pk (s.drop k) 1):=VA (n:=1) b a (by omega)
theorem zDj{s:Str}{k:Nat}(b:s.length<=big)(a:k<=s.length):zg (2,sc s k)=some (pk (s.drop k) 2):=VA (n:=2) b a (by omega)
theorem Vt{a:Type}{f:Int->Option a}{p:UInt8->a}(h: ∀b:UInt8,f (b.toNat:Int)=some (p b))(c:f (-1)=some (p 0))(l:Str)(n:Nat):f (pk l n)=some (p (atS l n)):=by
 unfold pk atS
 grind
theorem of_n{a:Type}{f:Int->Option a}{p:UInt8->a}(h: ∀n:Nat,n<256->f (n:Int)=some (p (UInt8.ofNat n)))(b:UInt8):f (b.toNat:Int)=some (p b):=by have:=h b.toNat (Xc b);simp_all
theorem Cv(l:Str)(n:Nat):qx (pk l n)=some (spB (atS l n)):=Vt (of_n (by decide+kernel)) (by decide+kernel) l n
theorem Jm(l:Str)(n:Nat):Zx (pk l n)=some (digB (atS l n)):=Vt (of_n (by decide+kernel)) (by decide+kernel) l n
theorem zBF(l:Str)(n:Nat):Lp (pk l n)=some (fstB (atS l n)):=Vt (of_n (by decide+kernel)) (by decide+kernel) l n
theorem AL(l:Str)(n:Nat):Vs (pk l n)=some (letB (atS l n)):=Vt (of_n (by decide+kernel)) (by decide+kernel) l n
def hexI(b:UInt8):Int:=if Vf b then(hexN b:Int)else -1
theorem Dz(l:Str)(n:Nat):Sm (pk l n)=some (hexI (atS l n)):=Vt (of_n (by decide+kernel)) (by decide+kernel) l n
theorem oh(l:Str)(n:Nat)(c:UInt8)(h:c≠0):(pk l n==(c.toNat:Int))=(atS l n==c):=by
 unfold pk atS;rw[Wd];cases l[n]? with
 |none=>
  grind
 |some b=>
  show((b.toNat:Int)==(c.toNat:Int))=(b==c);by_cases e:b=c
  ·grind
  ·have:b.toNat≠c.toNat:=fun h=>e (Ef.1 h)
   grind
theorem fJ(l:Str)(n:Nat):(pk l n==10)=(atS l n==10):=oh l n 10 (by decide)
theorem bT(l:Str)(n:Nat):(pk l n==34)=(atS l n==34):=oh l n 34 (by decide)
theorem zDk(l:Str)(n:Nat):(pk l n==35)=(atS l n==35):=oh l n 35 (by decide)
theorem zDl(l:Str)(n:Nat):(pk l n==37)=(atS l n==37):=oh l n 37 (by decide)
theorem YT(l:Str)(n:Nat):(pk l n==39)=(atS l n==39):=oh l n 39 (by decide)
theorem zDm(l:Str)(n:Nat):(pk l n==40)=(atS l n==40):=oh l n 40 (by decide)
theorem dJ(l:Str)(n:Nat):(pk l n==41)=(atS l n==41):=oh l n 41 (by decide)
theorem bJ(l:Str)(n:Nat):(pk l n==43)=(atS l n==43):=oh l n 43 (by decide)
theorem yt(l:Str)(n:Nat):(pk l n==45)=(atS l n==45):=oh l n 45 (by decide)
theorem aJ(l:Str)(n:Nat):(pk l n==46)=(atS l n==46):=oh l n 46 (by decide)
theorem zDn(l:Str)(n:Nat):(pk l n==64)=(atS l n==64):=oh l n 64 (by decide)
theorem zDo(l:Str)(n:Nat):(pk l n==69)=(atS l n==69):=oh l n 69 (by decide)
theorem XT(l:Str)(n:Nat):(pk l n==92)=(atS l n==92):=oh l n 92 (by decide)
theorem zCo(l:Str)(n:Nat):(pk l n==101)=(atS l n==101):=oh l n 101 (by decide)
theorem Kn(l:Str):(pk l 0== -1)=l.isEmpty:=by
 cases l with
 |nil=>rfl
 |cons b r=>
  show((b.toNat:Int)== -1)=false
  grind
theorem Aj(l:Str)(k n:Nat):atS (l.drop k) n=atS l (k+n):=by
 unfold atS
 grind
theorem CL {R:Type} {step:za->Option (LO za za R)} {s:Str} (p:UInt8->Bool) (h0:p 0=false)
  (h: ∀k,k<=s.length->step (sc s k)=some (bif p (atS (s.drop k) 0)then .again (sc s (k+1))else .out (sc s k))) {k:Nat} (hk:k<=s.length):
  Vg step (sc s k)=some (.out (sc s (beh s (past p (s.drop k))))):=by
 refine ZK (fun z=> ∃j,z=sc s j/\j<=s.length/\past p (s.drop j)=past p (s.drop k)) (fun z=>s.length - z.at_.toNat) _ ?_ ⟨k,rfl,hk,rfl⟩;rintro _ ⟨j,rfl,hj,he⟩;rw[h j hj];cases hd:s.drop j with
 |nil=>
  rw[show atS ([]:Str) 0=0 from rfl,h0,Ba];refine .inr (.inl ⟨_,rfl,?_⟩);rw[<-he,hd];have:j=s.length:=by have:=De.1 hd;omega
  subst this;show LX.out (sc s (beh s []))=_;unfold beh;rw[Db,Nat.sub_zero]
 |cons c r=>
  have hlt:j<s.length:=by
   rcases Gc j s.length with h'|h'
   ·exact h'
   ·grind
  have hr:s.drop (j+1)=r:=by have:=Pb hlt;rw[hd]at this;injection this with _ h2;exact h2.symm
  rw[show atS (c::r) 0=c from rfl];cases hp:p c with
  |true=> refine .inl ⟨_,rfl,⟨j+1,rfl,by omega,?_⟩,by grind⟩;rw[hr,<-he,hd,past,hp];rfl
  |false=> refine .inr (.inl ⟨_,rfl,?_⟩);rw[<-he,hd,past,hp,Ka (by decide),<-hd,nW hj]
theorem bK{s:Str}{k:Nat}(b:s.length<=big)(a:k<=s.length):w64 ((k:Int)+1)=((k+1:Nat):Int):=by have c:big=4194304:=rfl;rw[Zf (by omega) (by omega)];omega
theorem rV{s:Str}{k:Nat}(a:s.length<=big)(c:k<=s.length):zV (sc s k)=some (sc s (beh s (past spB (s.drop k)))):=by
 unfold zV;rw[qA (CL spB rfl (fun j b=> ?_) c)];simp only[ze,Au a b,Aa,Cv,bK a b]
 grind
theorem CW{s:Str}{k:Nat}(a:s.length<=big)(c:k<=s.length):zQ (sc s k)=some (sc s (beh s (past digB (s.drop k)))):=by
 unfold zQ;rw[qA (CL digB rfl (fun j b=> ?_) c)];simp only[ze,Au a b,Aa,Jm,bK a b]
 grind
theorem number_eq{s:Str}{k:Nat}(a:s.length<=big)(c:k<=s.length):Zy (sc s k)=some (nbS (s.drop k)):=by
 unfold Zy nbS unsign undot di;simp only[ze,Au a c,Aa,bJ,yt];have d: ∀(b:Bool),(zS (X:=Int) (bif b then some (LX.out 1)else some (LX.out 0)) fun e=>
   zS (X:=Int) ((zg (e,sc s k)).bind fun f=>bif f==46 then some (LX.out (w64 (e+1)))else some (LX.out e)) fun g=>
   (zg (g,sc s k)).bind fun i=>(Zx i).bind fun j=>some j)=some (digB (atS (if atS (if b then(s.drop k).drop 1 else s.drop k) 0==46 then(if b then(s.drop k).drop 1 else s.drop k).drop 1 else(if b then(s.drop k).drop 1 else s.drop k)) 0)):=by
  intro b;cases b with
  |false=>
   simp only[Ba,zh,Au a c,Aa,aJ,Xd,Cf];cases h:atS (s.drop k) 0==46 with
   |false=>simp only[Ba,zh,Au a c,Aa,Jm,Xd,Cf]
   |true=> simp only[Ca,zh,Od];rw[show w64 (0+1)=1 from rfl,gJ a c];simp only[Aa,Jm];rw[Aj (s.drop k) 1 0]
  |true=>
   simp only[Ca,zh,gJ a c,Aa,aJ,Od];rw[Aj (s.drop k) 1 0];cases h:atS (s.drop k) (1+0)==46 with
   |false=> simp only[Hd]at h;simp only[h,Ba,zh,gJ a c,Aa,Jm,Xd,Cf];rw[Aj (s.drop k) 1 0]
   |true=> simp only[Hd]at h;simp only[h,Ca,zh,Od];rw[show w64 (1+1)=2 from rfl,zDj a c];simp only[Aa,Jm];rw[Jf,Aj (s.drop k) (1+1) 0]
 have:=d (atS (s.drop k) 0==43||atS (s.drop k) 0==45)
 grind
abbrev sr(s r:Str):za:=sc s (beh s r)
theorem sr_0(s:Str):(⟨s,0⟩:za)=sr s s:=by show sc s 0=sc s (beh s s);unfold beh;rw[Nat.sub_self]
theorem dm{s r:Str}{n:Nat}(b:s.length<=big)(c:r<:+s)(a:n<=8):zg ((n:Int),sr s r)=some (pk r n):=by rw[VA b (Yh s r) a,Ho c]
theorem ag{s r:Str}(a:s.length<=big)(b:r<:+s):zg (0,sr s r)=some (pk r 0):=dm (n:=0) a b (by omega)
theorem au{s r:Str}(a:s.length<=big)(b:r<:+s):zg (1,sr s r)=some (pk r 1):=dm (n:=1) a b (by omega)
theorem zCn{s r:Str}(a:s.length<=big)(b:r<:+s):zg (2,sr s r)=some (pk r 2):=dm (n:=2) a b (by omega)
theorem Wz{s r:Str}(a:s.length<=big)(b:r<:+s):zV (sr s r)=some (sr s (past spB r)):=by rw[rV a (Yh s r),Ho b]
theorem pz{s r:Str}(a:s.length<=big)(b:r<:+s):zQ (sr s r)=some (sr s (past digB r)):=by rw[CW a (Yh s r),Ho b]
theorem zBn{s r:Str}(a:s.length<=big)(b:r<:+s):Zy (sr s r)=some (nbS r):=by rw[number_eq a (Yh s r),Ho b]
theorem KF{s r:Str}{n:Nat}(a:r<:+s)(b:n<=r.length):beh s r+n=beh s (r.drop n):=by
 have:=a.length_le;unfold beh
 grind
theorem xy{s r:Str}{n:Nat}(c:s.length<=big)(a:r<:+s)(b:n<=r.length):(⟨s,w64 ((beh s r:Int)+(n:Int))⟩:za)=sr s (r.drop n):=by have d:big=4194304:=rfl;have:=Yh s r;have e:=a.length_le;rw[Zf (by omega) (by omega),show(beh s r:Int)+(n:Int)=((beh s r+n:Nat):Int) by omega,KF a b]
theorem Lu{l:Str}{n:Nat}(h:atS l n≠0):n<l.length:=by
 rcases Gc n l.length with a|a
 ·exact a
 ·exact absurd (by unfold atS;grind) h
theorem Yt{s r:Str}(a:s.length<=big)(b:r<:+s)(h:atS r 0≠0):(⟨s,w64 ((beh s r:Int)+1)⟩:za)=sr s (r.drop 1):=xy (n:=1) a b (Lu h)
theorem Oj{s r:Str}(a:r<:+s)(n:Nat):r.drop n<:+s:=(We n r).trans a
theorem Nj{s r:Str}(p:UInt8->Bool)(a:r<:+s):past p r<:+s:=(Mm p r).trans a
theorem Gs{s r:Str}(a:r<:+s):unsign r<:+s:=by
 unfold unsign;split
 ·exact Oj a 1
 ·exact a
theorem aK{b:UInt8}(h:di b=true):b≠0:=by rintro rfl;revert h;decide
theorem Tp(a b:Bool):(bif a then true else b)=(a||b):=by cases a<;>rfl
theorem iU(a b:Bool):(bif a then b else false)=(a&&b):=by cases a<;>rfl
theorem NG{s r:Str}(a:r<:+s):(QD r).1<:+s:=by
 unfold QD;split
 ·exact Nj _ (Oj a 1)
 ·exact a
theorem zAX{s r q:Str}(a:r<:+s)(h:expS r=some q):q<:+s:=by
 unfold expS at h;split at h
 ·split at h
  ·cases h;exact Nj _ (Gs (Oj a 1))
  ·cases h
 ·cases h
theorem OO{s r:Str}(b:r<:+s):(Zb r).1<:+s:=by
 unfold Zb;have a:=NG (Nj digB (Gs b));simp only;cases h:expS (QD (past digB (unsign r))).1 with
 |some q=>exact zAX a h
 |none=>exact a
theorem EX{s l:Str}(hs:s.length<=big)(hl:l<:+s):qh (sr s l)=some ((Zb l).2,sr s (Zb l).1):=by
 unfold qh;simp only[ze,ag hs hl,Aa,bJ,yt,Tp];have e1:(bif (atS l 0==43||atS l 0==45)then some (LX.out (⟨s,w64 ((beh s l:Int)+1)⟩:za))else some (LX.out (sr s l)))=(some (LX.out (sr s (unsign l))):Option (LX za (Bool×za))):=by
  unfold unsign;cases h:di (atS l 0)with
  |true=> have h':(atS l 0==43||atS l 0==45)=true:=h;rw[h',Ca,Na rfl,Yt hs hl (aK h)]
  |false=>
   have h':(atS l 0==43||atS l 0==45)=false:=h
   grind
 rw[e1,zh];have hu:=Gs hl;rw[pz hs hu];simp only[Aa];have hp:=Nj digB hu;unfold Zb;generalize past digB (unsign l)=q at hp ⊢;have e2:zS (X:=Bool×za) (R:=Bool×za) ((zg (0,sr s q)).bind fun y4=>
   (zn (y4==46) (zg (1,sr s q)) (default:Int)).bind fun y5=>
   (zn (y4==46) (Zx y5) (default:Bool)).bind fun y6=>
   bif bif y4==46 then y6 else false then(zQ (⟨s,w64 ((beh s q:Int)+1)⟩:za)).bind fun y7=>some (LX.out (false,y7))else some (LX.out (true,sr s q)))=zS (some (LX.out ((QD q).2,sr s (QD q).1))):=by
  congr 1;unfold QD;simp only[ag hs hp,au hs hp,Aa,aJ];cases h:atS q 0==46 with
  |false=>simp_all
  |true=>
   simp only[zo,Aa,Ca,Jm,Ob];cases h2:digB (atS q 1)with
   |false=>grind
   |true=> rw[Ca,Na rfl,Yt hs hp (by grind),pz hs (Oj hp 1)];rfl
 rw[e2,zh];have hw:=NG hp;generalize QD q=W at hw ⊢;obtain⟨w,i⟩:=W;simp only at hw ⊢;have e3:((zg (0,sr s w)).bind fun y9=>
   (zn (!(y9==101)) (zg (0,sr s w)) (default:Int)).bind fun y10=>
   bif bif y9==101 then true else y10==69 then
    zS (X:=(Bool×Int)×za) ((zg (1,sr s w)).bind fun y11=>bif bif y11==43 then true else y11==45 then some (LX.out ((i,2),sr s w))else some (LX.out ((i,1),sr s w))) fun j12=>
    (zg (j12.1.2,j12.2)).bind fun y13=>(Zx y13).bind fun y14=>
    bif y14 then(zQ (⟨j12.2.s,w64 (j12.2.at_+j12.1.2)⟩:za)).bind fun y15=>some (LX.out (false,y15))else some (LX.out (j12.1.1,j12.2))
   else some (LX.out (i,sr s w)))=(some (LX.out (match expS w with|some r=>(false,sr s r)|none=>(i,sr s w))):Option (LX (Bool×za) (Bool×za))):=by
  simp only[ag hs hw,Aa,zCo];have e4:((zn (!(atS w 0==101)) (some (pk w 0)) (default:Int)).bind fun y10=>(some (bif atS w 0==101 then true else y10==69):Option Bool))=some (atS w 0==101||atS w 0==69):=by
   cases h:atS w 0==101 with
   |true=>rfl
   |false=>simp only[Ta,zo,Aa,Ba,zDo,Ve]
  have e5: ∀(f:Bool->Option (LX (Bool×za) (Bool×za))),((zn (!(atS w 0==101)) (some (pk w 0)) (default:Int)).bind fun y10=>f (bif atS w 0==101 then true else y10==69))=f (atS w 0==101||atS w 0==69):=by intro f;have:=congrArg (fun o=>Option.bind o f) e4;simpa [Option.bind_assoc] using this
  refine(e5 (fun b=>bif b then _ else _)).trans ?_;unfold expS;cases h:(atS w 0==101||atS w 0==69)with
  |false=>rfl
  |true=>
   have hne:atS w 0≠0:=by intro e;rw[e]at h;revert h;decide
   simp only[Ca,Od,au hs hw,Aa,bJ,yt,Tp];unfold unsign;have hd:atS (w.drop 1) 0=atS w 1:=by rw[Aj w 1 0]
   rw[hd];cases hg:(atS w 1==43||atS w 1==45)with
   |true=>
    have hg':di (atS w 1)=true:=hg;have hl2:=Lu (aK hg');simp only[Ca,zh,zCn hs hw,Aa,Jm,hg',Od,Jf];rw[show atS (w.drop (1+1)) 0=atS w 2 by rw[Aj w 2 0]];cases hq:digB (atS w 2)with
    |false=>rfl
    |true=> rw[Ca,Na rfl,show(2:Int)=((2:Nat):Int)from rfl,xy hs hw (by omega),pz hs (Oj hw 2)];rfl
   |false=>
    have hg':di (atS w 1)=false:=hg;simp only[Ba,zh,au hs hw,Aa,Jm,hg',Xd,Cf];rw[hd];cases hq:digB (atS w 1)with
    |false=>rfl
    |true=> rw[Ca,Na rfl,Yt hs hw hne,pz hs (Oj hw 1)];rfl
 refine(congrArg (fun o=>zS o _) e3).trans ?_;rw[zh];cases expS w<;>rfl
def valG(n:Nat)(l:Str):Nat:=l.foldl decN n
theorem NL: ∀(q t:Str),q.all digB=true->past digB (q++t)=past digB t
 |[],t,_=>rfl
 |c::q,t,h=>by rw[Ue,Fa]at h;rw[Tc,past,Na h.1,NL q t h.2]
def d48(k:Nat):UInt8:=UInt8.ofNat (48+k)
def DU(r:Nat):Str:=Lib.trimRightB [d48 (r / 100),d48 (r / 10%10),d48 (r%10)] 48
def zDy(r:Nat)(p:Bool):Str:=bif (DU r).isEmpty then(bif p then [46,48]else [])else 46::DU r
def zCY(m:Nat)(p:Bool):Str:=Lib.decDigits (m / 1000)++zDy (m%1000) p
def numT(n:Int)(p:Bool):Str:=(if n<0 then [45]else [])++zCY n.natAbs p
theorem zCW{n m b:Nat}(h:n+m<=100000)(a:b<=100):Zo n m b=true:=by unfold Zo;refine La ?_;have:=Nat.mul_le_mul h a;omega
def Cm(n:Nat):Nat:=if 65<=n/\n<=90 then n+32 else n
def Al(b:UInt8):UInt8:=UInt8.ofNat (Cm b.toNat)
theorem LW{n:Nat}(h:n<256):Cm n<256:=by unfold Cm;split<;>omega
theorem OZ(b:UInt8):(Al b).toNat=Cm b.toNat:=by unfold Al;rw[UInt8.toNat_ofNat'];exact Mf (LW (Xc b))
theorem VX: ∀n:Nat,n<256->Qq (n:Int)=some ((Cm n:Nat):Int):=by decide+kernel
theorem zCg: ∀n:Nat,n<256->(bif decide (65<=(n:Int))then decide ((n:Int)<=90)else false)=true->Z0 (ibOr IntKind.u8 (n:Int) 32)=some (UInt8.ofNat (Cm n)):=by decide+kernel
def lowS(l:Str):Str:=l.map Al
theorem uF{α:Type}{l:List α}{i:Nat}(h:i<l.length)(f:α->α):((l.take i).map f++l.drop i).set i (f l[i])=(l.take (i+1)).map f++l.drop (i+1):=by
 apply List.ext_getElem
 ·simp;omega
 grind
theorem TK{α:Type}{l:List α}{i:Nat}(h:i<l.length)(f:α->α):((l.take i).map f++l.drop i)[i]? =some l[i]:=by
 grind
theorem NF{α:Type}{l:List α}{i:Nat}(h:i<=l.length)(f:α->α):((l.take i).map f++l.drop i).length=l.length:=by simp;omega
theorem BV{α:Type}{l:List α}{i:Nat}(h:i<l.length)(f:α->α)(e:f l[i]=l[i]):(l.take i).map f++l.drop i=(l.take (i+1)).map f++l.drop (i+1):=by
 rw[<-uF h f,e];apply dh
 grind
theorem CE(i:Nat):decide ((0:Int)<=(i:Int))=true:=La (by omega)
theorem wB{l:Str}(h:l.length<=big):ZP l=some (lowS l):=by
 unfold ZP;rw[zC (La (by unfold big at h;unfold maxLen;omega))];have d: ∀(k i:Nat),i+k=l.length-> ∃n,qm (X:=List UInt8) (R:=Str) (fun(a:Int×List UInt8)=>
   bif decide (a.1<(a.2.length:Int))then
    need (decide (0<=a.1)&&decide (a.1<(a.2.length:Int)))<|
    ze a.2[a.1.toNat]? fun f=>
    ze (Qq (f.toNat:Int)) fun g=>
    need (decide (0<=a.1)&&decide (a.1<(a.2.length:Int)))<|
    ze a.2[a.1.toNat]? fun p=>
    ze (Z0 g) fun m=>
    some (LO.again (w64 (a.1+1),List.set a.2 a.1.toNat m))
   else
    some (LO.out a.2)) n ((i:Int),(l.take i).map Al++l.drop i)=some (.out (lowS l)):=by
  intro k
  induction k with
  |zero=>
   intro i e;have e:i=l.length:=by omega
   subst e;refine⟨1,?_⟩;simp only[qm,NF (ma _),ah,Ba];simp[lowS]
  |succ k o=>
   intro i e;have b:i<l.length:=by omega
   obtain⟨n,c⟩:=o (i+1) (by omega);refine⟨n+1,?_⟩;have j:=Xc l[i];simp only[qm,NF (Nat.le_of_lt b),ZH b,Ca,CE,Mc,Zu,Xa,TK b,ze,Aa,VX _ j];rw[<-OZ,ztI,Za b h];simp only[Aa,uF b];exact c
 obtain⟨n,c⟩:=d l.length 0 (by omega);replace c:=Lj c;simp only[bf,Ic,Ad,Ye]at c;exact(Qd c).trans rfl
theorem WC{l:Str}(h:l.length<=big):qK l=some (lowS l):=by
 unfold qK;rw[zC (La (by unfold big at h;unfold maxLen;omega))];have d: ∀(k i:Nat),i+k=l.length-> ∃n,qm (X:=List UInt8) (R:=Str) (fun(a:Int×List UInt8)=>
   bif decide (a.1<(l.length:Int))then
    zS (X:=Int×List UInt8) (
      need (decide (0<=a.1)&&decide (a.1<(a.2.length:Int)))<|
      ze a.2[a.1.toNat]? fun j=>
      bif bif decide (65<=(j.toNat:Int))then decide ((j.toNat:Int)<=90)else false then
       need (decide (0<=a.1)&&decide (a.1<(a.2.length:Int)))<|
       ze a.2[a.1.toNat]? fun o=>
       need (decide (0<=a.1)&&decide (a.1<(a.2.length:Int)))<|
       ze a.2[a.1.toNat]? fun t=>
       ze (Z0 (ibOr IntKind.u8 (o.toNat:Int) 32)) fun q=>
       some (LX.out (a.1,List.set a.2 a.1.toNat q))
      else
       some (LX.out (a.1,a.2))) fun m=>
    some (LO.again (w64 (m.1+1),m.2))
   else
    some (LO.out a.2)) n ((i:Int),(l.take i).map Al++l.drop i)=some (.out (lowS l)):=by
  intro k
  induction k with
  |zero=>
   intro i f;have f:i=l.length:=by omega
   subst f;refine⟨1,?_⟩;simp only[qm,ah,Ba];simp[lowS]
  |succ k r=>
   intro i f;have b:i<l.length:=by omega
   obtain⟨n,c⟩:=r (i+1) (by omega);refine⟨n+1,?_⟩;have p:=Xc l[i];simp only[qm,NF (Nat.le_of_lt b),ZH b,Ca,CE,Mc,Zu,Xa,TK b,ze,Aa];cases g:(bif decide (65<=(l[i].toNat:Int))then decide ((l[i].toNat:Int)<=90)else false)with
   |true=> have e:=zCg _ p g;simp only[e,Ca,Aa,zh,Za b h];rw[show UInt8.ofNat (Cm l[i].toNat)=Al l[i]from rfl,uF b];exact c
   |false=>
    have e:Al l[i]=l[i]:=by unfold Al Cm;rw[Ka,af];rintro⟨s,u⟩;rw[La (by omega),Ca,La (by omega)]at g;cases g
    simp only[Ba,zh,Za b h];rw[BV b Al e];exact c
 obtain⟨n,c⟩:=d l.length 0 (by omega);replace c:=Lj c;simp only[bf,Ic,Ad,Ye]at c;exact(Qd c).trans rfl
def QE(l:Str):Bool:=l.all fun b=> !(b==0)
theorem xE(c:UInt8): ∀l:Str,decide (Lib.indexByte l c>=0)=l.any fun b=>b==c
 |[]=>rfl
 |b::l=>by
  have d:=xE c l;have a:=Lib.indexByte_ge l c;rw[List.any_cons,Lib.indexByte]
  grind
theorem zBm(l:Str):(l.any fun b=>b==0)= !QE l:=by
 unfold QE
 grind
theorem nI(l:Str)(n:Int):strings_IndexByte (l,n)=some (Lib.indexByte l n.toNat.toUInt8):=rfl
theorem iK(l:Str):decide (Lib.indexByte l (0:Int).toNat.toUInt8>=0)= !QE l:=(xE 0 l).trans (zBm l)
theorem VE(n m:Nat):decide ((n:Int)>(m:Int))= !decide (n<=m):=by
 grind
theorem byte_zero(b:UInt8):((b.toNat:Int)==0)=(b==0):=by
 by_cases h:b=0
 ·subst h;rfl
 ·have a:b.toNat≠0:=fun e=>h (Ef.1 e)
  grind
theorem oN(a b:Str):(a==b)=(b==a):=by
 grind
theorem tL{f:Option Int}{p:Bool}{i:Int}(h:f=some i)(a:decide (i>=0)=p):(ze f fun y=>some (decide (y>=0)))=some p:=by
 grind
theorem Ep(l m:Str):strings_HasPrefix (l,m)=some (m.isPrefixOf l):=by
 have a: ∀m l:Str,m.isPrefixOf l=(decide (m.length<=l.length)&&l.take m.length==m):=by
  intro m l;rw[Bool.eq_iff_iff];simp only[pg,Fa,Ac,Uc];constructor
  ·rintro⟨t,rfl⟩
   grind
  ·grind
 unfold strings_HasPrefix stringslite_HasPrefix;simp_all
theorem F7(l m:Str):strings_TrimPrefix (l,m)=some (bif m.isPrefixOf l then l.drop m.length else l):=by
 have h:stringslite_HasPrefix (l,m)=some (m.isPrefixOf l):=by
  have:=Ep l m;unfold strings_HasPrefix at this;cases hh:stringslite_HasPrefix (l,m)with
  |none=>grind
  |some b=>grind
 unfold strings_TrimPrefix stringslite_TrimPrefix;simp only[h,ze,Aa];cases hp:m.isPrefixOf l with
 |false=>rfl
 |true=> have hl:=(pg.1 hp).length_le;simp_all
theorem TH{a b:Str}(c:a.length<=big)(h2:b.length<=big):Qk (a,b)=some (lowS a==lowS b):=by unfold Qk;simp only[WC c,WC h2,ze,Aa]
theorem eG{a b:Str}(c:a.length<=big)(h2:b.length<=big):Z5 (a,b)=some (lowS a==lowS b):=by unfold Z5;simp only[wB c,wB h2,ze,Aa]
def yl(n:Nat):Bool:=
 !(n==0||n==9||n==10||n==12||n==13||n==32||n==34||n==39||n==40||n==41||n==44||n==58||n==59||n==91||n==93||n==95||n==123||n==125)&&
  (decide (n<128)&& !((decide (48<=n)&&decide (n<=57))||(decide (65<=n)&&decide (n<=90))||(decide (97<=n)&&decide (n<=122))))
set_option maxRecDepth 100000 in
theorem zAS: ∀n:Nat,n<256->iI 40 (n:Int)=some (yl n):=by decide+kernel
def aA:Prop:= ∀b:UInt8,qN (b.toNat:Int)=some (yl b.toNat)
theorem Y9:aA:=fun b=>
 J9 40 _ _ (zAS _ (Xc b))
def digN(n:Nat):Bool:=decide (48<=n)&&decide (n<=57)
theorem Y0: ∀n:Nat,n<256->zH (n:Int)=some (digN n):=by decide+kernel
theorem RN(b:UInt8):zH (b.toNat:Int)=some (digN b.toNat):=(Y0 _ (Xc b))
theorem F6: ∀n:Nat,n<256->Wm (n:Int)=some (digN n):=by decide+kernel
theorem l7(b:UInt8):Wm (b.toNat:Int)=some (digN b.toNat):=(F6 _ (Xc b))
def namN(n:Nat):Bool:=digN n||(decide (65<=n)&&decide (n<=90))||(decide (97<=n)&&decide (n<=122))||n==95||n==45||decide (128<=n)
theorem Y5: ∀n:Nat,n<256->sw (n:Int)=some (namN n):=by decide+kernel
theorem Y7(b:UInt8):sw (b.toNat:Int)=some (namN b.toNat):=(Y5 _ (Xc b))
def ek:Str->Bool
 |[]=>false
 |b::r=>digN b.toNat||(b==45&&(r==[]||digN (r.headD 0).toNat))
theorem qC(b c:UInt8):((b.toNat:Int)==(c.toNat:Int))=(b==c):=by
 by_cases h:b=c
 ·subst h;simp
 ·have a:b.toNat≠c.toNat:=fun e=>h (Ef.1 e)
  grind
theorem zAM(b:UInt8):((b.toNat:Int)==45)=(b==45):=qC b 45
theorem E9(l:Str):Gx l=some (ek l):=by
 unfold Gx;cases l with
 |nil=>rfl
 |cons b r=>
  have f:geti (b::r) 0=some b:=rfl;have g:(b::r==([]:Str))=false:=rfl;simp only[g,Ba,f,ze,Aa,RN,ZU,zAM];cases r with
  |nil=>
   have e:(([b]:Str)==[45])=(b==45):=by show((b==45)&&true)=_;rw[Mc]
   simp only[e];unfold ek;cases c:(b==45)with
   |false=>cases h:digN b.toNat<;>simp[c,zn,h]
   |true=>simp_all
  |cons d r=>
   have a:geti (b::d::r) 1=some d:=rfl;have e:((b::d::r:Str)==[45])=false:=by show((b==45)&&false)=_;rw[Md]
   simp only[a,e,ZU,Aa,RN,ek,List.headD_cons]
   grind
def numS:Str->Bool
 |[]=>false
 |b::r=>bif b==45 then !(r==[])&&digN (r.headD 0).toNat else digN b.toNat
theorem zlI(l:Str):Fy l=some (numS l):=by
 unfold Fy;simp only[F7,ze,Aa];have a: ∀m:Str,((zn (!(m==[])) (geti m 0) 0).bind fun c=>(zn (!(m==[])) (Wm (c.toNat:Int)) (default:Bool)).bind fun d=>some (bif !(m==[])then d else false))=some (!(m==[])&&digN (m.headD 0).toNat):=by
  intro m;cases m with
  |nil=>rfl
  |cons b r=> have f:geti (b::r) 0=some b:=rfl;have g:(b::r==([]:Str))=false:=rfl;simp only[g,Ta,zo,f,Aa,l7,Ca,List.headD_cons,Ob]
 rw[a];cases l with
 |nil=>rfl
 |cons b r=>
  have e:List.isPrefixOf [45] (b::r)=(b==45):=by
   show((45==b)&&true)=_;rw[Mc];cases h:(b==45)with
   |true=>grind
   |false=>grind
  rw[e];show _=some (bif b==45 then !(r==[])&&digN (r.headD 0).toNat else digN b.toNat)
  grind
theorem uU(l:Str):((numS l&& !(List.isPrefixOf [45,45] l))||l==[45])=ek l:=by
 cases l with
 |nil=>rfl
 |cons b r=>
  cases a:(b==45)with
  |false=>
   have e:List.isPrefixOf [45,45] (b::r)=false:=by show((45==b)&&_)=_;rw[Ia]at a;rw[Ia.2 (Ne.symm a)];rfl
   have c:((b::r:Str)==[45])=false:=by show((b==45)&&_)=_;rw[a];rfl
   rw[e,c];unfold numS ek;simp[a]
  |true=>
   rw[Uc]at a;subst a;cases r with
   |nil=>rfl
   |cons d r=>
    have c:((45::d::r:Str)==[45])=false:=rfl;rw[c];unfold numS ek;have e:List.isPrefixOf [45,45] (45::d::r)=(45==d):=by show((45==(45:UInt8))&&((45==d)&&true))=_;rw[Mc];rfl
    rw[e];simp only[List.headD_cons];have f:digN 45=false:=by decide
    cases h:(45==d)with
    |false=>simp[f]
    |true=>rw[Uc]at h;subst h;rfl
def delS(l:Str):Bool:=match l with
 |[b]=>yl b.toNat
 |_=>false
def rngS(x:zf):Bool:=decide (-1000000000000<=x.num)&&(decide (x.num<=1000000000000)&&(!x.flag||Int.tmod x.num 1000==0))
def Mq(x:zf):Bool:=
 bif x.kind==1||x.kind==2||x.kind==3 then !(x.text==[])&&(QE x.text&&(x.num==0&&(x.unit==[]&& !x.flag)))
 else bif x.kind==4 then !(x.text==[])&&(QE x.text&&((x.flag||ek x.text)&&(x.num==0&&x.unit==[])))
 else bif x.kind==5||x.kind==7 then QE x.text&&(x.num==0&&(x.unit==[]&& !x.flag))
 else bif x.kind==9 then delS x.text&&(x.num==0&&(x.unit==[]&& !x.flag))
 else bif x.kind==10||x.kind==11||x.kind==12 then rngS x&&((!(x.unit==[])==(x.kind==12))&&(QE x.unit&&((!(x.kind==11)|| !x.flag)&&x.text==[])))
 else(decide (13<=x.kind)&&decide (x.kind<=24))&&(x.text==[]&&(x.num==0&&(x.unit==[]&& !x.flag)))
theorem iR{l:Str}(h:l.length<=big):Um l=some (QE l):=by
 unfold Um;refine(Ox l (fun b=>bif (!(b==0))then none else some false) () (fun i a=> ?_) ?_).trans ?_
 ·simp only[ZH a,Ca,Zt a,ze,Aa,byte_zero,Za a h]
  grind
 ·grind
 ·rw[AB];show _=some (QE l);unfold QE
  grind
theorem one_byte(l:Str)(p:Nat->Bool)(d:Bool)(f:Int->Option Bool)(hf: ∀b:UInt8,f (b.toNat:Int)=some (p b.toNat))(g:Bool):
  ((zn (g&&(l.length:Int)==1) (geti l 0) (0:UInt8)).bind fun y=>zn (g&&(l.length:Int)==1) (f (y.toNat:Int)) d)=some (bif g&&(l.length:Int)==1 then(match l with|[b]=>p b.toNat|_=>false)else d):=by
 cases g with
 |false=>rfl
 |true=>
  cases l with
  |nil=>rfl
  |cons b r=>
   cases r with
   |nil=> show((geti [b] 0).bind fun y=>f (y.toNat:Int))=some (p b.toNat);rw[show geti [b] 0=some b from rfl];exact hf b
   |cons c r=> have:(((b::c::r).length:Int)==1)=false:=Ia.2 (by grind);rw[this];rfl
theorem fZ(a:aA)(l:Str)(g:Bool):((zn (g&&(l.length:Int)==1) (geti l 0) (0:UInt8)).bind fun y=>zn (g&&(l.length:Int)==1) (qN (y.toNat:Int)) (default:Bool))=some (bif g&&(l.length:Int)==1 then delS l else default):=
 one_byte l yl default qN a g
theorem WW(l:Str):(((l.length:Int)==1)&&delS l)=delS l:=by
 cases l with
 |nil=>rfl
 |cons b r=>
  cases r with
  |nil=>rfl
  |cons c r=> have:(((b::c::r).length:Int)==1)=false:=Ia.2 (by grind);rw[this];rfl
theorem D9(C:aA){x:zf}(v:x.text.length<=big)(h2:x.unit.length<=big):Fx x=some (Mq x):=by
 have n:=fZ C x.text true;simp only[Ob]at n;have q:((zn ((x.text.length:Int)==1) (geti x.text 0) (0:UInt8)).bind fun o=>(zn ((x.text.length:Int)==1) (qN (o.toNat:Int)) (default:Bool)).bind fun D=>some (bif bif (x.text.length:Int)==1 then D else false then x.kind==x.kind&&(([]:Str)==[]&&(x.num==0&&(x.unit==[]&&(x.flag==false&&true))))else false))=some (delS x.text&&(x.num==0&&(x.unit==[]&& !x.flag))):=by
  have e: ∀(k:Bool->Option Bool),((zn ((x.text.length:Int)==1) (geti x.text 0) (0:UInt8)).bind fun o=>(zn ((x.text.length:Int)==1) (qN (o.toNat:Int)) (default:Bool)).bind k)=(((zn ((x.text.length:Int)==1) (geti x.text 0) (0:UInt8)).bind fun y=>zn ((x.text.length:Int)==1) (qN (y.toNat:Int)) (default:Bool))).bind k:=by intro k;rw[Option.bind_assoc]
  rw[e,n,Aa,<-WW x.text];simp only[jd];cases (x.text.length:Int)==1<;>cases delS x.text<;>cases x.flag<;>rfl
 unfold Fx;simp only[ze,iR v,iR h2,E9,ZU,Aa,ge_iff_le];unfold Mq rngS;by_cases B:x.kind=9
 ·simp_all
 clear n q;have E:=Ia.2 B;generalize delS x.text=J;generalize QE x.text=p;generalize QE x.unit=M;generalize ek x.text=H;generalize c:(x.text==[])=i;generalize d:(x.unit==[])=j;generalize a:(x.num==0)=m;generalize b:x.flag=l;generalize decide (-1000000000000<=x.num)=N;generalize decide (x.num<=1000000000000)=L;generalize (Int.tmod x.num 1000==0)=z;by_cases r:x.kind=1
 ·simp only[r,zh,Ca,Ba,c,d,a,b,Int.reduceBEq];cases p<;>cases i<;>cases j<;>cases m<;>cases l<;>rfl
 by_cases s:x.kind=2
 ·simp only[s,zh,Ca,Ba,c,d,a,b,Int.reduceBEq];cases p<;>cases i<;>cases j<;>cases m<;>cases l<;>rfl
 by_cases t:x.kind=3
 ·simp only[t,zh,Ca,Ba,c,d,a,b,Int.reduceBEq];cases p<;>cases i<;>cases j<;>cases m<;>cases l<;>rfl
 by_cases u:x.kind=4
 ·simp only[u,zh,Ca,Ba,c,d,a,b,Int.reduceBEq]
  grind
 by_cases G:x.kind=5
 ·simp_all
 by_cases F:x.kind=7
 ·simp_all
 by_cases g:x.kind=10
 ·simp only[g,zh,Ca,Ba,c,d,a,b,Int.reduceBEq]
  grind
 by_cases h:x.kind=11
 ·simp only[h,zh,Ca,Ba,c,d,a,b,Int.reduceBEq]
  grind
 by_cases f:x.kind=12
 ·simp only[f,zh,Ca,Ba,c,d,a,b,Int.reduceBEq]
  grind
 simp only[E,Ia.2 r,Ia.2 s,Ia.2 t,Ia.2 u,Ia.2 G,Ia.2 F,Ia.2 g,Ia.2 h,Ia.2 f,zh,Ca,Ba,c,d,a,b,jd,Bool.or_self];by_cases w:x.kind=6
 ·simp_all
 by_cases A:x.kind=8
 ·simp_all
 simp only[Ia.2 w,Ia.2 A,zh,Ca,Ba];have e:(decide (1<=x.kind)&&decide (x.kind<=24))=(decide (13<=x.kind)&&decide (x.kind<=24)):=by
  by_cases K:13<=x.kind
  ·grind
  ·grind
 rw[<-e];cases decide (1<=x.kind)<;>cases decide (x.kind<=24)<;>cases i<;>cases j<;>cases m<;>cases l<;>rfl
abbrev Vu:Str:=[32,9,10,12,13,34,39,58,59,44,91,93,40,41,123,125]
theorem tH: ∀(m:Str) (c:UInt8),Lib.index m [c]=Lib.indexByte m c
 |[],c=>rfl
 |b::l,c=>by
  have h:List.isPrefixOf [c] (b::l)=(b==c):=by
   show(c==b&&List.isPrefixOf [] l)=_;rw[List.isPrefixOf,Mc];by_cases e:b=c
   ·subst e;rfl
   ·grind
  rw[Lib.index,Lib.indexByte,h,tH l c]
theorem contains_one(m:Str)(c:UInt8)(a:short m=true:=by decide):strings_Contains (m,[c])=some (m.any fun b=>b==c):=by unfold strings_Contains;simp only[nk,a,Zu,ze,Aa,tH,xE]
theorem T9(c:UInt8):strings_Contains ([32,9,10,12,13,34,39,58,59,44,91,93,40,41,123,125],[c])=some (Vu.any fun b=>b==c):=contains_one Vu c
theorem gZ: ∀n:Nat,n<256->((bif bif !(UInt8.ofNat n==0)then !namN n else false then true else UInt8.ofNat n==45)&&(!(Vu.any fun b=>b==UInt8.ofNat n)))=yl n:=by decide+kernel
theorem VW(b:UInt8):((bif bif !(b==0)then !namN b.toNat else false then true else b==45)&&(!(Vu.any fun c=>c==b)))=yl b.toNat:=by have:=gZ b.toNat (Xc b);simp_all
theorem X6(a b:Str):QE (a++b)=(QE a&&QE b):=by unfold QE;grind
theorem zBk(n:Int):decide (n<0)= !decide (n>=0):=by
 grind
theorem mr{b:UInt8}(h:digB b=true):48<=b.toNat/\b.toNat<=57:=by unfold digB at h;simpa using h
theorem kK: ∀(q:Str),q.all digB=true->Lib.indexByte q 46= -1
 |[],_=>rfl
 |c::q,h=>by
  rw[Ue,Fa]at h;have a:=mr h.1;have b:(c==46)=false:=by refine Ia.2 (fun e=> ?_);subst e;revert a;decide
  rw[Lib.indexByte,b,kK q h.2];rfl
theorem lK: ∀(q g:Str),q.all digB=true->Lib.indexByte (q++46::g) 46=(q.length:Int)
 |[],g,_=>by rw[Ad,Lib.indexByte];rfl
 |c::q,g,h=>by
  rw[Ue,Fa]at h;have hd:=mr h.1;have hc:(c==46)=false:=by refine Ia.2 (fun e=> ?_);subst e;revert hd;decide
  rw[Tc,Lib.indexByte,hc,lK q g h.2];have:((q.length:Int)== -1)=false:=Ia.2 (by omega);rw[this,Ea];simp
theorem vK: ∀(l:Str),(l.all fun b=>digB b||b==46)=true->Lib.indexAny l [101,69]= -1
 |[],_=>rfl
 |c::l,h=>by
  rw[Ue,Fa]at h;have hc:List.contains [101,69] c=false:=by
   have: ∀n:Nat,n<256->(digB (UInt8.ofNat n)||UInt8.ofNat n==46)=true->List.contains [101,69] (UInt8.ofNat n)=false:=by decide+kernel
   have:=this c.toNat (Xc c);rw[af]at this;exact this h.1
  rw[Lib.indexAny,hc,vK l h.2];rfl
end Go.Lv.VT
