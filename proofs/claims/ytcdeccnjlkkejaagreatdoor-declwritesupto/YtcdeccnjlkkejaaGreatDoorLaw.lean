/- The reading of tokens: what the program's text and the reference's come to. -/
import Derived.Test.YtcdeccnjlkkejaaGreatDoorTy
import Derived.Test.YtcdeccnjlkkejaaGreatDoorMo
import Derived.Test.YtcdeccnjlkkejaaGreatDoorTx
set_option linter.unusedSimpArgs false
set_option linter.unusedVariables false
namespace Go.Lv.VT
def atS(l:Str)(n:Nat):UInt8:=l.getD n 0
def digB(b:UInt8):Bool:=decide (48<=b.toNat)&&decide (b.toNat<=57)
def spB(b:UInt8):Bool:=b==10||b==9||b==32
def alB(b:UInt8):Bool:=decide (65<=b.toNat)&&decide (b.toNat<=90)||decide (97<=b.toNat)&&decide (b.toNat<=122)
def fstB(b:UInt8):Bool:=alB b||b==95||decide (128<=b.toNat)
def letB(b:UInt8):Bool:=fstB b||digB b||b==45
def hexN(b:UInt8):Nat:=
 if digB b then b.toNat - 48 else if 97<=b.toNat/\b.toNat<=102 then b.toNat - 87 else if 65<=b.toNat/\b.toNat<=70 then b.toNat - 55 else 16
def qQ(b:UInt8):Bool:=decide (hexN b<16)
def escS(l:Str):Bool:=atS l 0==92&& !(atS l 1==10)
def nmS(l:Str):Bool:=if atS l 0==45 then fstB (atS l 1)||atS l 1==45||escS (l.drop 1)else fstB (atS l 0)||escS l
def Lf(b:UInt8):Bool:=b==43||b==45
def unsign(l:Str):Str:=if Lf (atS l 0)then l.drop 1 else l
def undot(l:Str):Str:=if atS l 0==46 then l.drop 1 else l
def nbS(l:Str):Bool:=digB (atS (undot (unsign l)) 0)
def ui:Str:=[239,191,189]
def Ag(n:Nat):Str:=
 if n=0\/(55296<=n/\n<=57343)\/1114111<n then ui
 else if n<128 then [UInt8.ofNat n]
 else if n<2048 then [UInt8.ofNat (192+n / 64),UInt8.ofNat (128+n%64)]
 else if n<65536 then [UInt8.ofNat (224+n / 4096),UInt8.ofNat (128+n / 64%64),UInt8.ofNat (128+n%64)]
 else [UInt8.ofNat (240+n / 262144),UInt8.ofNat (128+n / 4096%64),UInt8.ofNat (128+n / 64%64),UInt8.ofNat (128+n%64)]
def hexes:Nat->Nat->Str->Nat×Str
 |0,n,l=>(n,l)
 |_+1,n,[]=>(n,[])
 |k+1,n,c::r=>if qQ c then hexes k (16*n+hexN c) r else(n,c::r)
def unsp:Str->Str
 |[]=>[]
 |c::r=>if spB c then r else c::r
def zt:Str->Str×Str
 |[]=>(ui,[])
 |c::r=>if qQ c then(Ag (hexes 6 0 (c::r)).1,unsp (hexes 6 0 (c::r)).2)else([c],r)
theorem uu: ∀(k n:Nat) (l:Str),(hexes k n l).2<:+l
 |0,n,l=>Vd l
 |k+1,n,[]=>Vd _
 |k+1,n,c::r=>by
  unfold hexes;split
  ·exact(uu k _ r).trans (Ld c r)
  grind
theorem RV(l:Str):unsp l<:+l:=by
 cases l with
 |nil=>exact Vd _
 |cons c r=>
  show(if spB c then r else c::r)<:+c::r
  grind
theorem Zh(l:Str):(zt l).2<:+l:=by
 cases l with
 |nil=>exact Vd _
 |cons c r=>
  show(if qQ c then(Ag (hexes 6 0 (c::r)).1,unsp (hexes 6 0 (c::r)).2)else([c],r)).2<:+c::r;split
  ·exact(RV _).trans (uu 6 0 _)
  grind
theorem Zg(l:Str):(zt l).2.length<=l.length:=(Zh l).length_le
def zo:Str->Str×Str
 |[]=>([],[])
 |c::r=>
  if letB c then((c::(zo r).1),(zo r).2)
  else if escS (c::r)then((zt r).1++(zo (zt r).2).1,(zo (zt r).2).2)
  else([],c::r)
termination_by l=>l.length
decreasing_by
 all_goals first|(have:=Zg r;simp only[Ia];omega)|(simp only[Ia];omega)
def past(p:UInt8->Bool):Str->Str
 |[]=>[]
 |c::r=>if p c then past p r else c::r
theorem Dn(p:UInt8->Bool): ∀l:Str,past p l<:+l
 |[]=>Vd _
 |c::r=>by
  unfold past;split
  ·exact(Dn p r).trans (Ld c r)
  grind
def zV(l:Str):Str×Bool:=
 if atS l 0==46&&digB (atS l 1)then(past digB (l.drop 1),false)else(l,true)
def expS(l:Str):Option Str:=
 if atS l 0==101||atS l 0==69 then(if digB (atS (unsign (l.drop 1)) 0)then some (past digB (unsign (l.drop 1)))else none)else none
def zC(l:Str):Str×Bool:=
 let x:=zV (past digB (unsign l))
 match expS x.1 with
 |some r=>(r,false)
 |none=>x
def decN(n:Nat)(b:UInt8):Nat:=10*n+(b.toNat - 48)
def upto(l r:Str):Str:=l.take (l.length - r.length)
def z8(m:UInt8):Str->Option Str×Str
 |[]=>(some [],[])
 |c::r=>
  if c==m then(some [],r)
  else if c==10 then(none,c::r)
  else if c==92 then
   (if r.isEmpty then(some [],[])
   else if atS r 0==10 then z8 m (r.drop 1)
   else((z8 m (zt r).2).1.map ((zt r).1++ ·),(z8 m (zt r).2).2))
  else((z8 m r).1.map (c:: ·),(z8 m r).2)
termination_by l=>l.length
decreasing_by
 all_goals first|(have:=Zg r;simp only[Ia];omega)|(simp only[Ia,Ec];omega)
def badS:Str->Str
 |[]=>[]
 |c::r=>if c==41 then r else if escS (c::r)then badS (zt r).2 else badS r
termination_by l=>l.length
decreasing_by
 all_goals first|(have:=Zg r;simp only[Ia];omega)|(simp only[Ia];omega)
def unB(b:UInt8):Bool:=decide (b.toNat<=8)||b==11||decide (14<=b.toNat)&&decide (b.toNat<=31)||b==127
def urlS:Str->Option Str×Str
 |[]=>(some [],[])
 |c::r=>
  if c==41 then(some [],r)
  else if spB c then(match past spB r with
   |[]=>(some [],[])
   |d::a=>if d==41 then(some [],a)else(none,badS (d::a)))
  else if c==34||c==39||c==40||unB c||c==92&& !escS (c::r)then(none,badS (c::r))
  else if c==92 then((urlS (zt r).2).1.map ((zt r).1++ ·),(urlS (zt r).2).2)
  else((urlS r).1.map (c:: ·),(urlS r).2)
termination_by l=>l.length
decreasing_by
 all_goals first|(have:=Zg r;simp only[Ia];omega)|(simp only[Ia];omega)
def mf(b:UInt8):Int:=
 if b==58 then 16 else if b==59 then 17 else if b==44 then 18 else if b==91 then 19 else if b==93 then 20 else if b==40 then 21 else if b==41 then 22 else if b==123 then 23 else if b==125 then 24 else 0
def ag(k:Int):ze:=⟨k,[],0,[],false⟩
def Tf:Nat:=1000000000000
def Ig:Nat->Nat->Nat
 |0,n=>n
 |k+1,n=>if n=0\/Tf<=n then n else Ig k (min Tf (10*n))
set_option maxRecDepth 100000
abbrev sc(s:Str)(k:Nat):za:=⟨s,(k:Int)⟩
def pk(l:Str)(n:Nat):Int:=match l[n]? with|some b=>(b.toNat:Int)|none=> -1
def beh(s r:Str):Nat:=s.length - r.length
theorem zJ{n:Int}(a: -9223372036854775808<=n)(h2:n<=9223372036854775807):w64 n=n:=qJ a h2
theorem Kn{s r:Str}(h:r<:+s):s.drop (beh s r)=r:=by obtain⟨t,rfl⟩:=h;unfold beh;simp_all
theorem Eh(s r:Str):beh s r<=s.length:=by unfold beh;omega
theorem eX{s:Str}{k:Nat}(h:k<=s.length):beh s (s.drop k)=k:=by unfold beh;grind
theorem Py{s:Str}{k n:Nat}(c:s.length<=big)(g:k<=s.length)(f:n<=8):zf ((n:Int),sc s k)=some (pk (s.drop k) n):=by
 have d:big=4194304:=rfl;have e:w64 ((k:Int)+(n:Int))=((k+n:Nat):Int):=by rw[zJ (by omega) (by omega)];omega
 unfold zf pk;simp only[e];rw[xc];by_cases h:k+n<s.length
 ·rw[Ea (by omega),Ca];have b:geti s ((k+n:Nat):Int)=some s[k+n]:=Zo h;have a:=Bb s[k+n];simp only[zb,b,Aa,Ta h];rw[zJ (by omega) (by omega)]
 ·grind
theorem Fs{s:Str}{k:Nat}(b:s.length<=big)(a:k<=s.length):zf (0,sc s k)=some (pk (s.drop k) 0):=Py (n:=0) b a (by omega)
theorem RI{s:Str}{k:Nat}(b:s.length<=big)(a:k<=s.length):zf (1,sc s k)=some (pk (s.drop k) 1):=Py (n:=1) b a (by omega)
theorem zCY{s:Str}{k:Nat}(b:s.length<=big)(a:k<=s.length):zf (2,sc s k)=some (pk (s.drop k) 2):=Py (n:=2) b a (by omega)
theorem Js{a:Type}{f:Int->Option a}{p:UInt8->a}(h: ∀b:UInt8,f (b.toNat:Int)=some (p b))(c:f (-1)=some (p 0))(l:Str)(n:Nat):f (pk l n)=some (p (atS l n)):=by
 unfold pk atS
 grind
theorem of_n{a:Type}{f:Int->Option a}{p:UInt8->a}(h: ∀n:Nat,n<256->f (n:Int)=some (p (UInt8.ofNat n)))(b:UInt8):f (b.toNat:Int)=some (p b):=by have:=h b.toNat (Bb b);simp_all
theorem Eu(l:Str)(n:Nat):qF (pk l n)=some (spB (atS l n)):=Js (of_n (by decide+kernel)) (by decide+kernel) l n
theorem Dl(l:Str)(n:Nat):Zz (pk l n)=some (digB (atS l n)):=Js (of_n (by decide+kernel)) (by decide+kernel) l n
theorem zBa(l:Str)(n:Nat):Eo (pk l n)=some (fstB (atS l n)):=Js (of_n (by decide+kernel)) (by decide+kernel) l n
theorem jL(l:Str)(n:Nat):Ar (pk l n)=some (letB (atS l n)):=Js (of_n (by decide+kernel)) (by decide+kernel) l n
def hexI(b:UInt8):Int:=if qQ b then(hexN b:Int)else -1
theorem xw(l:Str)(n:Nat):Kl (pk l n)=some (hexI (atS l n)):=Js (of_n (by decide+kernel)) (by decide+kernel) l n
theorem Lh(l:Str)(n:Nat)(c:UInt8)(h:c≠0):(pk l n==(c.toNat:Int))=(atS l n==c):=by
 unfold pk atS;rw[Cf];cases l[n]? with
 |none=>
  grind
 |some b=>
  show((b.toNat:Int)==(c.toNat:Int))=(b==c);by_cases e:b=c
  ·grind
  ·have:b.toNat≠c.toNat:=fun h=>e (Oe.1 h)
   grind
theorem OI(l:Str)(n:Nat):(pk l n==10)=(atS l n==10):=Lh l n 10 (by decide)
theorem bT(l:Str)(n:Nat):(pk l n==34)=(atS l n==34):=Lh l n 34 (by decide)
theorem zCZ(l:Str)(n:Nat):(pk l n==35)=(atS l n==35):=Lh l n 35 (by decide)
theorem zC0(l:Str)(n:Nat):(pk l n==37)=(atS l n==37):=Lh l n 37 (by decide)
theorem aT(l:Str)(n:Nat):(pk l n==39)=(atS l n==39):=Lh l n 39 (by decide)
theorem zC1(l:Str)(n:Nat):(pk l n==40)=(atS l n==40):=Lh l n 40 (by decide)
theorem NI(l:Str)(n:Nat):(pk l n==41)=(atS l n==41):=Lh l n 41 (by decide)
theorem MI(l:Str)(n:Nat):(pk l n==43)=(atS l n==43):=Lh l n 43 (by decide)
theorem Es(l:Str)(n:Nat):(pk l n==45)=(atS l n==45):=Lh l n 45 (by decide)
theorem KI(l:Str)(n:Nat):(pk l n==46)=(atS l n==46):=Lh l n 46 (by decide)
theorem zC2(l:Str)(n:Nat):(pk l n==64)=(atS l n==64):=Lh l n 64 (by decide)
theorem zC3(l:Str)(n:Nat):(pk l n==69)=(atS l n==69):=Lh l n 69 (by decide)
theorem YT(l:Str)(n:Nat):(pk l n==92)=(atS l n==92):=Lh l n 92 (by decide)
theorem zCf(l:Str)(n:Nat):(pk l n==101)=(atS l n==101):=Lh l n 101 (by decide)
theorem Im(l:Str):(pk l 0== -1)=l.isEmpty:=by
 cases l with
 |nil=>rfl
 |cons b r=>
  show((b.toNat:Int)== -1)=false
  grind
theorem QB(l:Str)(k n:Nat):atS (l.drop k) n=atS l (k+n):=by
 unfold atS
 grind
theorem tL {R:Type} {step:za->Option (LO za za R)} {s:Str} (p:UInt8->Bool) (h0:p 0=false)
  (h: ∀k,k<=s.length->step (sc s k)=some (bif p (atS (s.drop k) 0)then .again (sc s (k+1))else .out (sc s k))) {k:Nat} (hk:k<=s.length):
  Nf step (sc s k)=some (.out (sc s (beh s (past p (s.drop k))))):=by
 refine Zv (fun z=> ∃j,z=sc s j/\j<=s.length/\past p (s.drop j)=past p (s.drop k)) (fun z=>s.length - z.at_.toNat) _ ?_ ⟨k,rfl,hk,rfl⟩;rintro _ ⟨j,rfl,hj,he⟩;rw[h j hj];cases hd:s.drop j with
 |nil=>
  rw[show atS ([]:Str) 0=0 from rfl,h0,Ba];refine .inr (.inl ⟨_,rfl,?_⟩);rw[<-he,hd];have:j=s.length:=by have:=Ud.1 hd;omega
  subst this;show LX.out (sc s (beh s []))=_;unfold beh;rw[Eb,Nat.sub_zero]
 |cons c r=>
  have hlt:j<s.length:=by
   rcases Lc j s.length with h'|h'
   ·exact h'
   ·grind
  have hr:s.drop (j+1)=r:=by have:=Ab hlt;rw[hd]at this;injection this with _ h2;exact h2.symm
  rw[show atS (c::r) 0=c from rfl];cases hp:p c with
  |true=> refine .inl ⟨_,rfl,⟨j+1,rfl,by omega,?_⟩,by grind⟩;rw[hr,<-he,hd,past,hp];rfl
  |false=> refine .inr (.inl ⟨_,rfl,?_⟩);rw[<-he,hd,past,hp,Ja (by decide),<-hd,eX hj]
theorem dJ{s:Str}{k:Nat}(b:s.length<=big)(a:k<=s.length):w64 ((k:Int)+1)=((k+1:Nat):Int):=by have c:big=4194304:=rfl;rw[zJ (by omega) (by omega)];omega
theorem KV{s:Str}{k:Nat}(a:s.length<=big)(c:k<=s.length):Zb (sc s k)=some (sc s (beh s (past spB (s.drop k)))):=by
 unfold Zb;rw[Ze (tL spB rfl (fun j b=> ?_) c)];simp only[zb,Fs a b,Aa,Eu,dJ a b]
 grind
theorem PX{s:Str}{k:Nat}(a:s.length<=big)(c:k<=s.length):zZ (sc s k)=some (sc s (beh s (past digB (s.drop k)))):=by
 unfold zZ;rw[Ze (tL digB rfl (fun j b=> ?_) c)];simp only[zb,Fs a b,Aa,Dl,dJ a b]
 grind
theorem number_eq{s:Str}{k:Nat}(a:s.length<=big)(c:k<=s.length):ZA (sc s k)=some (nbS (s.drop k)):=by
 unfold ZA nbS unsign undot Lf;simp only[zb,Fs a c,Aa,MI,Es];have d: ∀(b:Bool),(zS (X:=Int) (bif b then some (LX.out 1)else some (LX.out 0)) fun e=>
   zS (X:=Int) ((zf (e,sc s k)).bind fun f=>bif f==46 then some (LX.out (w64 (e+1)))else some (LX.out e)) fun g=>
   (zf (g,sc s k)).bind fun i=>(Zz i).bind fun j=>some j)=some (digB (atS (if atS (if b then(s.drop k).drop 1 else s.drop k) 0==46 then(if b then(s.drop k).drop 1 else s.drop k).drop 1 else(if b then(s.drop k).drop 1 else s.drop k)) 0)):=by
  intro b;cases b with
  |false=>
   simp only[Ba,zh,Fs a c,Aa,KI,Sb,Ad];cases h:atS (s.drop k) 0==46 with
   |false=>simp only[Ba,zh,Fs a c,Aa,Dl,Sb,Ad]
   |true=> simp only[Ca,zh,Md];rw[show w64 (0+1)=1 from rfl,RI a c];simp only[Aa,Dl];rw[QB (s.drop k) 1 0]
  |true=>
   simp only[Ca,zh,RI a c,Aa,KI,Md];rw[QB (s.drop k) 1 0];cases h:atS (s.drop k) (1+0)==46 with
   |false=> simp only[Yc]at h;simp only[h,Ba,zh,RI a c,Aa,Dl,Sb,Ad];rw[QB (s.drop k) 1 0]
   |true=> simp only[Yc]at h;simp only[h,Ca,zh,Md];rw[show w64 (1+1)=2 from rfl,zCY a c];simp only[Aa,Dl];rw[Ee,QB (s.drop k) (1+1) 0]
 have:=d (atS (s.drop k) 0==43||atS (s.drop k) 0==45)
 grind
abbrev sr(s r:Str):za:=sc s (beh s r)
theorem sr_0(s:Str):(⟨s,0⟩:za)=sr s s:=by show sc s 0=sc s (beh s s);unfold beh;rw[Nat.sub_self]
theorem jl{s r:Str}{n:Nat}(b:s.length<=big)(c:r<:+s)(a:n<=8):zf ((n:Int),sr s r)=some (pk r n):=by rw[Py b (Eh s r) a,Kn c]
theorem Og{s r:Str}(a:s.length<=big)(b:r<:+s):zf (0,sr s r)=some (pk r 0):=jl (n:=0) a b (by omega)
theorem Rt{s r:Str}(a:s.length<=big)(b:r<:+s):zf (1,sr s r)=some (pk r 1):=jl (n:=1) a b (by omega)
theorem zCe{s r:Str}(a:s.length<=big)(b:r<:+s):zf (2,sr s r)=some (pk r 2):=jl (n:=2) a b (by omega)
theorem Ay{s r:Str}(a:s.length<=big)(b:r<:+s):Zb (sr s r)=some (sr s (past spB r)):=by rw[KV a (Eh s r),Kn b]
theorem Uy{s r:Str}(a:s.length<=big)(b:r<:+s):zZ (sr s r)=some (sr s (past digB r)):=by rw[PX a (Eh s r),Kn b]
theorem zAF{s r:Str}(a:s.length<=big)(b:r<:+s):ZA (sr s r)=some (nbS r):=by rw[number_eq a (Eh s r),Kn b]
theorem KE{s r:Str}{n:Nat}(a:r<:+s)(b:n<=r.length):beh s r+n=beh s (r.drop n):=by
 have:=a.length_le;unfold beh
 grind
theorem Px{s r:Str}{n:Nat}(c:s.length<=big)(a:r<:+s)(b:n<=r.length):(⟨s,w64 ((beh s r:Int)+(n:Int))⟩:za)=sr s (r.drop n):=by have d:big=4194304:=rfl;have:=Eh s r;have e:=a.length_le;rw[zJ (by omega) (by omega),show(beh s r:Int)+(n:Int)=((beh s r+n:Nat):Int) by omega,KE a b]
theorem Us{l:Str}{n:Nat}(h:atS l n≠0):n<l.length:=by
 rcases Lc n l.length with a|a
 ·exact a
 ·exact absurd (by unfold atS;grind) h
theorem kr{s r:Str}(a:s.length<=big)(b:r<:+s)(h:atS r 0≠0):(⟨s,w64 ((beh s r:Int)+1)⟩:za)=sr s (r.drop 1):=Px (n:=1) a b (Us h)
theorem ai{s r:Str}(a:r<:+s)(n:Nat):r.drop n<:+s:=(Ke n r).trans a
theorem Yi{s r:Str}(p:UInt8->Bool)(a:r<:+s):past p r<:+s:=(Dn p r).trans a
theorem pq{s r:Str}(a:r<:+s):unsign r<:+s:=by
 unfold unsign;split
 ·exact ai a 1
 ·exact a
theorem aJ{b:UInt8}(h:Lf b=true):b≠0:=by rintro rfl;revert h;decide
theorem oo(a b:Bool):(bif a then true else b)=(a||b):=by cases a<;>rfl
theorem MJ(a b:Bool):(bif a then b else false)=(a&&b):=by cases a<;>rfl
theorem mF{s r:Str}(a:r<:+s):(zV r).1<:+s:=by
 unfold zV;split
 ·exact Yi _ (ai a 1)
 ·exact a
theorem lK{s r q:Str}(a:r<:+s)(h:expS r=some q):q<:+s:=by
 unfold expS at h;split at h
 ·split at h
  ·cases h;exact Yi _ (pq (ai a 1))
  ·cases h
 ·cases h
theorem rO{s r:Str}(b:r<:+s):(zC r).1<:+s:=by
 unfold zC;have a:=mF (Yi digB (pq b));simp only;cases h:expS (zV (past digB (unsign r))).1 with
 |some q=>exact lK a h
 |none=>exact a
theorem jV{s l:Str}(hs:s.length<=big)(hl:l<:+s):qx (sr s l)=some ((zC l).2,sr s (zC l).1):=by
 unfold qx;simp only[zb,Og hs hl,Aa,MI,Es,oo];have e1:(bif (atS l 0==43||atS l 0==45)then some (LX.out (⟨s,w64 ((beh s l:Int)+1)⟩:za))else some (LX.out (sr s l)))=(some (LX.out (sr s (unsign l))):Option (LX za (Bool×za))):=by
  unfold unsign;cases h:Lf (atS l 0)with
  |true=> have h':(atS l 0==43||atS l 0==45)=true:=h;rw[h',Ca,Ka rfl,kr hs hl (aJ h)]
  |false=>
   have h':(atS l 0==43||atS l 0==45)=false:=h
   grind
 rw[e1,zh];have hu:=pq hl;rw[Uy hs hu];simp only[Aa];have hp:=Yi digB hu;unfold zC;generalize past digB (unsign l)=q at hp ⊢;have e2:zS (X:=Bool×za) (R:=Bool×za) ((zf (0,sr s q)).bind fun y4=>
   (zq (y4==46) (zf (1,sr s q)) (default:Int)).bind fun y5=>
   (zq (y4==46) (Zz y5) (default:Bool)).bind fun y6=>
   bif bif y4==46 then y6 else false then(zZ (⟨s,w64 ((beh s q:Int)+1)⟩:za)).bind fun y7=>some (LX.out (false,y7))else some (LX.out (true,sr s q)))=zS (some (LX.out ((zV q).2,sr s (zV q).1))):=by
  congr 1;unfold zV;simp only[Og hs hp,Rt hs hp,Aa,KI];cases h:atS q 0==46 with
  |false=>simp_all
  |true=>
   simp only[zx,Aa,Ca,Dl,ma];cases h2:digB (atS q 1)with
   |false=>grind
   |true=> rw[Ca,Ka rfl,kr hs hp (by grind),Uy hs (ai hp 1)];rfl
 rw[e2,zh];have hw:=mF hp;generalize zV q=W at hw ⊢;obtain⟨w,i⟩:=W;simp only at hw ⊢;have e3:((zf (0,sr s w)).bind fun y9=>
   (zq (!(y9==101)) (zf (0,sr s w)) (default:Int)).bind fun y10=>
   bif bif y9==101 then true else y10==69 then
    zS (X:=(Bool×Int)×za) ((zf (1,sr s w)).bind fun y11=>bif bif y11==43 then true else y11==45 then some (LX.out ((i,2),sr s w))else some (LX.out ((i,1),sr s w))) fun j12=>
    (zf (j12.1.2,j12.2)).bind fun y13=>(Zz y13).bind fun y14=>
    bif y14 then(zZ (⟨j12.2.s,w64 (j12.2.at_+j12.1.2)⟩:za)).bind fun y15=>some (LX.out (false,y15))else some (LX.out (j12.1.1,j12.2))
   else some (LX.out (i,sr s w)))=(some (LX.out (match expS w with|some r=>(false,sr s r)|none=>(i,sr s w))):Option (LX (Bool×za) (Bool×za))):=by
  simp only[Og hs hw,Aa,zCf];have e4:((zq (!(atS w 0==101)) (some (pk w 0)) (default:Int)).bind fun y10=>(some (bif atS w 0==101 then true else y10==69):Option Bool))=some (atS w 0==101||atS w 0==69):=by
   cases h:atS w 0==101 with
   |true=>rfl
   |false=>simp only[Va,zx,Aa,Ba,zC3,Gc]
  have e5: ∀(f:Bool->Option (LX (Bool×za) (Bool×za))),((zq (!(atS w 0==101)) (some (pk w 0)) (default:Int)).bind fun y10=>f (bif atS w 0==101 then true else y10==69))=f (atS w 0==101||atS w 0==69):=by intro f;have:=congrArg (fun o=>Option.bind o f) e4;simpa [Option.bind_assoc] using this
  refine(e5 (fun b=>bif b then _ else _)).trans ?_;unfold expS;cases h:(atS w 0==101||atS w 0==69)with
  |false=>rfl
  |true=>
   have hne:atS w 0≠0:=by intro e;rw[e]at h;revert h;decide
   simp only[Ca,Md,Rt hs hw,Aa,MI,Es,oo];unfold unsign;have hd:atS (w.drop 1) 0=atS w 1:=by rw[QB w 1 0]
   rw[hd];cases hg:(atS w 1==43||atS w 1==45)with
   |true=>
    have hg':Lf (atS w 1)=true:=hg;have hl2:=Us (aJ hg');simp only[Ca,zh,zCe hs hw,Aa,Dl,hg',Md,Ee];rw[show atS (w.drop (1+1)) 0=atS w 2 by rw[QB w 2 0]];cases hq:digB (atS w 2)with
    |false=>rfl
    |true=> rw[Ca,Ka rfl,show(2:Int)=((2:Nat):Int)from rfl,Px hs hw (by omega),Uy hs (ai hw 2)];rfl
   |false=>
    have hg':Lf (atS w 1)=false:=hg;simp only[Ba,zh,Rt hs hw,Aa,Dl,hg',Sb,Ad];rw[hd];cases hq:digB (atS w 1)with
    |false=>rfl
    |true=> rw[Ca,Ka rfl,kr hs hw hne,Uy hs (ai hw 1)];rfl
 refine(congrArg (fun o=>zS o _) e3).trans ?_;rw[zh];cases expS w<;>rfl
def valG(n:Nat)(l:Str):Nat:=l.foldl decN n
theorem Iz(n:Nat)(a b:Str):valG n (a++b)=valG (valG n a) b:=List.foldl_append
theorem rM{k:Nat}(h:k<10):digB (UInt8.ofNat (48+k))=true/\(UInt8.ofNat (48+k)).toNat=48+k:=by
 have:(UInt8.ofNat (48+k)).toNat=48+k:=by rw[UInt8.toNat_ofNat'];omega
 refine⟨?_,this⟩;unfold digB
 grind
theorem gp: ∀(u:Nat),(Lib.decDigits u).all digB=true/\valG 0 (Lib.decDigits u)=u/\Lib.decDigits u≠[]:=by
 intro u
 induction u using Nat.strongRecOn with
 |_ u e=>
  rw[Lib.decDigits];by_cases h:u<10
  ·rw[dif_pos h];obtain⟨f,d⟩:=rM h;refine⟨by grind,?_,by simp⟩;show decN 0 _=u;unfold decN;rw[d];omega
  ·rw[dif_neg h];obtain⟨a,b,c⟩:=e (u / 10) (by omega);obtain⟨f,d⟩:=rM (k:=u%10) (by omega);refine⟨by grind,?_,by simp⟩;rw[Iz,b];show decN _ _=u;unfold decN;rw[d];omega
theorem ou: ∀(q t:Str),q.all digB=true->past digB (q++t)=past digB t
 |[],t,_=>rfl
 |c::q,t,h=>by rw[Rc,Fa]at h;rw[Xa,past,Ka h.1,ou q t h.2]
def d48(k:Nat):UInt8:=UInt8.ofNat (48+k)
def vg(r:Nat):Str:=Lib.trimRightB [d48 (r / 100),d48 (r / 10%10),d48 (r%10)] 48
theorem TM{r:Nat}(h:r<1000):Lib.decDigits (1000+r)=49::[d48 (r / 100),d48 (r / 10%10),d48 (r%10)]:=by rw[Lib.decDigits,dif_neg (by omega),Lib.decDigits,dif_neg (by omega),Lib.decDigits,dif_neg (by omega),Lib.decDigits,dif_pos (by omega)];rw[show(1000+r) / 10 / 10 / 10=1 by omega,show(1000+r) / 10 / 10%10=r / 100 by omega,show(1000+r) / 10%10=r / 10%10 by omega,show(1000+r)%10=r%10 by omega];rfl
def Lt(r:Nat):Bool:=(vg r).all digB&&decide ((vg r).length<=3)&&decide (valG 0 (vg r)*10 ^ (3 - (vg r).length)=r)&&((vg r).isEmpty==(r==0))&& !((vg r).getLast? ==some 48)
theorem bz: ∀r,r<1000->Lt r=true:=by decide+kernel
def mi(r:Nat)(p:Bool):Str:=bif (vg r).isEmpty then(bif p then [46,48]else [])else 46::vg r
def Yf(m:Nat)(p:Bool):Str:=Lib.decDigits (m / 1000)++mi (m%1000) p
def numT(n:Int)(p:Bool):Str:=(if n<0 then [45]else [])++Yf n.natAbs p
theorem Bv{u:Nat}(h:u<18446744073709551616):(Lib.decDigits u).length<=20:=by
 rw[Lib.decDigits_length];by_cases h1:u=0
 ·subst h1;rw[Lib.nDigits_small (by omega)];omega
 ·have:=Lib.numDigits_eq u (by omega) h;split at this<;>omega
theorem aV{r:Nat}(h:r<1000)(p:Bool):(mi r p).length<=4:=by
 have:=bz r h;simp only[Lt,Fa,Kb]at this;unfold mi
 grind
theorem fu{m:Nat}(h:m<=1000000000000)(p:Bool):(Yf m p).length<=24:=by unfold Yf;rw[Ga];have:=Bv (u:=m / 1000) (by omega);have:=aV (r:=m%1000) (by omega) p;omega
theorem Mj{n m b:Nat}(h:n+m<=100000)(a:b<=100):Zc n m b=true:=by unfold Zc;refine Ea ?_;have:=Nat.mul_le_mul h a;omega
theorem lZ(l:Str):(l==[])=l.isEmpty:=by cases l<;>rfl
def Si(n:Nat):Nat:=if 65<=n/\n<=90 then n+32 else n
def Ti(b:UInt8):UInt8:=UInt8.ofNat (Si b.toNat)
theorem aX{n:Nat}(h:n<256):Si n<256:=by unfold Si;split<;>omega
theorem YZ(b:UInt8):(Ti b).toNat=Si b.toNat:=by unfold Ti;rw[UInt8.toNat_ofNat'];exact je (aX (Bb b))
theorem MN: ∀n:Nat,n<256->ZJ (n:Int)=some ((Si n:Nat):Int):=by decide+kernel
theorem zBX: ∀n:Nat,n<256->(bif decide (65<=(n:Int))then decide ((n:Int)<=90)else false)=true->ZP (ibOr IntKind.u8 (n:Int) 32)=some (UInt8.ofNat (Si n)):=by decide+kernel
def lowS(l:Str):Str:=l.map Ti
theorem nE{α:Type}{l:List α}{i:Nat}(h:i<l.length)(f:α->α):((l.take i).map f++l.drop i).set i (f l[i])=(l.take (i+1)).map f++l.drop (i+1):=by
 apply List.ext_getElem
 ·simp;omega
 grind
theorem yJ{α:Type}{l:List α}{i:Nat}(h:i<l.length)(f:α->α):((l.take i).map f++l.drop i)[i]? =some l[i]:=by
 grind
theorem ME{α:Type}{l:List α}{i:Nat}(h:i<=l.length)(f:α->α):((l.take i).map f++l.drop i).length=l.length:=by simp;omega
theorem LW{α:Type}{l:List α}{i:Nat}(h:i<l.length)(f:α->α)(e:f l[i]=l[i]):(l.take i).map f++l.drop i=(l.take (i+1)).map f++l.drop (i+1):=by
 rw[<-nE h f,e];apply List.ext_getElem?
 grind
theorem iC(i:Nat):decide ((0:Int)<=(i:Int))=true:=Ea (by omega)
theorem gF{l:Str}(h:l.length<=big):qY l=some (lowS l):=by
 unfold qY;rw[zm (Ea (by unfold big at h;unfold maxLen;omega))];have d: ∀(k i:Nat),i+k=l.length-> ∃n,qy (X:=List UInt8) (R:=Str) (fun(a:Int×List UInt8)=>
   bif decide (a.1<(a.2.length:Int))then
    need (decide (0<=a.1)&&decide (a.1<(a.2.length:Int)))<|
    zb a.2[a.1.toNat]? fun f=>
    zb (ZJ (f.toNat:Int)) fun g=>
    need (decide (0<=a.1)&&decide (a.1<(a.2.length:Int)))<|
    zb a.2[a.1.toNat]? fun p=>
    zb (ZP g) fun m=>
    some (LO.again (w64 (a.1+1),List.set a.2 a.1.toNat m))
   else
    some (LO.out a.2)) n ((i:Int),(l.take i).map Ti++l.drop i)=some (.out (lowS l)):=by
  intro k
  induction k with
  |zero=>
   intro i e;have e:i=l.length:=by omega
   subst e;refine⟨1,?_⟩;simp only[qy,ME (aa _),Bi,Ba];simp[lowS]
  |succ k o=>
   intro i e;have b:i<l.length:=by omega
   obtain⟨n,c⟩:=o (i+1) (by omega);refine⟨n+1,?_⟩;have j:=Bb l[i];simp only[qy,ME (Nat.le_of_lt b),qD b,Ca,iC,Lb,Zi,Sa,yJ b,zb,Aa,MN _ j];rw[<-YZ,zw9,ZC b h];simp only[Aa,nE b];exact c
 obtain⟨n,c⟩:=d l.length 0 (by omega);replace c:=mh c;simp only[List.take_zero,Lg,Ub,Yg]at c;exact(Ci c).trans rfl
theorem gG{l:Str}(h:l.length<=big):Yl l=some (lowS l):=by
 unfold Yl;rw[zm (Ea (by unfold big at h;unfold maxLen;omega))];have d: ∀(k i:Nat),i+k=l.length-> ∃n,qy (X:=List UInt8) (R:=Str) (fun(a:Int×List UInt8)=>
   bif decide (a.1<(l.length:Int))then
    zS (X:=Int×List UInt8) (
      need (decide (0<=a.1)&&decide (a.1<(a.2.length:Int)))<|
      zb a.2[a.1.toNat]? fun j=>
      bif bif decide (65<=(j.toNat:Int))then decide ((j.toNat:Int)<=90)else false then
       need (decide (0<=a.1)&&decide (a.1<(a.2.length:Int)))<|
       zb a.2[a.1.toNat]? fun o=>
       need (decide (0<=a.1)&&decide (a.1<(a.2.length:Int)))<|
       zb a.2[a.1.toNat]? fun t=>
       zb (ZP (ibOr IntKind.u8 (o.toNat:Int) 32)) fun q=>
       some (LX.out (a.1,List.set a.2 a.1.toNat q))
      else
       some (LX.out (a.1,a.2))) fun m=>
    some (LO.again (w64 (m.1+1),m.2))
   else
    some (LO.out a.2)) n ((i:Int),(l.take i).map Ti++l.drop i)=some (.out (lowS l)):=by
  intro k
  induction k with
  |zero=>
   intro i f;have f:i=l.length:=by omega
   subst f;refine⟨1,?_⟩;simp only[qy,Bi,Ba];simp[lowS]
  |succ k r=>
   intro i f;have b:i<l.length:=by omega
   obtain⟨n,c⟩:=r (i+1) (by omega);refine⟨n+1,?_⟩;have p:=Bb l[i];simp only[qy,ME (Nat.le_of_lt b),qD b,Ca,iC,Lb,Zi,Sa,yJ b,zb,Aa];cases g:(bif decide (65<=(l[i].toNat:Int))then decide ((l[i].toNat:Int)<=90)else false)with
   |true=> have e:=zBX _ p g;simp only[e,Ca,Aa,zh,ZC b h];rw[show UInt8.ofNat (Si l[i].toNat)=Ti l[i]from rfl,nE b];exact c
   |false=>
    have e:Ti l[i]=l[i]:=by unfold Ti Si;rw[Ja,Nc];rintro⟨s,u⟩;rw[Ea (by omega),Ca,Ea (by omega)]at g;cases g
    simp only[Ba,zh,ZC b h];rw[LW b Ti e];exact c
 obtain⟨n,c⟩:=d l.length 0 (by omega);replace c:=mh c;simp only[List.take_zero,Lg,Ub,Yg]at c;exact(Ci c).trans rfl
def Zm(l:Str):Bool:=l.all fun b=> !(b==0)
theorem TE(c:UInt8): ∀l:Str,decide (Lib.indexByte l c>=0)=l.any fun b=>b==c
 |[]=>rfl
 |b::l=>by
  have d:=TE c l;have a:=Lib.indexByte_ge l c;rw[List.any_cons,Lib.indexByte]
  grind
theorem zAD(l:Str):(l.any fun b=>b==0)= !Zm l:=by
 unfold Zm
 grind
theorem Dr(l:Str)(n:Int):strings_IndexByte (l,n)=some (Lib.indexByte l n.toNat.toUInt8):=rfl
theorem SE(l:Str):decide (Lib.indexByte l (0:Int).toNat.toUInt8>=0)= !Zm l:=(TE 0 l).trans (zAD l)
theorem oC(n m:Nat):decide ((n:Int)>(m:Int))= !decide (n<=m):=by
 grind
theorem byte_zero(b:UInt8):((b.toNat:Int)==0)=(b==0):=by
 by_cases h:b=0
 ·subst h;rfl
 ·have a:b.toNat≠0:=fun e=>h (Oe.1 e)
  grind
theorem CO(a b:Str):(a==b)=(b==a):=by
 grind
theorem UL{f:Option Int}{p:Bool}{i:Int}(h:f=some i)(a:decide (i>=0)=p):(zb f fun y=>some (decide (y>=0)))=some p:=by
 grind
theorem QA(l m:Str):strings_HasPrefix (l,m)=some (m.isPrefixOf l):=by
 have a: ∀m l:Str,m.isPrefixOf l=(decide (m.length<=l.length)&&l.take m.length==m):=by
  intro m l;rw[Gf];simp only[We,Fa,Kb,Cb];constructor
  ·rintro⟨t,rfl⟩
   grind
  ·grind
 unfold strings_HasPrefix stringslite_HasPrefix;simp_all
theorem D6(l m:Str):strings_TrimPrefix (l,m)=some (bif m.isPrefixOf l then l.drop m.length else l):=by
 have h:stringslite_HasPrefix (l,m)=some (m.isPrefixOf l):=by
  have:=QA l m;unfold strings_HasPrefix at this;cases hh:stringslite_HasPrefix (l,m)with
  |none=>grind
  |some b=>grind
 unfold strings_TrimPrefix stringslite_TrimPrefix;simp only[h,zb,Aa];cases hp:m.isPrefixOf l with
 |false=>rfl
 |true=> have hl:=(We.1 hp).length_le;simp_all
theorem iG{a b:Str}(c:a.length<=big)(h2:b.length<=big):Io (a,b)=some (lowS a==lowS b):=by unfold Io;simp only[gG c,gG h2,zb,Aa]
theorem iF{a b:Str}(c:a.length<=big)(h2:b.length<=big):Z9 (a,b)=some (lowS a==lowS b):=by unfold Z9;simp only[gF c,gF h2,zb,Aa]
def Dh(n:Nat):Bool:=
 !(n==0||n==9||n==10||n==12||n==13||n==32||n==34||n==39||n==40||n==41||n==44||n==58||n==59||n==91||n==93||n==95||n==123||n==125)&&
  (decide (n<128)&& !((decide (48<=n)&&decide (n<=57))||(decide (65<=n)&&decide (n<=90))||(decide (97<=n)&&decide (n<=122))))
set_option maxRecDepth 100000 in
theorem mU: ∀n:Nat,n<256->PH 40 (n:Int)=some (Dh n):=by decide+kernel
def Az:Prop:= ∀b:UInt8,Qa (b.toNat:Int)=some (Dh b.toNat)
theorem I7:Az:=fun b=>
 X8 40 _ _ (mU _ (Bb b))
def digN(n:Nat):Bool:=decide (48<=n)&&decide (n<=57)
theorem tZ: ∀n:Nat,n<256->zw (n:Int)=some (digN n):=by decide+kernel
theorem NN(b:UInt8):zw (b.toNat:Int)=some (digN b.toNat):=(tZ _ (Bb b))
theorem V3: ∀n:Nat,n<256->Z8 (n:Int)=some (digN n):=by decide+kernel
theorem mQ(b:UInt8):Z8 (b.toNat:Int)=some (digN b.toNat):=(V3 _ (Bb b))
def namN(n:Nat):Bool:=digN n||(decide (65<=n)&&decide (n<=90))||(decide (97<=n)&&decide (n<=122))||n==95||n==45||decide (128<=n)
theorem R3: ∀n:Nat,n<256->QU (n:Int)=some (namN n):=by decide+kernel
theorem lQ(b:UInt8):QU (b.toNat:Int)=some (namN b.toNat):=(R3 _ (Bb b))
def Oi:Str->Bool
 |[]=>false
 |b::r=>digN b.toNat||(b==45&&(r==[]||digN (r.headD 0).toNat))
theorem Qs(b c:UInt8):((b.toNat:Int)==(c.toNat:Int))=(b==c):=by
 by_cases h:b=c
 ·subst h;simp
 ·have a:b.toNat≠c.toNat:=fun e=>h (Oe.1 e)
  grind
theorem RU(b:UInt8):((b.toNat:Int)==45)=(b==45):=Qs b 45
theorem M5(l:Str):Nv l=some (Oi l):=by
 unfold Nv;cases l with
 |nil=>rfl
 |cons b r=>
  have f:geti (b::r) 0=some b:=rfl;have g:(b::r==([]:Str))=false:=rfl;simp only[g,Ba,f,zb,Aa,NN,ZY,RU];cases r with
  |nil=>
   have e:(([b]:Str)==[45])=(b==45):=by show((b==45)&&true)=_;rw[Lb]
   simp only[e];unfold Oi;cases c:(b==45)with
   |false=>cases h:digN b.toNat<;>simp[c,zq,h]
   |true=>simp_all
  |cons d r=>
   have a:geti (b::d::r) 1=some d:=rfl;have e:((b::d::r:Str)==[45])=false:=by show((b==45)&&false)=_;rw[lc]
   simp only[a,e,ZY,Aa,NN,Oi,List.headD_cons]
   grind
def numS:Str->Bool
 |[]=>false
 |b::r=>bif b==45 then !(r==[])&&digN (r.headD 0).toNat else digN b.toNat
theorem dR(l:Str):Co l=some (numS l):=by
 unfold Co;simp only[D6,zb,Aa];have a: ∀m:Str,((zq (!(m==[])) (geti m 0) 0).bind fun c=>(zq (!(m==[])) (Z8 (c.toNat:Int)) (default:Bool)).bind fun d=>some (bif !(m==[])then d else false))=some (!(m==[])&&digN (m.headD 0).toNat):=by
  intro m;cases m with
  |nil=>rfl
  |cons b r=> have f:geti (b::r) 0=some b:=rfl;have g:(b::r==([]:Str))=false:=rfl;simp only[g,Va,zx,f,Aa,mQ,Ca,List.headD_cons,ma]
 rw[a];cases l with
 |nil=>rfl
 |cons b r=>
  have e:List.isPrefixOf [45] (b::r)=(b==45):=by
   show((45==b)&&true)=_;rw[Lb];cases h:(b==45)with
   |true=>grind
   |false=>grind
  rw[e];show _=some (bif b==45 then !(r==[])&&digN (r.headD 0).toNat else digN b.toNat)
  grind
theorem uW(l:Str):((numS l&& !(List.isPrefixOf [45,45] l))||l==[45])=Oi l:=by
 cases l with
 |nil=>rfl
 |cons b r=>
  cases a:(b==45)with
  |false=>
   have e:List.isPrefixOf [45,45] (b::r)=false:=by show((45==b)&&_)=_;rw[Ha]at a;rw[Ha.2 (Ne.symm a)];rfl
   have c:((b::r:Str)==[45])=false:=by show((b==45)&&_)=_;rw[a];rfl
   rw[e,c];unfold numS Oi;simp[a]
  |true=>
   rw[Cb]at a;subst a;cases r with
   |nil=>rfl
   |cons d r=>
    have c:((45::d::r:Str)==[45])=false:=rfl;rw[c];unfold numS Oi;have e:List.isPrefixOf [45,45] (45::d::r)=(45==d):=by show((45==(45:UInt8))&&((45==d)&&true))=_;rw[Lb];rfl
    rw[e];simp only[List.headD_cons];have f:digN 45=false:=by decide
    cases h:(45==d)with
    |false=>simp[f]
    |true=>rw[Cb]at h;subst h;rfl
def delS(l:Str):Bool:=match l with
 |[b]=>Dh b.toNat
 |_=>false
def rngS(x:ze):Bool:=decide (-1000000000000<=x.num)&&(decide (x.num<=1000000000000)&&(!x.flag||Int.tmod x.num 1000==0))
def Pf(x:ze):Bool:=
 bif x.kind==1||x.kind==2||x.kind==3 then !(x.text==[])&&(Zm x.text&&(x.num==0&&(x.unit==[]&& !x.flag)))
 else bif x.kind==4 then !(x.text==[])&&(Zm x.text&&((x.flag||Oi x.text)&&(x.num==0&&x.unit==[])))
 else bif x.kind==5||x.kind==7 then Zm x.text&&(x.num==0&&(x.unit==[]&& !x.flag))
 else bif x.kind==9 then delS x.text&&(x.num==0&&(x.unit==[]&& !x.flag))
 else bif x.kind==10||x.kind==11||x.kind==12 then rngS x&&((!(x.unit==[])==(x.kind==12))&&(Zm x.unit&&((!(x.kind==11)|| !x.flag)&&x.text==[])))
 else(decide (13<=x.kind)&&decide (x.kind<=24))&&(x.text==[]&&(x.num==0&&(x.unit==[]&& !x.flag)))
theorem KR{l:Str}(h:l.length<=big):Wl l=some (Zm l):=by
 unfold Wl;refine(Pv l (fun b=>bif (!(b==0))then none else some false) () (fun i a=> ?_) ?_).trans ?_
 ·simp only[qD a,Ca,Zo a,zb,Aa,byte_zero,ZC a h]
  grind
 ·grind
 ·rw[cz];show _=some (Zm l);unfold Zm
  grind
theorem one_byte(l:Str)(p:Nat->Bool)(d:Bool)(f:Int->Option Bool)(hf: ∀b:UInt8,f (b.toNat:Int)=some (p b.toNat))(g:Bool):
  ((zq (g&&(l.length:Int)==1) (geti l 0) (0:UInt8)).bind fun y=>zq (g&&(l.length:Int)==1) (f (y.toNat:Int)) d)=some (bif g&&(l.length:Int)==1 then(match l with|[b]=>p b.toNat|_=>false)else d):=by
 cases g with
 |false=>rfl
 |true=>
  cases l with
  |nil=>rfl
  |cons b r=>
   cases r with
   |nil=> show((geti [b] 0).bind fun y=>f (y.toNat:Int))=some (p b.toNat);rw[show geti [b] 0=some b from rfl];exact hf b
   |cons c r=> have:(((b::c::r).length:Int)==1)=false:=Ha.2 (by grind);rw[this];rfl
theorem IZ(a:Az)(l:Str)(g:Bool):((zq (g&&(l.length:Int)==1) (geti l 0) (0:UInt8)).bind fun y=>zq (g&&(l.length:Int)==1) (Qa (y.toNat:Int)) (default:Bool))=some (bif g&&(l.length:Int)==1 then delS l else default):=
 one_byte l Dh default Qa a g
theorem pV(l:Str):(((l.length:Int)==1)&&delS l)=delS l:=by
 cases l with
 |nil=>rfl
 |cons b r=>
  cases r with
  |nil=>rfl
  |cons c r=> have:(((b::c::r).length:Int)==1)=false:=Ha.2 (by grind);rw[this];rfl
theorem K5(C:Az){x:ze}(v:x.text.length<=big)(h2:x.unit.length<=big):Mv x=some (Pf x):=by
 have n:=IZ C x.text true;simp only[ma]at n;have q:((zq ((x.text.length:Int)==1) (geti x.text 0) (0:UInt8)).bind fun o=>(zq ((x.text.length:Int)==1) (Qa (o.toNat:Int)) (default:Bool)).bind fun D=>some (bif bif (x.text.length:Int)==1 then D else false then x.kind==x.kind&&(([]:Str)==[]&&(x.num==0&&(x.unit==[]&&(x.flag==false&&true))))else false))=some (delS x.text&&(x.num==0&&(x.unit==[]&& !x.flag))):=by
  have e: ∀(k:Bool->Option Bool),((zq ((x.text.length:Int)==1) (geti x.text 0) (0:UInt8)).bind fun o=>(zq ((x.text.length:Int)==1) (Qa (o.toNat:Int)) (default:Bool)).bind k)=(((zq ((x.text.length:Int)==1) (geti x.text 0) (0:UInt8)).bind fun y=>zq ((x.text.length:Int)==1) (Qa (y.toNat:Int)) (default:Bool))).bind k:=by intro k;rw[Option.bind_assoc]
  rw[e,n,Aa,<-pV x.text];simp only[df];cases (x.text.length:Int)==1<;>cases delS x.text<;>cases x.flag<;>rfl
 unfold Mv;simp only[zb,KR v,KR h2,M5,ZY,Aa,ge_iff_le];unfold Pf rngS;by_cases B:x.kind=9
 ·simp_all
 clear n q;have E:=Ha.2 B;generalize delS x.text=J;generalize Zm x.text=p;generalize Zm x.unit=M;generalize Oi x.text=H;generalize c:(x.text==[])=i;generalize d:(x.unit==[])=j;generalize a:(x.num==0)=m;generalize b:x.flag=l;generalize decide (-1000000000000<=x.num)=N;generalize decide (x.num<=1000000000000)=L;generalize (Int.tmod x.num 1000==0)=z;by_cases r:x.kind=1
 ·simp only[r,zh,Ca,Ba,c,d,a,b,Int.reduceBEq];cases p<;>cases i<;>cases j<;>cases m<;>cases l<;>rfl
 by_cases s:x.kind=2
 ·simp only[s,zh,Ca,Ba,c,d,a,b,Int.reduceBEq];cases p<;>cases i<;>cases j<;>cases m<;>cases l<;>rfl
 by_cases t:x.kind=3
 ·simp only[t,zh,Ca,Ba,c,d,a,b,Int.reduceBEq];cases p<;>cases i<;>cases j<;>cases m<;>cases l<;>rfl
 by_cases u:x.kind=4
 ·simp only[u,zh,Ca,Ba,c,d,a,b,Int.reduceBEq]
  grind
 by_cases G:x.kind=5
 ·simp_all
 by_cases F:x.kind=7
 ·simp_all
 by_cases g:x.kind=10
 ·simp only[g,zh,Ca,Ba,c,d,a,b,Int.reduceBEq]
  grind
 by_cases h:x.kind=11
 ·simp only[h,zh,Ca,Ba,c,d,a,b,Int.reduceBEq]
  grind
 by_cases f:x.kind=12
 ·simp only[f,zh,Ca,Ba,c,d,a,b,Int.reduceBEq]
  grind
 simp only[E,Ha.2 r,Ha.2 s,Ha.2 t,Ha.2 u,Ha.2 G,Ha.2 F,Ha.2 g,Ha.2 h,Ha.2 f,zh,Ca,Ba,c,d,a,b,df,Bool.or_self];by_cases w:x.kind=6
 ·simp_all
 by_cases A:x.kind=8
 ·simp_all
 simp only[Ha.2 w,Ha.2 A,zh,Ca,Ba];have e:(decide (1<=x.kind)&&decide (x.kind<=24))=(decide (13<=x.kind)&&decide (x.kind<=24)):=by
  by_cases K:13<=x.kind
  ·grind
  ·grind
 rw[<-e];cases decide (1<=x.kind)<;>cases decide (x.kind<=24)<;>cases i<;>cases j<;>cases m<;>cases l<;>rfl
abbrev Pt:Str:=[32,9,10,12,13,34,39,58,59,44,91,93,40,41,123,125]
theorem XA: ∀(m:Str) (c:UInt8),Lib.index m [c]=Lib.indexByte m c
 |[],c=>rfl
 |b::l,c=>by
  have h:List.isPrefixOf [c] (b::l)=(b==c):=by
   show(c==b&&List.isPrefixOf [] l)=_;rw[List.isPrefixOf,Lb];by_cases e:b=c
   ·subst e;rfl
   ·grind
  rw[Lib.index,Lib.indexByte,h,XA l c]
theorem contains_one(m:Str)(c:UInt8)(a:short m=true:=by decide):strings_Contains (m,[c])=some (m.any fun b=>b==c):=by unfold strings_Contains;simp only[Vj,a,Zi,zb,Aa,XA,TE]
theorem M8(c:UInt8):strings_Contains ([32,9,10,12,13,34,39,58,59,44,91,93,40,41,123,125],[c])=some (Pt.any fun b=>b==c):=contains_one Pt c
theorem JZ: ∀n:Nat,n<256->((bif bif !(UInt8.ofNat n==0)then !namN n else false then true else UInt8.ofNat n==45)&&(!(Pt.any fun b=>b==UInt8.ofNat n)))=Dh n:=by decide+kernel
theorem oV(b:UInt8):((bif bif !(b==0)then !namN b.toNat else false then true else b==45)&&(!(Pt.any fun c=>c==b)))=Dh b.toNat:=by have:=JZ b.toNat (Bb b);simp_all
theorem O4(a b:Str):Zm (a++b)=(Zm a&&Zm b):=by unfold Zm;grind
theorem zAz(n:Int):decide (n<0)= !decide (n>=0):=by
 grind
theorem yt: ∀(l:Str) (n:Nat),valG n l=n*10 ^ l.length+valG 0 l
 |[],n=>by simp[valG]
 |c::l,n=>by
  show valG (decN n c) l=n*10 ^ (l.length+1)+valG (decN 0 c) l;rw[yt l (decN n c),yt l (decN 0 c),Nat.pow_succ];unfold decN
  grind
theorem RX(l:Str)(i:Nat):valG 0 (l.take i)<=valG 0 l:=by
 have h:valG 0 l=valG (valG 0 (l.take i)) (l.drop i):=by rw[<-Iz,List.take_append_drop]
 rw[h,yt (l.drop i)];have:=Od (valG 0 (l.take i)) (Mf (n:=(l.drop i).length) (show 0<10 by omega));omega
theorem Un{b:UInt8}(h:digB b=true):48<=b.toNat/\b.toNat<=57:=by unfold digB at h;simpa using h
theorem dV {R:Type} {step:Int×Int->Option (LO (Int×Int) Int R)} {l:Str} (b:l.all digB=true) (g:l.length<=100000) (j:valG 0 l<=1000000000000)
  (a: ∀(v:Int) (i:Nat) (hi:i<l.length),step (v,(i:Int))=some (.again (if 1000000000000<w64 (w64 (10*v)+w64 (wu8 ((l[i].toNat:Int) - 48)))then 1000000000000 else w64 (w64 (10*v)+w64 (wu8 ((l[i].toNat:Int) - 48))),w64 ((i:Int)+1))))
  (h2: ∀v:Int,step (v,(l.length:Int))=some (.out v)):Nf step (0,0)=some (.out ((valG 0 l:Nat):Int)):=by
 refine Zv (fun s=> ∃i:Nat,i<=l.length/\s=(((valG 0 (l.take i):Nat):Int),(i:Int))) (fun s=>l.length - s.2.toNat) _ ?_ ⟨0,by omega,rfl⟩;rintro _ ⟨i,hi,rfl⟩;rcases Lc i l.length with h|h
 ·refine .inl ⟨_,a _ i h,⟨i+1,by omega,?_⟩,by simp only;rw[zJ (by omega) (by omega)];omega⟩;have e:=Un (Rb.1 b _ (Ac h));have d:valG 0 (l.take (i+1))=decN (valG 0 (l.take i)) l[i]:=by rw[Kc h,Iz];rfl
  have f:=RX l (i+1);have c:wu8 ((l[i].toNat:Int) - 48)=((l[i].toNat - 48:Nat):Int):=by show IntKind.u8.wrap _=_;rw[IntKind.wrap_u8];omega
  unfold decN at d;rw[c,zJ (n:=10*_) (by omega) (by omega),zJ (n:=((l[i].toNat - 48:Nat):Int)) (by omega) (by omega),zJ (n:=(i:Int)+1) (by omega) (by omega),zJ (by omega) (by omega),Ja (by omega)];refine Prod.ext ?_ ?_
  ·grind
  ·grind
 grind
theorem VZ {R:Type} {step:Int×Int->Option (LO (Int×Int) Int R)} {v p:Nat} (g:p<=100) (i:v*10 ^ p<=1000000000000)
  (h: ∀(a b:Int),step (a,b)=bif bif bif decide (a>0)then decide (b>0)else false then decide (b<1000000000000)else false then some (.again (w64 (a - 1),if 1000000000000<w64 (10*b)then 1000000000000 else w64 (10*b)))else some (.out b)):
  Nf step ((p:Int),(v:Int))=some (.out ((v*10 ^ p:Nat):Int)):=by
 refine Zv (fun s=> ∃a b:Nat,s=((a:Int),(b:Int))/\a<=100/\b*10 ^ a=v*10 ^ p) (fun s=>s.1.toNat) _ ?_ ⟨p,v,rfl,g,rfl⟩;rintro _ ⟨a,b,rfl,j,d⟩;rw[h];cases a with
 |zero=>
  grind
 |succ a=>
  rw[Ea (show((a+1:Nat):Int)>0 by omega),Ca];rw[Nat.pow_succ,<-jf]at d;have c:0<10 ^ a:=Mf (by omega);cases Vg b with
  |inl e=> subst e;refine .inr (.inl ⟨0,rfl,?_⟩);rw[<-d];simp
  |inr e=>
   rw[Ea (show((b:Nat):Int)>0 by omega),Ca];have f:b<=b*10 ^ a:=Od b c;rw[Ea (show((b:Nat):Int)<1000000000000 by omega),Ca];refine .inl ⟨_,rfl,⟨a,10*b,?_,by omega,?_⟩,by simp only;rw[zJ (by omega) (by omega)];omega⟩
   ·rw[zJ (by omega) (by omega),zJ (by omega) (by omega),Ja (by omega)];refine Prod.ext ?_ ?_
    ·show((a+1:Nat):Int) - 1=(a:Int);omega
    ·show 10*(b:Int)=((10*b:Nat):Int);omega
   ·rw[<-d,Kg 10 b,jf,jf,Kg 10 (10 ^ a)]
theorem nD: ∀(q:Str),q.all digB=true->Lib.indexByte q 46= -1
 |[],_=>rfl
 |c::q,h=>by
  rw[Rc,Fa]at h;have a:=Un h.1;have b:(c==46)=false:=by refine Ha.2 (fun e=> ?_);subst e;revert a;decide
  rw[Lib.indexByte,b,nD q h.2];rfl
theorem oD: ∀(q g:Str),q.all digB=true->Lib.indexByte (q++46::g) 46=(q.length:Int)
 |[],g,_=>by rw[Ub,Lib.indexByte];rfl
 |c::q,g,h=>by
  rw[Rc,Fa]at h;have hd:=Un h.1;have hc:(c==46)=false:=by refine Ha.2 (fun e=> ?_);subst e;revert hd;decide
  rw[Xa,Lib.indexByte,hc,oD q g h.2];have:((q.length:Int)== -1)=false:=Ha.2 (by omega);rw[this,Ia];simp
theorem mD: ∀(l:Str),(l.all fun b=>digB b||b==46)=true->Lib.indexAny l [101,69]= -1
 |[],_=>rfl
 |c::l,h=>by
  rw[Rc,Fa]at h;have hc:List.contains [101,69] c=false:=by
   have: ∀n:Nat,n<256->(digB (UInt8.ofNat n)||UInt8.ofNat n==46)=true->List.contains [101,69] (UInt8.ofNat n)=false:=by decide+kernel
   have:=this c.toNat (Bb c);rw[Nc]at this;exact this h.1
  rw[Lib.indexAny,hc,mD l h.2];rfl
end Go.Lv.VT
