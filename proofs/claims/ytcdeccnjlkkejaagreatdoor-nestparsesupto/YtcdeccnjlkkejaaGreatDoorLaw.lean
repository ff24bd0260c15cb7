/- The reading of tokens: what the program's text and the reference's come to. -/
import Derived.Test.YtcdeccnjlkkejaaGreatDoorTy
import Derived.Test.YtcdeccnjlkkejaaGreatDoorMo
import Derived.Test.YtcdeccnjlkkejaaGreatDoorTx
set_option linter.unusedSimpArgs false
set_option linter.unusedVariables false
namespace Go.Lv.VT
def atS(l:Str)(n:Nat):UInt8:=l.getD n 0
def digB(b:UInt8):Bool:=decide (48<=b.toNat)&&decide (b.toNat<=57)
def spB(b:UInt8):Bool:=b==10||b==9||b==32
def alB(b:UInt8):Bool:=decide (65<=b.toNat)&&decide (b.toNat<=90)||decide (97<=b.toNat)&&decide (b.toNat<=122)
def fstB(b:UInt8):Bool:=alB b||b==95||decide (128<=b.toNat)
def letB(b:UInt8):Bool:=fstB b||digB b||b==45
def hexN(b:UInt8):Nat:=
 if digB b then b.toNat - 48 else if 97<=b.toNat/\b.toNat<=102 then b.toNat - 87 else if 65<=b.toNat/\b.toNat<=70 then b.toNat - 55 else 16
def qA(b:UInt8):Bool:=decide (hexN b<16)
def escS(l:Str):Bool:=atS l 0==92&& !(atS l 1==10)
def nmS(l:Str):Bool:=if atS l 0==45 then fstB (atS l 1)||atS l 1==45||escS (l.drop 1)else fstB (atS l 0)||escS l
def Jf(b:UInt8):Bool:=b==43||b==45
def unsign(l:Str):Str:=if Jf (atS l 0)then l.drop 1 else l
def undot(l:Str):Str:=if atS l 0==46 then l.drop 1 else l
def nbS(l:Str):Bool:=digB (atS (undot (unsign l)) 0)
def Ji:Str:=[239,191,189]
def rf(n:Nat):Str:=
 if n=0\/(55296<=n/\n<=57343)\/1114111<n then Ji
 else if n<128 then [UInt8.ofNat n]
 else if n<2048 then [UInt8.ofNat (192+n / 64),UInt8.ofNat (128+n%64)]
 else if n<65536 then [UInt8.ofNat (224+n / 4096),UInt8.ofNat (128+n / 64%64),UInt8.ofNat (128+n%64)]
 else [UInt8.ofNat (240+n / 262144),UInt8.ofNat (128+n / 4096%64),UInt8.ofNat (128+n / 64%64),UInt8.ofNat (128+n%64)]
def hexes:Nat->Nat->Str->Nat×Str
 |0,n,l=>(n,l)
 |_+1,n,[]=>(n,[])
 |k+1,n,c::r=>if qA c then hexes k (16*n+hexN c) r else(n,c::r)
def unsp:Str->Str
 |[]=>[]
 |c::r=>if spB c then r else c::r
def zq:Str->Str×Str
 |[]=>(Ji,[])
 |c::r=>if qA c then(rf (hexes 6 0 (c::r)).1,unsp (hexes 6 0 (c::r)).2)else([c],r)
theorem Tu: ∀(k n:Nat) (l:Str),(hexes k n l).2<:+l
 |0,n,l=>Ad l
 |k+1,n,[]=>Ad _
 |k+1,n,c::r=>by
  unfold hexes;split
  ·exact(Tu k _ r).trans (lc c r)
  grind
theorem gU(l:Str):unsp l<:+l:=by
 cases l with
 |nil=>exact Ad _
 |cons c r=>
  show(if spB c then r else c::r)<:+c::r
  grind
theorem Zh(l:Str):(zq l).2<:+l:=by
 cases l with
 |nil=>exact Ad _
 |cons c r=>
  show(if qA c then(rf (hexes 6 0 (c::r)).1,unsp (hexes 6 0 (c::r)).2)else([c],r)).2<:+c::r;split
  ·exact(gU _).trans (Tu 6 0 _)
  grind
theorem Zf(l:Str):(zq l).2.length<=l.length:=(Zh l).length_le
def zo:Str->Str×Str
 |[]=>([],[])
 |c::r=>
  if letB c then((c::(zo r).1),(zo r).2)
  else if escS (c::r)then((zq r).1++(zo (zq r).2).1,(zo (zq r).2).2)
  else([],c::r)
termination_by l=>l.length
decreasing_by
 all_goals first|(have:=Zf r;simp only[Ia];omega)|(simp only[Ia];omega)
def past(p:UInt8->Bool):Str->Str
 |[]=>[]
 |c::r=>if p c then past p r else c::r
theorem Tm(p:UInt8->Bool): ∀l:Str,past p l<:+l
 |[]=>Ad _
 |c::r=>by
  unfold past;split
  ·exact(Tm p r).trans (lc c r)
  grind
def zT(l:Str):Str×Bool:=
 if atS l 0==46&&digB (atS l 1)then(past digB (l.drop 1),false)else(l,true)
def expS(l:Str):Option Str:=
 if atS l 0==101||atS l 0==69 then(if digB (atS (unsign (l.drop 1)) 0)then some (past digB (unsign (l.drop 1)))else none)else none
def zy(l:Str):Str×Bool:=
 let x:=zT (past digB (unsign l))
 match expS x.1 with
 |some r=>(r,false)
 |none=>x
def decN(n:Nat)(b:UInt8):Nat:=10*n+(b.toNat - 48)
def upto(l r:Str):Str:=l.take (l.length - r.length)
def zY(m:UInt8):Str->Option Str×Str
 |[]=>(some [],[])
 |c::r=>
  if c==m then(some [],r)
  else if c==10 then(none,c::r)
  else if c==92 then
   (if r.isEmpty then(some [],[])
   else if atS r 0==10 then zY m (r.drop 1)
   else((zY m (zq r).2).1.map ((zq r).1++ ·),(zY m (zq r).2).2))
  else((zY m r).1.map (c:: ·),(zY m r).2)
termination_by l=>l.length
decreasing_by
 all_goals first|(have:=Zf r;simp only[Ia];omega)|(simp only[Ia,ib];omega)
def badS:Str->Str
 |[]=>[]
 |c::r=>if c==41 then r else if escS (c::r)then badS (zq r).2 else badS r
termination_by l=>l.length
decreasing_by
 all_goals first|(have:=Zf r;simp only[Ia];omega)|(simp only[Ia];omega)
def unB(b:UInt8):Bool:=decide (b.toNat<=8)||b==11||decide (14<=b.toNat)&&decide (b.toNat<=31)||b==127
def urlS:Str->Option Str×Str
 |[]=>(some [],[])
 |c::r=>
  if c==41 then(some [],r)
  else if spB c then(match past spB r with
   |[]=>(some [],[])
   |d::a=>if d==41 then(some [],a)else(none,badS (d::a)))
  else if c==34||c==39||c==40||unB c||c==92&& !escS (c::r)then(none,badS (c::r))
  else if c==92 then((urlS (zq r).2).1.map ((zq r).1++ ·),(urlS (zq r).2).2)
  else((urlS r).1.map (c:: ·),(urlS r).2)
termination_by l=>l.length
decreasing_by
 all_goals first|(have:=Zf r;simp only[Ia];omega)|(simp only[Ia];omega)
def bf(b:UInt8):Int:=
 if b==58 then 16 else if b==59 then 17 else if b==44 then 18 else if b==91 then 19 else if b==93 then 20 else if b==40 then 21 else if b==41 then 22 else if b==123 then 23 else if b==125 then 24 else 0
def Ug(k:Int):zb:=⟨k,[],0,[],false⟩
def Mf:Nat:=1000000000000
def Fg:Nat->Nat->Nat
 |0,n=>n
 |k+1,n=>if n=0\/Mf<=n then n else Fg k (min Mf (10*n))
set_option maxRecDepth 100000
abbrev sc(s:Str)(k:Nat):za:=⟨s,(k:Int)⟩
def pk(l:Str)(n:Nat):Int:=match l[n]? with|some b=>(b.toNat:Int)|none=> -1
def beh(s r:Str):Nat:=s.length - r.length
theorem zK{n:Int}(a: -9223372036854775808<=n)(h2:n<=9223372036854775807):w64 n=n:=qc a h2
theorem Pm{s r:Str}(h:r<:+s):s.drop (beh s r)=r:=by obtain⟨t,rfl⟩:=h;unfold beh;simp_all
theorem ng(s r:Str):beh s r<=s.length:=by unfold beh;omega
theorem BX{s:Str}{k:Nat}(h:k<=s.length):beh s (s.drop k)=k:=by unfold beh;grind
theorem Xx{s:Str}{k n:Nat}(c:s.length<=big)(g:k<=s.length)(f:n<=8):zf ((n:Int),sc s k)=some (pk (s.drop k) n):=by
 have d:big=4194304:=rfl;have e:w64 ((k:Int)+(n:Int))=((k+n:Nat):Int):=by rw[zK (by omega) (by omega)];omega
 unfold zf pk;simp only[e];rw[jc];by_cases h:k+n<s.length
 ·rw[Fa (by omega),Ca];have b:geti s ((k+n:Nat):Int)=some s[k+n]:=Z8 h;have a:=aa s[k+n];simp only[ze,b,Aa,Sa h];rw[zK (by omega) (by omega)]
 ·grind
theorem mq{s:Str}{k:Nat}(b:s.length<=big)(a:k<=s.length):zf (0,sc s k)=some (pk (s.drop k) 0):=Xx (n:=0) b a (by omega)
theorem AB{s:Str}{k:Nat}(b:s.length<=big)(a:k<=s.length):zf (1,sc s k)=some (pk (s.drop k) 1):=Xx (n:=1) b a (by omega)
theorem zBn{s:Str}{k:Nat}(b:s.length<=big)(a:k<=s.length):zf (2,sc s k)=some (pk (s.drop k) 2):=Xx (n:=2) b a (by omega)
theorem uq{a:Type}{f:Int->Option a}{p:UInt8->a}(h: ∀b:UInt8,f (b.toNat:Int)=some (p b))(c:f (-1)=some (p 0))(l:Str)(n:Nat):f (pk l n)=some (p (atS l n)):=by
 unfold pk atS
 grind
theorem of_n{a:Type}{f:Int->Option a}{p:UInt8->a}(h: ∀n:Nat,n<256->f (n:Int)=some (p (UInt8.ofNat n)))(b:UInt8):f (b.toNat:Int)=some (p b):=by have:=h b.toNat (aa b);simp_all
theorem Ps(l:Str)(n:Nat):qg (pk l n)=some (spB (atS l n)):=uq (of_n (by decide+kernel)) (by decide+kernel) l n
theorem Tk(l:Str)(n:Nat):Zq (pk l n)=some (digB (atS l n)):=uq (of_n (by decide+kernel)) (by decide+kernel) l n
theorem aR(l:Str)(n:Nat):En (pk l n)=some (fstB (atS l n)):=uq (of_n (by decide+kernel)) (by decide+kernel) l n
theorem iJ(l:Str)(n:Nat):Uq (pk l n)=some (letB (atS l n)):=uq (of_n (by decide+kernel)) (by decide+kernel) l n
def hexI(b:UInt8):Int:=if qA b then(hexN b:Int)else -1
theorem vv(l:Str)(n:Nat):Vk (pk l n)=some (hexI (atS l n)):=uq (of_n (by decide+kernel)) (by decide+kernel) l n
theorem Dh(l:Str)(n:Nat)(c:UInt8)(h:c≠0):(pk l n==(c.toNat:Int))=(atS l n==c):=by
 unfold pk atS;rw[Df];cases l[n]? with
 |none=>
  grind
 |some b=>
  show((b.toNat:Int)==(c.toNat:Int))=(b==c);by_cases e:b=c
  ·grind
  ·have:b.toNat≠c.toNat:=fun h=>e (Fe.1 h)
   grind
theorem xA(l:Str)(n:Nat):(pk l n==10)=(atS l n==10):=Dh l n 10 (by decide)
theorem KR(l:Str)(n:Nat):(pk l n==34)=(atS l n==34):=Dh l n 34 (by decide)
theorem zBo(l:Str)(n:Nat):(pk l n==35)=(atS l n==35):=Dh l n 35 (by decide)
theorem zBp(l:Str)(n:Nat):(pk l n==37)=(atS l n==37):=Dh l n 37 (by decide)
theorem JR(l:Str)(n:Nat):(pk l n==39)=(atS l n==39):=Dh l n 39 (by decide)
theorem zBq(l:Str)(n:Nat):(pk l n==40)=(atS l n==40):=Dh l n 40 (by decide)
theorem uA(l:Str)(n:Nat):(pk l n==41)=(atS l n==41):=Dh l n 41 (by decide)
theorem rA(l:Str)(n:Nat):(pk l n==43)=(atS l n==43):=Dh l n 43 (by decide)
theorem lq(l:Str)(n:Nat):(pk l n==45)=(atS l n==45):=Dh l n 45 (by decide)
theorem nA(l:Str)(n:Nat):(pk l n==46)=(atS l n==46):=Dh l n 46 (by decide)
theorem zBr(l:Str)(n:Nat):(pk l n==64)=(atS l n==64):=Dh l n 64 (by decide)
theorem zBs(l:Str)(n:Nat):(pk l n==69)=(atS l n==69):=Dh l n 69 (by decide)
theorem IR(l:Str)(n:Nat):(pk l n==92)=(atS l n==92):=Dh l n 92 (by decide)
theorem zAI(l:Str)(n:Nat):(pk l n==101)=(atS l n==101):=Dh l n 101 (by decide)
theorem ll(l:Str):(pk l 0== -1)=l.isEmpty:=by
 cases l with
 |nil=>rfl
 |cons b r=>
  show((b.toNat:Int)== -1)=false
  grind
theorem Qk(l:Str)(k n:Nat):atS (l.drop k) n=atS l (k+n):=by
 unfold atS
 grind
theorem nJ {R:Type} {step:za->Option (LO za za R)} {s:Str} (p:UInt8->Bool) (h0:p 0=false)
  (h: ∀k,k<=s.length->step (sc s k)=some (bif p (atS (s.drop k) 0)then .again (sc s (k+1))else .out (sc s k))) {k:Nat} (hk:k<=s.length):
  Lf step (sc s k)=some (.out (sc s (beh s (past p (s.drop k))))):=by
 refine Zw (fun z=> ∃j,z=sc s j/\j<=s.length/\past p (s.drop j)=past p (s.drop k)) (fun z=>s.length - z.at_.toNat) _ ?_ ⟨k,rfl,hk,rfl⟩;rintro _ ⟨j,rfl,hj,he⟩;rw[h j hj];cases hd:s.drop j with
 |nil=>
  rw[show atS ([]:Str) 0=0 from rfl,h0,Ba];refine .inr (.inl ⟨_,rfl,?_⟩);rw[<-he,hd];have:j=s.length:=by have:=Yd.1 hd;omega
  subst this;show LX.out (sc s (beh s []))=_;unfold beh;rw[Kb,Nat.sub_zero]
 |cons c r=>
  have hlt:j<s.length:=by
   rcases Yc j s.length with h'|h'
   ·exact h'
   ·grind
  have hr:s.drop (j+1)=r:=by have:=ja hlt;rw[hd]at this;injection this with _ h2;exact h2.symm
  rw[show atS (c::r) 0=c from rfl];cases hp:p c with
  |true=> refine .inl ⟨_,rfl,⟨j+1,rfl,by omega,?_⟩,by grind⟩;rw[hr,<-he,hd,past,hp];rfl
  |false=> refine .inr (.inl ⟨_,rfl,?_⟩);rw[<-he,hd,past,hp,Ja (by decide),<-hd,BX hj]
theorem oI{s:Str}{k:Nat}(b:s.length<=big)(a:k<=s.length):w64 ((k:Int)+1)=((k+1:Nat):Int):=by have c:big=4194304:=rfl;rw[zK (by omega) (by omega)];omega
theorem aU{s:Str}{k:Nat}(a:s.length<=big)(c:k<=s.length):zZ (sc s k)=some (sc s (beh s (past spB (s.drop k)))):=by
 unfold zZ;rw[Za (nJ spB rfl (fun j b=> ?_) c)];simp only[ze,mq a b,Aa,Ps,oI a b]
 grind
theorem NW{s:Str}{k:Nat}(a:s.length<=big)(c:k<=s.length):zW (sc s k)=some (sc s (beh s (past digB (s.drop k)))):=by
 unfold zW;rw[Za (nJ digB rfl (fun j b=> ?_) c)];simp only[ze,mq a b,Aa,Tk,oI a b]
 grind
theorem number_eq{s:Str}{k:Nat}(a:s.length<=big)(c:k<=s.length):Zr (sc s k)=some (nbS (s.drop k)):=by
 unfold Zr nbS unsign undot Jf;simp only[ze,mq a c,Aa,rA,lq];have d: ∀(b:Bool),(zX (X:=Int) (bif b then some (LX.out 1)else some (LX.out 0)) fun e=>
   zX (X:=Int) ((zf (e,sc s k)).bind fun f=>bif f==46 then some (LX.out (w64 (e+1)))else some (LX.out e)) fun g=>
   (zf (g,sc s k)).bind fun i=>(Zq i).bind fun j=>some j)=some (digB (atS (if atS (if b then(s.drop k).drop 1 else s.drop k) 0==46 then(if b then(s.drop k).drop 1 else s.drop k).drop 1 else(if b then(s.drop k).drop 1 else s.drop k)) 0)):=by
  intro b;cases b with
  |false=>
   simp only[Ba,zh,mq a c,Aa,nA,Ob,Ed];cases h:atS (s.drop k) 0==46 with
   |false=>simp only[Ba,zh,mq a c,Aa,Tk,Ob,Ed]
   |true=> simp only[Ca,zh,Jd];rw[show w64 (0+1)=1 from rfl,AB a c];simp only[Aa,Tk];rw[Qk (s.drop k) 1 0]
  |true=>
   simp only[Ca,zh,AB a c,Aa,nA,Jd];rw[Qk (s.drop k) 1 0];cases h:atS (s.drop k) (1+0)==46 with
   |false=> simp only[Tc]at h;simp only[h,Ba,zh,AB a c,Aa,Tk,Ob,Ed];rw[Qk (s.drop k) 1 0]
   |true=> simp only[Tc]at h;simp only[h,Ca,zh,Jd];rw[show w64 (1+1)=2 from rfl,zBn a c];simp only[Aa,Tk];rw[Ae,Qk (s.drop k) (1+1) 0]
 have:=d (atS (s.drop k) 0==43||atS (s.drop k) 0==45)
 grind
abbrev sr(s r:Str):za:=sc s (beh s r)
theorem sr_0(s:Str):(⟨s,0⟩:za)=sr s s:=by show sc s 0=sc s (beh s s);unfold beh;rw[Nat.sub_self]
theorem Il{s r:Str}{n:Nat}(b:s.length<=big)(c:r<:+s)(a:n<=8):zf ((n:Int),sr s r)=some (pk r n):=by rw[Xx b (ng s r) a,Pm c]
theorem Lg{s r:Str}(a:s.length<=big)(b:r<:+s):zf (0,sr s r)=some (pk r 0):=Il (n:=0) a b (by omega)
theorem Lr{s r:Str}(a:s.length<=big)(b:r<:+s):zf (1,sr s r)=some (pk r 1):=Il (n:=1) a b (by omega)
theorem zAH{s r:Str}(a:s.length<=big)(b:r<:+s):zf (2,sr s r)=some (pk r 2):=Il (n:=2) a b (by omega)
theorem jw{s r:Str}(a:s.length<=big)(b:r<:+s):zZ (sr s r)=some (sr s (past spB r)):=by rw[aU a (ng s r),Pm b]
theorem Gx{s r:Str}(a:s.length<=big)(b:r<:+s):zW (sr s r)=some (sr s (past digB r)):=by rw[NW a (ng s r),Pm b]
theorem XU{s r:Str}(a:s.length<=big)(b:r<:+s):Zr (sr s r)=some (nbS r):=by rw[number_eq a (ng s r),Pm b]
theorem PD{s r:Str}{n:Nat}(a:r<:+s)(b:n<=r.length):beh s r+n=beh s (r.drop n):=by
 have:=a.length_le;unfold beh
 grind
theorem Bw{s r:Str}{n:Nat}(c:s.length<=big)(a:r<:+s)(b:n<=r.length):(⟨s,w64 ((beh s r:Int)+(n:Int))⟩:za)=sr s (r.drop n):=by have d:big=4194304:=rfl;have:=ng s r;have e:=a.length_le;rw[zK (by omega) (by omega),show(beh s r:Int)+(n:Int)=((beh s r+n:Nat):Int) by omega,PD a b]
theorem Dr{l:Str}{n:Nat}(h:atS l n≠0):n<l.length:=by
 rcases Yc n l.length with a|a
 ·exact a
 ·exact absurd (by unfold atS;grind) h
theorem pq{s r:Str}(a:s.length<=big)(b:r<:+s)(h:atS r 0≠0):(⟨s,w64 ((beh s r:Int)+1)⟩:za)=sr s (r.drop 1):=Bw (n:=1) a b (Dr h)
theorem Di{s r:Str}(a:r<:+s)(n:Nat):r.drop n<:+s:=(Xd n r).trans a
theorem Ci{s r:Str}(p:UInt8->Bool)(a:r<:+s):past p r<:+s:=(Tm p r).trans a
theorem Kq{s r:Str}(a:r<:+s):unsign r<:+s:=by
 unfold unsign;split
 ·exact Di a 1
 ·exact a
theorem mI{b:UInt8}(h:Jf b=true):b≠0:=by rintro rfl;revert h;decide
theorem Sn(a b:Bool):(bif a then true else b)=(a||b):=by cases a<;>rfl
theorem bH(a b:Bool):(bif a then b else false)=(a&&b):=by cases a<;>rfl
theorem WF{s r:Str}(a:r<:+s):(zT r).1<:+s:=by
 unfold zT;split
 ·exact Ci _ (Di a 1)
 ·exact a
theorem wI{s r q:Str}(a:r<:+s)(h:expS r=some q):q<:+s:=by
 unfold expS at h;split at h
 ·split at h
  ·cases h;exact Ci _ (Kq (Di a 1))
  ·cases h
 ·cases h
theorem uM{s r:Str}(b:r<:+s):(zy r).1<:+s:=by
 unfold zy;have a:=WF (Ci digB (Kq b));simp only;cases h:expS (zT (past digB (unsign r))).1 with
 |some q=>exact wI a h
 |none=>exact a
theorem KX{s l:Str}(hs:s.length<=big)(hl:l<:+s):qb (sr s l)=some ((zy l).2,sr s (zy l).1):=by
 unfold qb;simp only[ze,Lg hs hl,Aa,rA,lq,Sn];have e1:(bif (atS l 0==43||atS l 0==45)then some (LX.out (⟨s,w64 ((beh s l:Int)+1)⟩:za))else some (LX.out (sr s l)))=(some (LX.out (sr s (unsign l))):Option (LX za (Bool×za))):=by
  unfold unsign;cases h:Jf (atS l 0)with
  |true=> have h':(atS l 0==43||atS l 0==45)=true:=h;rw[h',Ca,Ka rfl,pq hs hl (mI h)]
  |false=>
   have h':(atS l 0==43||atS l 0==45)=false:=h
   grind
 rw[e1,zh];have hu:=Kq hl;rw[Gx hs hu];simp only[Aa];have hp:=Ci digB hu;unfold zy;generalize past digB (unsign l)=q at hp ⊢;have e2:zX (X:=Bool×za) (R:=Bool×za) ((zf (0,sr s q)).bind fun y4=>
   (zt (y4==46) (zf (1,sr s q)) (default:Int)).bind fun y5=>
   (zt (y4==46) (Zq y5) (default:Bool)).bind fun y6=>
   bif bif y4==46 then y6 else false then(zW (⟨s,w64 ((beh s q:Int)+1)⟩:za)).bind fun y7=>some (LX.out (false,y7))else some (LX.out (true,sr s q)))=zX (some (LX.out ((zT q).2,sr s (zT q).1))):=by
  congr 1;unfold zT;simp only[Lg hs hp,Lr hs hp,Aa,nA];cases h:atS q 0==46 with
  |false=>simp_all
  |true=>
   simp only[zH,Aa,Ca,Tk,Eb];cases h2:digB (atS q 1)with
   |false=>grind
   |true=> rw[Ca,Ka rfl,pq hs hp (by grind),Gx hs (Di hp 1)];rfl
 rw[e2,zh];have hw:=WF hp;generalize zT q=W at hw ⊢;obtain⟨w,i⟩:=W;simp only at hw ⊢;have e3:((zf (0,sr s w)).bind fun y9=>
   (zt (!(y9==101)) (zf (0,sr s w)) (default:Int)).bind fun y10=>
   bif bif y9==101 then true else y10==69 then
    zX (X:=(Bool×Int)×za) ((zf (1,sr s w)).bind fun y11=>bif bif y11==43 then true else y11==45 then some (LX.out ((i,2),sr s w))else some (LX.out ((i,1),sr s w))) fun j12=>
    (zf (j12.1.2,j12.2)).bind fun y13=>(Zq y13).bind fun y14=>
    bif y14 then(zW (⟨j12.2.s,w64 (j12.2.at_+j12.1.2)⟩:za)).bind fun y15=>some (LX.out (false,y15))else some (LX.out (j12.1.1,j12.2))
   else some (LX.out (i,sr s w)))=(some (LX.out (match expS w with|some r=>(false,sr s r)|none=>(i,sr s w))):Option (LX (Bool×za) (Bool×za))):=by
  simp only[Lg hs hw,Aa,zAI];have e4:((zt (!(atS w 0==101)) (some (pk w 0)) (default:Int)).bind fun y10=>(some (bif atS w 0==101 then true else y10==69):Option Bool))=some (atS w 0==101||atS w 0==69):=by
   cases h:atS w 0==101 with
   |true=>rfl
   |false=>simp only[ma,zH,Aa,Ba,zBs,Jc]
  have e5: ∀(f:Bool->Option (LX (Bool×za) (Bool×za))),((zt (!(atS w 0==101)) (some (pk w 0)) (default:Int)).bind fun y10=>f (bif atS w 0==101 then true else y10==69))=f (atS w 0==101||atS w 0==69):=by intro f;have:=congrArg (fun o=>Option.bind o f) e4;simpa [Option.bind_assoc] using this
  refine(e5 (fun b=>bif b then _ else _)).trans ?_;unfold expS;cases h:(atS w 0==101||atS w 0==69)with
  |false=>rfl
  |true=>
   have hne:atS w 0≠0:=by intro e;rw[e]at h;revert h;decide
   simp only[Ca,Jd,Lr hs hw,Aa,rA,lq,Sn];unfold unsign;have hd:atS (w.drop 1) 0=atS w 1:=by rw[Qk w 1 0]
   rw[hd];cases hg:(atS w 1==43||atS w 1==45)with
   |true=>
    have hg':Jf (atS w 1)=true:=hg;have hl2:=Dr (mI hg');simp only[Ca,zh,zAH hs hw,Aa,Tk,hg',Jd,Ae];rw[show atS (w.drop (1+1)) 0=atS w 2 by rw[Qk w 2 0]];cases hq:digB (atS w 2)with
    |false=>rfl
    |true=> rw[Ca,Ka rfl,show(2:Int)=((2:Nat):Int)from rfl,Bw hs hw (by omega),Gx hs (Di hw 2)];rfl
   |false=>
    have hg':Jf (atS w 1)=false:=hg;simp only[Ba,zh,Lr hs hw,Aa,Tk,hg',Ob,Ed];rw[hd];cases hq:digB (atS w 1)with
    |false=>rfl
    |true=> rw[Ca,Ka rfl,pq hs hw hne,Gx hs (Di hw 1)];rfl
 refine(congrArg (fun o=>zX o _) e3).trans ?_;rw[zh];cases expS w<;>rfl
def valG(n:Nat)(l:Str):Nat:=l.foldl decN n
theorem ry(n:Nat)(a b:Str):valG n (a++b)=valG (valG n a) b:=List.foldl_append
theorem tK{k:Nat}(h:k<10):digB (UInt8.ofNat (48+k))=true/\(UInt8.ofNat (48+k)).toNat=48+k:=by
 have:(UInt8.ofNat (48+k)).toNat=48+k:=by rw[UInt8.toNat_ofNat'];omega
 refine⟨?_,this⟩;unfold digB
 grind
theorem Yo: ∀(u:Nat),(Lib.decDigits u).all digB=true/\valG 0 (Lib.decDigits u)=u/\Lib.decDigits u≠[]:=by
 intro u
 induction u using Nat.strongRecOn with
 |_ u e=>
  rw[Lib.decDigits];by_cases h:u<10
  ·rw[dif_pos h];obtain⟨f,d⟩:=tK h;refine⟨by grind,?_,by simp⟩;show decN 0 _=u;unfold decN;rw[d];omega
  ·rw[dif_neg h];obtain⟨a,b,c⟩:=e (u / 10) (by omega);obtain⟨f,d⟩:=tK (k:=u%10) (by omega);refine⟨by grind,?_,by simp⟩;rw[ry,b];show decN _ _=u;unfold decN;rw[d];omega
theorem Eu: ∀(q t:Str),q.all digB=true->past digB (q++t)=past digB t
 |[],t,_=>rfl
 |c::q,t,h=>by rw[Uc,Ea]at h;rw[Ya,past,Ka h.1,Eu q t h.2]
def d48(k:Nat):UInt8:=UInt8.ofNat (48+k)
def mg(r:Nat):Str:=Lib.trimRightB [d48 (r / 100),d48 (r / 10%10),d48 (r%10)] 48
theorem wK{r:Nat}(h:r<1000):Lib.decDigits (1000+r)=49::[d48 (r / 100),d48 (r / 10%10),d48 (r%10)]:=by rw[Lib.decDigits,dif_neg (by omega),Lib.decDigits,dif_neg (by omega),Lib.decDigits,dif_neg (by omega),Lib.decDigits,dif_pos (by omega)];rw[show(1000+r) / 10 / 10 / 10=1 by omega,show(1000+r) / 10 / 10%10=r / 100 by omega,show(1000+r) / 10%10=r / 10%10 by omega,show(1000+r)%10=r%10 by omega];rfl
def kr(r:Nat):Bool:=(mg r).all digB&&decide ((mg r).length<=3)&&decide (valG 0 (mg r)*10 ^ (3 - (mg r).length)=r)&&((mg r).isEmpty==(r==0))&& !((mg r).getLast? ==some 48)
theorem Xy: ∀r,r<1000->kr r=true:=by decide+kernel
def Ni(r:Nat)(p:Bool):Str:=bif (mg r).isEmpty then(bif p then [46,48]else [])else 46::mg r
def Vf(m:Nat)(p:Bool):Str:=Lib.decDigits (m / 1000)++Ni (m%1000) p
def numT(n:Int)(p:Bool):Str:=(if n<0 then [45]else [])++Vf n.natAbs p
theorem Gu{u:Nat}(h:u<18446744073709551616):(Lib.decDigits u).length<=20:=by
 rw[Lib.decDigits_length];by_cases h1:u=0
 ·subst h1;rw[Lib.nDigits_small (by omega)];omega
 ·have:=Lib.numDigits_eq u (by omega) h;split at this<;>omega
theorem oU{r:Nat}(h:r<1000)(p:Bool):(Ni r p).length<=4:=by
 have:=Xy r h;simp only[kr,Ea,Jb]at this;unfold Ni
 grind
theorem Yt{m:Nat}(h:m<=1000000000000)(p:Bool):(Vf m p).length<=24:=by unfold Vf;rw[Ha];have:=Gu (u:=m / 1000) (by omega);have:=oU (r:=m%1000) (by omega) p;omega
theorem ai{n m b:Nat}(h:n+m<=100000)(a:b<=100):zQ n m b=true:=by unfold zQ;refine Fa ?_;have:=Nat.mul_le_mul h a;omega
theorem FZ(l:Str):(l==[])=l.isEmpty:=by cases l<;>rfl
def uh(n:Nat):Nat:=if 65<=n/\n<=90 then n+32 else n
def wh(b:UInt8):UInt8:=UInt8.ofNat (uh b.toNat)
theorem aW{n:Nat}(h:n<256):uh n<256:=by unfold uh;split<;>omega
theorem eY(b:UInt8):(wh b).toNat=uh b.toNat:=by unfold wh;rw[UInt8.toNat_ofNat'];exact Ue (aW (aa b))
theorem gL: ∀n:Nat,n<256->ZG (n:Int)=some ((uh n:Nat):Int):=by decide+kernel
theorem zAr: ∀n:Nat,n<256->(bif decide (65<=(n:Int))then decide ((n:Int)<=90)else false)=true->ZO (ibOr IntKind.u8 (n:Int) 32)=some (UInt8.ofNat (uh n)):=by decide+kernel
def lowS(l:Str):Str:=l.map wh
theorem NE{α:Type}{l:List α}{i:Nat}(h:i<l.length)(f:α->α):((l.take i).map f++l.drop i).set i (f l[i])=(l.take (i+1)).map f++l.drop (i+1):=by
 apply List.ext_getElem
 ·simp;omega
 grind
theorem AJ{α:Type}{l:List α}{i:Nat}(h:i<l.length)(f:α->α):((l.take i).map f++l.drop i)[i]? =some l[i]:=by
 grind
theorem gD{α:Type}{l:List α}{i:Nat}(h:i<=l.length)(f:α->α):((l.take i).map f++l.drop i).length=l.length:=by simp;omega
theorem FV{α:Type}{l:List α}{i:Nat}(h:i<l.length)(f:α->α)(e:f l[i]=l[i]):(l.take i).map f++l.drop i=(l.take (i+1)).map f++l.drop (i+1):=by
 rw[<-NE h f,e];apply List.ext_getElem?
 grind
theorem YC(i:Nat):decide ((0:Int)<=(i:Int))=true:=Fa (by omega)
theorem jL{l:Str}(h:l.length<=big):Pq l=some (lowS l):=by
 unfold Pq;rw[zm (Fa (by unfold big at h;unfold maxLen;omega))];have d: ∀(k i:Nat),i+k=l.length-> ∃n,qE (X:=List UInt8) (R:=Str) (fun(a:Int×List UInt8)=>
   bif decide (a.1<(a.2.length:Int))then
    need (decide (0<=a.1)&&decide (a.1<(a.2.length:Int)))<|
    ze a.2[a.1.toNat]? fun f=>
    ze (ZG (f.toNat:Int)) fun g=>
    need (decide (0<=a.1)&&decide (a.1<(a.2.length:Int)))<|
    ze a.2[a.1.toNat]? fun p=>
    ze (ZO g) fun m=>
    some (LO.again (w64 (a.1+1),List.set a.2 a.1.toNat m))
   else
    some (LO.out a.2)) n ((i:Int),(l.take i).map wh++l.drop i)=some (.out (lowS l)):=by
  intro k
  induction k with
  |zero=>
   intro i e;have e:i=l.length:=by omega
   subst e;refine⟨1,?_⟩;simp only[qE,gD (Va _),Tx,Ba];simp[lowS]
  |succ k o=>
   intro i e;have b:i<l.length:=by omega
   obtain⟨n,c⟩:=o (i+1) (by omega);refine⟨n+1,?_⟩;have j:=aa l[i];simp only[qE,gD (Nat.le_of_lt b),Q7 b,Ca,YC,Ib,Zd,Ra,AJ b,ze,Aa,gL _ j];rw[<-eY,zvH,Z6 b h];simp only[Aa,NE b];exact c
 obtain⟨n,c⟩:=d l.length 0 (by omega);replace c:=Wh c;simp only[List.take_zero,List.map_nil,Yb,Rf]at c;exact(Jj c).trans rfl
theorem pM{l:Str}(h:l.length<=big):Rq l=some (lowS l):=by
 unfold Rq;rw[zm (Fa (by unfold big at h;unfold maxLen;omega))];have d: ∀(k i:Nat),i+k=l.length-> ∃n,qE (X:=List UInt8) (R:=Str) (fun(a:Int×List UInt8)=>
   bif decide (a.1<(l.length:Int))then
    zX (X:=Int×List UInt8) (
      need (decide (0<=a.1)&&decide (a.1<(a.2.length:Int)))<|
      ze a.2[a.1.toNat]? fun j=>
      bif bif decide (65<=(j.toNat:Int))then decide ((j.toNat:Int)<=90)else false then
       need (decide (0<=a.1)&&decide (a.1<(a.2.length:Int)))<|
       ze a.2[a.1.toNat]? fun o=>
       need (decide (0<=a.1)&&decide (a.1<(a.2.length:Int)))<|
       ze a.2[a.1.toNat]? fun t=>
       ze (ZO (ibOr IntKind.u8 (o.toNat:Int) 32)) fun q=>
       some (LX.out (a.1,List.set a.2 a.1.toNat q))
      else
       some (LX.out (a.1,a.2))) fun m=>
    some (LO.again (w64 (m.1+1),m.2))
   else
    some (LO.out a.2)) n ((i:Int),(l.take i).map wh++l.drop i)=some (.out (lowS l)):=by
  intro k
  induction k with
  |zero=>
   intro i f;have f:i=l.length:=by omega
   subst f;refine⟨1,?_⟩;simp only[qE,Tx,Ba];simp[lowS]
  |succ k r=>
   intro i f;have b:i<l.length:=by omega
   obtain⟨n,c⟩:=r (i+1) (by omega);refine⟨n+1,?_⟩;have p:=aa l[i];simp only[qE,gD (Nat.le_of_lt b),Q7 b,Ca,YC,Ib,Zd,Ra,AJ b,ze,Aa];cases g:(bif decide (65<=(l[i].toNat:Int))then decide ((l[i].toNat:Int)<=90)else false)with
   |true=> have e:=zAr _ p g;simp only[e,Ca,Aa,zh,Z6 b h];rw[show UInt8.ofNat (uh l[i].toNat)=wh l[i]from rfl,NE b];exact c
   |false=>
    have e:wh l[i]=l[i]:=by unfold wh uh;rw[Ja,Kc];rintro⟨s,u⟩;rw[Fa (by omega),Ca,Fa (by omega)]at g;cases g
    simp only[Ba,zh,Z6 b h];rw[FV b wh e];exact c
 obtain⟨n,c⟩:=d l.length 0 (by omega);replace c:=Wh c;simp only[List.take_zero,List.map_nil,Yb,Rf]at c;exact(Jj c).trans rfl
def Zp(l:Str):Bool:=l.all fun b=> !(b==0)
theorem lD(c:UInt8): ∀l:Str,decide (Lib.indexByte l c>=0)=l.any fun b=>b==c
 |[]=>rfl
 |b::l=>by
  have d:=lD c l;have a:=Lib.indexByte_ge l c;rw[List.any_cons,Lib.indexByte]
  grind
theorem nT(l:Str):(l.any fun b=>b==0)= !Zp l:=by
 unfold Zp
 grind
theorem GA(l:Str)(n:Int):strings_IndexByte (l,n)=some (Lib.indexByte l n.toNat.toUInt8):=rfl
theorem DU(l:Str):decide (Lib.indexByte l (0:Int).toNat.toUInt8>=0)= !Zp l:=(lD 0 l).trans (nT l)
theorem zAi(n m:Nat):decide ((n:Int)>(m:Int))= !decide (n<=m):=by
 grind
theorem byte_zero(b:UInt8):((b.toNat:Int)==0)=(b==0):=by
 by_cases h:b=0
 ·subst h;rfl
 ·have a:b.toNat≠0:=fun e=>h (Fe.1 e)
  grind
theorem Xq(l m:Str):strings_HasPrefix (l,m)=some (m.isPrefixOf l):=by
 have a: ∀m l:Str,m.isPrefixOf l=(decide (m.length<=l.length)&&l.take m.length==m):=by
  intro m l;rw[yf];simp only[Cf,Ea,Jb,Ab];constructor
  ·rintro⟨t,rfl⟩
   grind
  ·grind
 unfold strings_HasPrefix stringslite_HasPrefix;simp_all
theorem U4(l m:Str):strings_TrimPrefix (l,m)=some (bif m.isPrefixOf l then l.drop m.length else l):=by
 have h:stringslite_HasPrefix (l,m)=some (m.isPrefixOf l):=by
  have:=Xq l m;unfold strings_HasPrefix at this;cases hh:stringslite_HasPrefix (l,m)with
  |none=>grind
  |some b=>grind
 unfold strings_TrimPrefix stringslite_TrimPrefix;simp only[h,ze,Aa];cases hp:m.isPrefixOf l with
 |false=>rfl
 |true=> have hl:=(Cf.1 hp).length_le;simp_all
theorem OG{a b:Str}(c:a.length<=big)(h2:b.length<=big):Dn (a,b)=some (lowS a==lowS b):=by unfold Dn;simp only[pM c,pM h2,ze,Aa]
theorem UF{a b:Str}(c:a.length<=big)(h2:b.length<=big):qG (a,b)=some (lowS a==lowS b):=by unfold qG;simp only[jL c,jL h2,ze,Aa]
def vg(n:Nat):Bool:=
 !(n==0||n==9||n==10||n==12||n==13||n==32||n==34||n==39||n==40||n==41||n==44||n==58||n==59||n==91||n==93||n==95||n==123||n==125)&&
  (decide (n<128)&& !((decide (48<=n)&&decide (n<=57))||(decide (65<=n)&&decide (n<=90))||(decide (97<=n)&&decide (n<=122))))
def Ky:Prop:= ∀b:UInt8,qY (b.toNat:Int)=some (vg b.toNat)
def digN(n:Nat):Bool:=decide (48<=n)&&decide (n<=57)
theorem J2: ∀n:Nat,n<256->zD (n:Int)=some (digN n):=by decide+kernel
theorem kL(b:UInt8):zD (b.toNat:Int)=some (digN b.toNat):=(J2 _ (aa b))
theorem E5: ∀n:Nat,n<256->qz (n:Int)=some (digN n):=by decide+kernel
theorem IP(b:UInt8):qz (b.toNat:Int)=some (digN b.toNat):=(E5 _ (aa b))
def namN(n:Nat):Bool:=digN n||(decide (65<=n)&&decide (n<=90))||(decide (97<=n)&&decide (n<=122))||n==95||n==45||decide (128<=n)
theorem G5: ∀n:Nat,n<256->nk (n:Int)=some (namN n):=by decide+kernel
theorem FP(b:UInt8):nk (b.toNat:Int)=some (namN b.toNat):=(G5 _ (aa b))
def oh:Str->Bool
 |[]=>false
 |b::r=>digN b.toNat||(b==45&&(r==[]||digN (r.headD 0).toNat))
theorem Qb(b c:UInt8):((b.toNat:Int)==(c.toNat:Int))=(b==c):=by
 by_cases h:b=c
 ·subst h;simp
 ·have a:b.toNat≠c.toNat:=fun e=>h (Fe.1 e)
  grind
theorem lT(b:UInt8):((b.toNat:Int)==45)=(b==45):=Qb b 45
theorem O6(l:Str):ku l=some (oh l):=by
 unfold ku;cases l with
 |nil=>rfl
 |cons b r=>
  have f:geti (b::r) 0=some b:=rfl;have g:(b::r==([]:Str))=false:=rfl;simp only[g,Ba,f,ze,Aa,kL,Qy,lT];cases r with
  |nil=>
   have e:(([b]:Str)==[45])=(b==45):=by show((b==45)&&true)=_;rw[Ib]
   simp only[e];unfold oh;cases c:(b==45)with
   |false=>cases h:digN b.toNat<;>simp[c,zt,h]
   |true=>simp_all
  |cons d r=>
   have a:geti (b::d::r) 1=some d:=rfl;have e:((b::d::r:Str)==[45])=false:=by show((b==45)&&false)=_;rw[Be]
   simp only[a,e,Qy,Aa,kL,oh,List.headD_cons]
   grind
def numS:Str->Bool
 |[]=>false
 |b::r=>bif b==45 then !(r==[])&&digN (r.headD 0).toNat else digN b.toNat
theorem IQ(l:Str):QK l=some (numS l):=by
 unfold QK;simp only[U4,ze,Aa];have a: ∀m:Str,((zt (!(m==[])) (geti m 0) 0).bind fun c=>(zt (!(m==[])) (qz (c.toNat:Int)) (default:Bool)).bind fun d=>some (bif !(m==[])then d else false))=some (!(m==[])&&digN (m.headD 0).toNat):=by
  intro m;cases m with
  |nil=>rfl
  |cons b r=> have f:geti (b::r) 0=some b:=rfl;have g:(b::r==([]:Str))=false:=rfl;simp only[g,ma,zH,f,Aa,IP,Ca,List.headD_cons,Eb]
 rw[a];cases l with
 |nil=>rfl
 |cons b r=>
  have e:List.isPrefixOf [45] (b::r)=(b==45):=by
   show((45==b)&&true)=_;rw[Ib];cases h:(b==45)with
   |true=>grind
   |false=>grind
  rw[e];show _=some (bif b==45 then !(r==[])&&digN (r.headD 0).toNat else digN b.toNat)
  grind
theorem uV(l:Str):((numS l&& !(List.isPrefixOf [45,45] l))||l==[45])=oh l:=by
 cases l with
 |nil=>rfl
 |cons b r=>
  cases a:(b==45)with
  |false=>
   have e:List.isPrefixOf [45,45] (b::r)=false:=by show((45==b)&&_)=_;rw[Ga]at a;rw[Ga.2 (Ne.symm a)];rfl
   have c:((b::r:Str)==[45])=false:=by show((b==45)&&_)=_;rw[a];rfl
   rw[e,c];unfold numS oh;simp[a]
  |true=>
   rw[Ab]at a;subst a;cases r with
   |nil=>rfl
   |cons d r=>
    have c:((45::d::r:Str)==[45])=false:=rfl;rw[c];unfold numS oh;have e:List.isPrefixOf [45,45] (45::d::r)=(45==d):=by show((45==(45:UInt8))&&((45==d)&&true))=_;rw[Ib];rfl
    rw[e];simp only[List.headD_cons];have f:digN 45=false:=by decide
    cases h:(45==d)with
    |false=>simp[f]
    |true=>rw[Ab]at h;subst h;rfl
def delS(l:Str):Bool:=match l with
 |[b]=>vg b.toNat
 |_=>false
def rngS(x:zb):Bool:=decide (-1000000000000<=x.num)&&(decide (x.num<=1000000000000)&&(!x.flag||Int.tmod x.num 1000==0))
def Nf(x:zb):Bool:=
 bif x.kind==1||x.kind==2||x.kind==3 then !(x.text==[])&&(Zp x.text&&(x.num==0&&(x.unit==[]&& !x.flag)))
 else bif x.kind==4 then !(x.text==[])&&(Zp x.text&&((x.flag||oh x.text)&&(x.num==0&&x.unit==[])))
 else bif x.kind==5||x.kind==7 then Zp x.text&&(x.num==0&&(x.unit==[]&& !x.flag))
 else bif x.kind==9 then delS x.text&&(x.num==0&&(x.unit==[]&& !x.flag))
 else bif x.kind==10||x.kind==11||x.kind==12 then rngS x&&((!(x.unit==[])==(x.kind==12))&&(Zp x.unit&&((!(x.kind==11)|| !x.flag)&&x.text==[])))
 else(decide (13<=x.kind)&&decide (x.kind<=24))&&(x.text==[]&&(x.num==0&&(x.unit==[]&& !x.flag)))
theorem XP{l:Str}(h:l.length<=big):QS l=some (Zp l):=by
 unfold QS;refine(DN l (fun b=>bif (!(b==0))then none else some false) () (fun i a=> ?_) ?_).trans ?_
 ·simp only[Q7 a,Ca,Z8 a,ze,Aa,byte_zero,Z6 a h]
  grind
 ·grind
 ·rw[KF];show _=some (Zp l);unfold Zp
  grind
theorem one_byte(l:Str)(p:Nat->Bool)(d:Bool)(f:Int->Option Bool)(hf: ∀b:UInt8,f (b.toNat:Int)=some (p b.toNat))(g:Bool):
  ((zt (g&&(l.length:Int)==1) (geti l 0) (0:UInt8)).bind fun y=>zt (g&&(l.length:Int)==1) (f (y.toNat:Int)) d)=some (bif g&&(l.length:Int)==1 then(match l with|[b]=>p b.toNat|_=>false)else d):=by
 cases g with
 |false=>rfl
 |true=>
  cases l with
  |nil=>rfl
  |cons b r=>
   cases r with
   |nil=> show((geti [b] 0).bind fun y=>f (y.toNat:Int))=some (p b.toNat);rw[show geti [b] 0=some b from rfl];exact hf b
   |cons c r=> have:(((b::c::r).length:Int)==1)=false:=Ga.2 (by grind);rw[this];rfl
theorem XZ(a:Ky)(l:Str)(g:Bool):((zt (g&&(l.length:Int)==1) (geti l 0) (0:UInt8)).bind fun y=>zt (g&&(l.length:Int)==1) (qY (y.toNat:Int)) (default:Bool))=some (bif g&&(l.length:Int)==1 then delS l else default):=
 one_byte l vg default qY a g
theorem gW(l:Str):(((l.length:Int)==1)&&delS l)=delS l:=by
 cases l with
 |nil=>rfl
 |cons b r=>
  cases r with
  |nil=>rfl
  |cons c r=> have:(((b::c::r).length:Int)==1)=false:=Ga.2 (by grind);rw[this];rfl
theorem M6(C:Ky){x:zb}(v:x.text.length<=big)(h2:x.unit.length<=big):gu x=some (Nf x):=by
 have n:=XZ C x.text true;simp only[Eb]at n;have q:((zt ((x.text.length:Int)==1) (geti x.text 0) (0:UInt8)).bind fun o=>(zt ((x.text.length:Int)==1) (qY (o.toNat:Int)) (default:Bool)).bind fun D=>some (bif bif (x.text.length:Int)==1 then D else false then x.kind==x.kind&&(([]:Str)==[]&&(x.num==0&&(x.unit==[]&&(x.flag==false&&true))))else false))=some (delS x.text&&(x.num==0&&(x.unit==[]&& !x.flag))):=by
  have e: ∀(k:Bool->Option Bool),((zt ((x.text.length:Int)==1) (geti x.text 0) (0:UInt8)).bind fun o=>(zt ((x.text.length:Int)==1) (qY (o.toNat:Int)) (default:Bool)).bind k)=(((zt ((x.text.length:Int)==1) (geti x.text 0) (0:UInt8)).bind fun y=>zt ((x.text.length:Int)==1) (qY (y.toNat:Int)) (default:Bool))).bind k:=by intro k;rw[Option.bind_assoc]
  rw[e,n,Aa,<-gW x.text];simp only[Xf];cases (x.text.length:Int)==1<;>cases delS x.text<;>cases x.flag<;>rfl
 unfold gu;simp only[ze,XP v,XP h2,O6,Qy,Aa,ge_iff_le];unfold Nf rngS;by_cases B:x.kind=9
 ·simp_all
 clear n q;have E:=Ga.2 B;generalize delS x.text=J;generalize Zp x.text=p;generalize Zp x.unit=M;generalize oh x.text=H;generalize c:(x.text==[])=i;generalize d:(x.unit==[])=j;generalize a:(x.num==0)=m;generalize b:x.flag=l;generalize decide (-1000000000000<=x.num)=N;generalize decide (x.num<=1000000000000)=L;generalize (Int.tmod x.num 1000==0)=z;by_cases r:x.kind=1
 ·simp only[r,zh,Ca,Ba,c,d,a,b,Int.reduceBEq];cases p<;>cases i<;>cases j<;>cases m<;>cases l<;>rfl
 by_cases s:x.kind=2
 ·simp only[s,zh,Ca,Ba,c,d,a,b,Int.reduceBEq];cases p<;>cases i<;>cases j<;>cases m<;>cases l<;>rfl
 by_cases t:x.kind=3
 ·simp only[t,zh,Ca,Ba,c,d,a,b,Int.reduceBEq];cases p<;>cases i<;>cases j<;>cases m<;>cases l<;>rfl
 by_cases u:x.kind=4
 ·simp only[u,zh,Ca,Ba,c,d,a,b,Int.reduceBEq]
  grind
 by_cases G:x.kind=5
 ·simp_all
 by_cases F:x.kind=7
 ·simp_all
 by_cases g:x.kind=10
 ·simp only[g,zh,Ca,Ba,c,d,a,b,Int.reduceBEq]
  grind
 by_cases h:x.kind=11
 ·simp only[h,zh,Ca,Ba,c,d,a,b,Int.reduceBEq]
  grind
 by_cases f:x.kind=12
 ·simp only[f,zh,Ca,Ba,c,d,a,b,Int.reduceBEq]
  grind
 simp only[E,Ga.2 r,Ga.2 s,Ga.2 t,Ga.2 u,Ga.2 G,Ga.2 F,Ga.2 g,Ga.2 h,Ga.2 f,zh,Ca,Ba,c,d,a,b,Xf,Bool.or_self];by_cases w:x.kind=6
 ·simp_all
 by_cases A:x.kind=8
 ·simp_all
 simp only[Ga.2 w,Ga.2 A,zh,Ca,Ba];have e:(decide (1<=x.kind)&&decide (x.kind<=24))=(decide (13<=x.kind)&&decide (x.kind<=24)):=by
  by_cases K:13<=x.kind
  ·grind
  ·grind
 rw[<-e];cases decide (1<=x.kind)<;>cases decide (x.kind<=24)<;>cases i<;>cases j<;>cases m<;>cases l<;>rfl
abbrev Jr:Str:=[32,9,10,12,13,34,39,58,59,44,91,93,40,41,123,125]
theorem oz: ∀(m:Str) (c:UInt8),Lib.index m [c]=Lib.indexByte m c
 |[],c=>rfl
 |b::l,c=>by
  have h:List.isPrefixOf [c] (b::l)=(b==c):=by
   show(c==b&&List.isPrefixOf [] l)=_;rw[List.isPrefixOf,Ib];by_cases e:b=c
   ·subst e;rfl
   ·grind
  rw[Lib.index,Lib.indexByte,h,oz l c]
theorem contains_one(m:Str)(c:UInt8)(a:short m=true:=by decide):strings_Contains (m,[c])=some (m.any fun b=>b==c):=by unfold strings_Contains;simp only[si,a,Zd,ze,Aa,oz,lD]
theorem l7(c:UInt8):strings_Contains ([32,9,10,12,13,34,39,58,59,44,91,93,40,41,123,125],[c])=some (Jr.any fun b=>b==c):=contains_one Jr c
theorem YZ: ∀n:Nat,n<256->((bif bif !(UInt8.ofNat n==0)then !namN n else false then true else UInt8.ofNat n==45)&&(!(Jr.any fun b=>b==UInt8.ofNat n)))=vg n:=by decide+kernel
theorem dW(b:UInt8):((bif bif !(b==0)then !namN b.toNat else false then true else b==45)&&(!(Jr.any fun c=>c==b)))=vg b.toNat:=by have:=YZ b.toNat (aa b);simp_all
theorem M3(a b:Str):Zp (a++b)=(Zp a&&Zp b):=by unfold Zp;grind
theorem uT(n:Int):decide (n<0)= !decide (n>=0):=by
 grind
theorem Us: ∀(l:Str) (n:Nat),valG n l=n*10 ^ l.length+valG 0 l
 |[],n=>by simp[valG]
 |c::l,n=>by
  show valG (decN n c) l=n*10 ^ (l.length+1)+valG (decN 0 c) l;rw[Us l (decN n c),Us l (decN 0 c),Nat.pow_succ];unfold decN
  grind
theorem PW(l:Str)(i:Nat):valG 0 (l.take i)<=valG 0 l:=by
 have h:valG 0 l=valG (valG 0 (l.take i)) (l.drop i):=by rw[<-ry,List.take_append_drop]
 rw[h,Us (l.drop i)];have:=Gd (valG 0 (l.take i)) (Hf (n:=(l.drop i).length) (show 0<10 by omega));omega
theorem jm{b:UInt8}(h:digB b=true):48<=b.toNat/\b.toNat<=57:=by unfold digB at h;simpa using h
theorem wV {R:Type} {step:Int×Int->Option (LO (Int×Int) Int R)} {l:Str} (b:l.all digB=true) (g:l.length<=100000) (j:valG 0 l<=1000000000000)
  (a: ∀(v:Int) (i:Nat) (hi:i<l.length),step (v,(i:Int))=some (.again (if 1000000000000<w64 (w64 (10*v)+w64 (wu8 ((l[i].toNat:Int) - 48)))then 1000000000000 else w64 (w64 (10*v)+w64 (wu8 ((l[i].toNat:Int) - 48))),w64 ((i:Int)+1))))
  (h2: ∀v:Int,step (v,(l.length:Int))=some (.out v)):Lf step (0,0)=some (.out ((valG 0 l:Nat):Int)):=by
 refine Zw (fun s=> ∃i:Nat,i<=l.length/\s=(((valG 0 (l.take i):Nat):Int),(i:Int))) (fun s=>l.length - s.2.toNat) _ ?_ ⟨0,by omega,rfl⟩;rintro _ ⟨i,hi,rfl⟩;rcases Yc i l.length with h|h
 ·refine .inl ⟨_,a _ i h,⟨i+1,by omega,?_⟩,by simp only;rw[zK (by omega) (by omega)];omega⟩;have e:=jm (Sb.1 b _ (Xc h));have d:valG 0 (l.take (i+1))=decN (valG 0 (l.take i)) l[i]:=by rw[Pe h,ry];rfl
  have f:=PW l (i+1);have c:wu8 ((l[i].toNat:Int) - 48)=((l[i].toNat - 48:Nat):Int):=by show IntKind.u8.wrap _=_;rw[IntKind.wrap_u8];omega
  unfold decN at d;rw[c,zK (n:=10*_) (by omega) (by omega),zK (n:=((l[i].toNat - 48:Nat):Int)) (by omega) (by omega),zK (n:=(i:Int)+1) (by omega) (by omega),zK (by omega) (by omega),Ja (by omega)];refine Prod.ext ?_ ?_
  ·grind
  ·grind
 grind
theorem bY {R:Type} {step:Int×Int->Option (LO (Int×Int) Int R)} {v p:Nat} (g:p<=100) (i:v*10 ^ p<=1000000000000)
  (h: ∀(a b:Int),step (a,b)=bif bif bif decide (a>0)then decide (b>0)else false then decide (b<1000000000000)else false then some (.again (w64 (a - 1),if 1000000000000<w64 (10*b)then 1000000000000 else w64 (10*b)))else some (.out b)):
  Lf step ((p:Int),(v:Int))=some (.out ((v*10 ^ p:Nat):Int)):=by
 refine Zw (fun s=> ∃a b:Nat,s=((a:Int),(b:Int))/\a<=100/\b*10 ^ a=v*10 ^ p) (fun s=>s.1.toNat) _ ?_ ⟨p,v,rfl,g,rfl⟩;rintro _ ⟨a,b,rfl,j,d⟩;rw[h];cases a with
 |zero=>
  grind
 |succ a=>
  rw[Fa (show((a+1:Nat):Int)>0 by omega),Ca];rw[Nat.pow_succ,<-af]at d;have c:0<10 ^ a:=Hf (by omega);cases Nat.eq_zero_or_pos b with
  |inl e=> subst e;refine .inr (.inl ⟨0,rfl,?_⟩);rw[<-d];simp
  |inr e=>
   rw[Fa (show((b:Nat):Int)>0 by omega),Ca];have f:b<=b*10 ^ a:=Gd b c;rw[Fa (show((b:Nat):Int)<1000000000000 by omega),Ca];refine .inl ⟨_,rfl,⟨a,10*b,?_,by omega,?_⟩,by simp only;rw[zK (by omega) (by omega)];omega⟩
   ·rw[zK (by omega) (by omega),zK (by omega) (by omega),Ja (by omega)];refine Prod.ext ?_ ?_
    ·show((a+1:Nat):Int) - 1=(a:Int);omega
    ·show 10*(b:Int)=((10*b:Nat):Int);omega
   ·rw[<-d,Gg 10 b,af,af,Gg 10 (10 ^ a)]
theorem mD: ∀(q:Str),q.all digB=true->Lib.indexByte q 46= -1
 |[],_=>rfl
 |c::q,h=>by
  rw[Uc,Ea]at h;have a:=jm h.1;have b:(c==46)=false:=by refine Ga.2 (fun e=> ?_);subst e;revert a;decide
  rw[Lib.indexByte,b,mD q h.2];rfl
theorem nD: ∀(q g:Str),q.all digB=true->Lib.indexByte (q++46::g) 46=(q.length:Int)
 |[],g,_=>by rw[Yb,Lib.indexByte];rfl
 |c::q,g,h=>by
  rw[Uc,Ea]at h;have hd:=jm h.1;have hc:(c==46)=false:=by refine Ga.2 (fun e=> ?_);subst e;revert hd;decide
  rw[Ya,Lib.indexByte,hc,nD q g h.2];have:((q.length:Int)== -1)=false:=Ga.2 (by omega);rw[this,Ia];simp
theorem xD: ∀(l:Str),(l.all fun b=>digB b||b==46)=true->Lib.indexAny l [101,69]= -1
 |[],_=>rfl
 |c::l,h=>by
  rw[Uc,Ea]at h;have hc:List.contains [101,69] c=false:=by
   have: ∀n:Nat,n<256->(digB (UInt8.ofNat n)||UInt8.ofNat n==46)=true->List.contains [101,69] (UInt8.ofNat n)=false:=by decide+kernel
   have:=this c.toNat (aa c);rw[Kc]at this;exact this h.1
  rw[Lib.indexAny,hc,xD l h.2];rfl
end Go.Lv.VT
