/- The reading of tokens: what the program's text and the reference's come to. -/
import Derived.Test.YtcdeccnjlkkejaaGreatDoorTy
import Derived.Test.YtcdeccnjlkkejaaGreatDoorMo
import Derived.Test.YtcdeccnjlkkejaaGreatDoorTx
set_option linter.unusedSimpArgs false
set_option linter.unusedVariables false
namespace Go.Lv.VT
def atS(l:Str)(n:Nat):UInt8:=l.getD n 0
def digB(b:UInt8):Bool:=decide (48<=b.toNat)&&decide (b.toNat<=57)
def spB(b:UInt8):Bool:=b==10||b==9||b==32
def alB(b:UInt8):Bool:=decide (65<=b.toNat)&&decide (b.toNat<=90)||decide (97<=b.toNat)&&decide (b.toNat<=122)
def fstB(b:UInt8):Bool:=alB b||b==95||decide (128<=b.toNat)
def letB(b:UInt8):Bool:=fstB b||digB b||b==45
def hexN(b:UInt8):Nat:=
 if digB b then b.toNat - 48 else if 97<=b.toNat/\b.toNat<=102 then b.toNat - 87 else if 65<=b.toNat/\b.toNat<=70 then b.toNat - 55 else 16
def Qb(b:UInt8):Bool:=decide (hexN b<16)
def escS(l:Str):Bool:=atS l 0==92&& !(atS l 1==10)
def nmS(l:Str):Bool:=if atS l 0==45 then fstB (atS l 1)||atS l 1==45||escS (l.drop 1)else fstB (atS l 0)||escS l
def Ug(b:UInt8):Bool:=b==43||b==45
def unsign(l:Str):Str:=if Ug (atS l 0)then l.drop 1 else l
def undot(l:Str):Str:=if atS l 0==46 then l.drop 1 else l
def nbS(l:Str):Bool:=digB (atS (undot (unsign l)) 0)
def lm:Str:=[239,191,189]
def Xh(n:Nat):Str:=
 if n=0\/(55296<=n/\n<=57343)\/1114111<n then lm
 else if n<128 then [UInt8.ofNat n]
 else if n<2048 then [UInt8.ofNat (192+n / 64),UInt8.ofNat (128+n%64)]
 else if n<65536 then [UInt8.ofNat (224+n / 4096),UInt8.ofNat (128+n / 64%64),UInt8.ofNat (128+n%64)]
 else [UInt8.ofNat (240+n / 262144),UInt8.ofNat (128+n / 4096%64),UInt8.ofNat (128+n / 64%64),UInt8.ofNat (128+n%64)]
def hexes:Nat->Nat->Str->Nat×Str
 |0,n,l=>(n,l)
 |_+1,n,[]=>(n,[])
 |k+1,n,c::r=>if Qb c then hexes k (16*n+hexN c) r else(n,c::r)
def unsp:Str->Str
 |[]=>[]
 |c::r=>if spB c then r else c::r
def zq:Str->Str×Str
 |[]=>(lm,[])
 |c::r=>if Qb c then(Xh (hexes 6 0 (c::r)).1,unsp (hexes 6 0 (c::r)).2)else([c],r)
theorem kD: ∀(k n:Nat) (l:Str),(hexes k n l).2<:+l
 |0,n,l=>Ad l
 |k+1,n,[]=>Ad _
 |k+1,n,c::r=>by
  unfold hexes;split
  ·exact(kD k _ r).trans (Ee c r)
  ·exact Ad _
theorem zAQ(l:Str):unsp l<:+l:=by
 cases l with
 |nil=>exact Ad _
 |cons c r=>
  show(if spB c then r else c::r)<:+c::r;split
  ·exact Ee c r
  ·exact Ad _
theorem ZO(l:Str):(zq l).2<:+l:=by
 cases l with
 |nil=>exact Ad _
 |cons c r=>
  show(if Qb c then(Xh (hexes 6 0 (c::r)).1,unsp (hexes 6 0 (c::r)).2)else([c],r)).2<:+c::r;split
  ·exact(zAQ _).trans (kD 6 0 _)
  ·exact Ee c r
theorem zD(l:Str):(zq l).2.length<=l.length:=(ZO l).length_le
def zm:Str->Str×Str
 |[]=>([],[])
 |c::r=>
  if letB c then((c::(zm r).1),(zm r).2)
  else if escS (c::r)then((zq r).1++(zm (zq r).2).1,(zm (zq r).2).2)
  else([],c::r)
termination_by l=>l.length
decreasing_by
 all_goals first|(have:=zD r;simp only[Ea];omega)|(simp only[Ea];omega)
def past(p:UInt8->Bool):Str->Str
 |[]=>[]
 |c::r=>if p c then past p r else c::r
theorem bn(p:UInt8->Bool): ∀l:Str,past p l<:+l
 |[]=>Ad _
 |c::r=>by
  unfold past;split
  ·exact(bn p r).trans (Ee c r)
  ·exact Ad _
def zQ(l:Str):Str×Bool:=
 if atS l 0==46&&digB (atS l 1)then(past digB (l.drop 1),false)else(l,true)
def expS(l:Str):Option Str:=
 if atS l 0==101||atS l 0==69 then(if digB (atS (unsign (l.drop 1)) 0)then some (past digB (unsign (l.drop 1)))else none)else none
def zC(l:Str):Str×Bool:=
 let x:=zQ (past digB (unsign l))
 match expS x.1 with
 |some r=>(r,false)
 |none=>x
def decN(n:Nat)(b:UInt8):Nat:=10*n+(b.toNat - 48)
def zZ(m:UInt8):Str->Option Str×Str
 |[]=>(some [],[])
 |c::r=>
  if c==m then(some [],r)
  else if c==10 then(none,c::r)
  else if c==92 then
   (if r.isEmpty then(some [],[])
   else if atS r 0==10 then zZ m (r.drop 1)
   else((zZ m (zq r).2).1.map ((zq r).1++ ·),(zZ m (zq r).2).2))
  else((zZ m r).1.map (c:: ·),(zZ m r).2)
termination_by l=>l.length
decreasing_by
 all_goals first|(have:=zD r;simp only[Ea];omega)|(simp only[Ea,Ob];omega)
def badS:Str->Str
 |[]=>[]
 |c::r=>if c==41 then r else if escS (c::r)then badS (zq r).2 else badS r
termination_by l=>l.length
decreasing_by
 all_goals first|(have:=zD r;simp only[Ea];omega)|(simp only[Ea];omega)
def unB(b:UInt8):Bool:=decide (b.toNat<=8)||b==11||decide (14<=b.toNat)&&decide (b.toNat<=31)||b==127
def urlS:Str->Option Str×Str
 |[]=>(some [],[])
 |c::r=>
  if c==41 then(some [],r)
  else if spB c then(match past spB r with
   |[]=>(some [],[])
   |d::f=>if d==41 then(some [],f)else(none,badS (d::f)))
  else if c==34||c==39||c==40||unB c||c==92&& !escS (c::r)then(none,badS (c::r))
  else if c==92 then((urlS (zq r).2).1.map ((zq r).1++ ·),(urlS (zq r).2).2)
  else((urlS r).1.map (c:: ·),(urlS r).2)
termination_by l=>l.length
decreasing_by
 all_goals first|(have:=zD r;simp only[Ea];omega)|(simp only[Ea];omega)
def Fh(b:UInt8):Int:=
 if b==58 then 16 else if b==59 then 17 else if b==44 then 18 else if b==91 then 19 else if b==93 then 20 else if b==40 then 21 else if b==41 then 22 else if b==123 then 23 else if b==125 then 24 else 0
def yh(k:Int):zb:=⟨k,[],0,[],false⟩
def Di:Nat:=1000000000000
def Ij:Nat->Nat->Nat
 |0,n=>n
 |k+1,n=>if n=0\/Di<=n then n else Ij k (min Di (10*n))
set_option maxRecDepth 100000
abbrev sc(s:Str)(k:Nat):za:=⟨s,(k:Int)⟩
def pk(l:Str)(n:Nat):Int:=match l[n]? with|some b=>(b.toNat:Int)|none=> -1
def beh(s r:Str):Nat:=s.length - r.length
theorem Za{n:Int}(h1: -9223372036854775808<=n)(h2:n<=9223372036854775807):w64 n=n:=Jm h1 h2
theorem Ku{s r:Str}(h:r<:+s):s.drop (beh s r)=r:=by obtain⟨t,rfl⟩:=h;unfold beh;rw[Ba,show t.length+r.length - r.length=t.length by omega,Xg]
theorem Yk(s r:Str):beh s r<=s.length:=by unfold beh;omega
theorem KY{s:Str}{k:Nat}(h:k<=s.length):beh s (s.drop k)=k:=by unfold beh;rw[Ob];omega
theorem XB{s:Str}{k n:Nat}(f:s.length<=big)(hk:k<=s.length)(hn:n<=8):zf ((n:Int),sc s k)=some (pk (s.drop k) n):=by
 have hb:big=4194304:=rfl;have e:w64 ((k:Int)+(n:Int))=((k+n:Nat):Int):=by rw[Za (by omega) (by omega)];omega
 unfold zf pk;simp only[e];rw[Ud];by_cases h:k+n<s.length
 ·rw[Ja (by omega),Ka];have c:geti s ((k+n:Nat):Int)=some s[k+n]:=QX h;have d:=Rb s[k+n];simp only[ze,c,Aa,Ma h];rw[Za (by omega) (by omega)]
 ·rw[Db (by omega),Ia,List.getElem?_eq_none (by omega)]
theorem Wv{s:Str}{k:Nat}(c:s.length<=big)(hk:k<=s.length):zf (0,sc s k)=some (pk (s.drop k) 0):=XB (n:=0) c hk (by omega)
theorem bL{s:Str}{k:Nat}(c:s.length<=big)(hk:k<=s.length):zf (1,sc s k)=some (pk (s.drop k) 1):=XB (n:=1) c hk (by omega)
theorem zEM{s:Str}{k:Nat}(c:s.length<=big)(hk:k<=s.length):zf (2,sc s k)=some (pk (s.drop k) 2):=XB (n:=2) c hk (by omega)
theorem Pv{β:Type}{f:Int->Option β}{p:UInt8->β}(h: ∀b:UInt8,f (b.toNat:Int)=some (p b))(h0:f (-1)=some (p 0))(l:Str)(n:Nat):f (pk l n)=some (p (atS l n)):=by
 unfold pk atS;rw[jc];cases l[n]? with
 |none=>exact h0
 |some b=>exact h b
theorem of_n{β:Type}{f:Int->Option β}{p:UInt8->β}(h: ∀n:Nat,n<256->f (n:Int)=some (p (UInt8.ofNat n)))(b:UInt8):f (b.toNat:Int)=some (p b):=by
 have:=h b.toNat (Rb b)
 rwa [Gc]at c
theorem yw(l:Str)(n:Nat):qd (pk l n)=some (spB (atS l n)):=Pv (of_n (by decide+c)) (by decide+c) l n
theorem Tn(l:Str)(n:Nat):Zt (pk l n)=some (digB (atS l n)):=Pv (of_n (by decide+c)) (by decide+c) l n
theorem zC3(l:Str)(n:Nat):Tq (pk l n)=some (fstB (atS l n)):=Pv (of_n (by decide+c)) (by decide+c) l n
theorem nN(l:Str)(n:Nat):Av (pk l n)=some (letB (atS l n)):=Pv (of_n (by decide+c)) (by decide+c) l n
def hexI(b:UInt8):Int:=if Qb b then(hexN b:Int)else -1
theorem gF(l:Str)(n:Nat):yn (pk l n)=some (hexI (atS l n)):=Pv (of_n (by decide+c)) (by decide+c) l n
theorem ji(l:Str)(n:Nat)(c:UInt8)(h:c≠0):(pk l n==(c.toNat:Int))=(atS l n==c):=by
 unfold pk atS;rw[jc];cases l[n]? with
 |none=> have h1:((-1:Int)==(c.toNat:Int))=false:=Ga.2 (by omega);have h2:((none:Option UInt8).getD 0==c)=false:=Ga.2 (fun e=>h e.symm);rw[h2];exact h1
 |some b=>
  show((b.toNat:Int)==(c.toNat:Int))=(b==c);by_cases e:b=c
  ·subst e;rw[yf,yf]
  ·have:b.toNat≠c.toNat:=fun h=>e (Tf.1 h);rw[Ga.2 e,Ga.2 (by omega)]
theorem YL(l:Str)(n:Nat):(pk l n==10)=(atS l n==10):=ji l n 10 (by decide)
theorem jW(l:Str)(n:Nat):(pk l n==34)=(atS l n==34):=ji l n 34 (by decide)
theorem zEN(l:Str)(n:Nat):(pk l n==35)=(atS l n==35):=ji l n 35 (by decide)
theorem zEO(l:Str)(n:Nat):(pk l n==37)=(atS l n==37):=ji l n 37 (by decide)
theorem iW(l:Str)(n:Nat):(pk l n==39)=(atS l n==39):=ji l n 39 (by decide)
theorem zEP(l:Str)(n:Nat):(pk l n==40)=(atS l n==40):=ji l n 40 (by decide)
theorem XL(l:Str)(n:Nat):(pk l n==41)=(atS l n==41):=ji l n 41 (by decide)
theorem WL(l:Str)(n:Nat):(pk l n==43)=(atS l n==43):=ji l n 43 (by decide)
theorem Vv(l:Str)(n:Nat):(pk l n==45)=(atS l n==45):=ji l n 45 (by decide)
theorem UL(l:Str)(n:Nat):(pk l n==46)=(atS l n==46):=ji l n 46 (by decide)
theorem zEQ(l:Str)(n:Nat):(pk l n==64)=(atS l n==64):=ji l n 64 (by decide)
theorem zER(l:Str)(n:Nat):(pk l n==69)=(atS l n==69):=ji l n 69 (by decide)
theorem LW(l:Str)(n:Nat):(pk l n==92)=(atS l n==92):=ji l n 92 (by decide)
theorem zD7(l:Str)(n:Nat):(pk l n==101)=(atS l n==101):=ji l n 101 (by decide)
theorem Jp(l:Str):(pk l 0== -1)=l.isEmpty:=by
 cases l with
 |nil=>rfl
 |cons b r=> show((b.toNat:Int)== -1)=false;exact Ga.2 (by omega)
theorem Qy(l:Str)(k n:Nat):atS (l.drop k) n=atS l (k+n):=by unfold atS;rw[jc,jc,Ud]
theorem tN {R:Type} {step:za->Option (LO za za R)} {s:Str} (p:UInt8->Bool) (h0:p 0=false)
  (h: ∀k,k<=s.length->step (sc s k)=some (bif p (atS (s.drop k) 0)then .again (sc s (k+1))else .out (sc s k))) {k:Nat} (hk:k<=s.length):
  Rh step (sc s k)=some (.out (sc s (beh s (past p (s.drop k))))):=by
 refine Qj (fun z=> ∃j,z=sc s j/\j<=s.length/\past p (s.drop j)=past p (s.drop k)) (fun z=>s.length - z.at_.toNat) _ ?_ ⟨k,rfl,hk,rfl⟩;rintro _ ⟨j,rfl,u,i⟩;rw[h j u];cases d:s.drop j with
 |nil=>
  rw[show atS ([]:Str) 0=0 from rfl,h0,Ia];refine .inr (.inl ⟨_,rfl,?_⟩);rw[<-i,d];have:j=s.length:=by have:=Ff.1 d;omega
  subst f;show LX.out (sc s (beh s []))=_;unfold beh;rw[Lc,Nat.sub_zero]
 |cons c r=>
  have m:j<s.length:=by
   rcases Yc j s.length with h'|h'
   ·exact h'
   ·rw[Re h']at d;cases d
  have hr:s.drop (j+1)=r:=by have:=Yb m;rw[d]at f;injection f with _ h2;exact h2.symm
  rw[show atS (c::r) 0=c from rfl];cases hp:p c with
  |true=> refine .inl ⟨_,rfl,⟨j+1,rfl,by omega,?_⟩,by simp only[jb];omega⟩;rw[hr,<-i,d,past,hp];rfl
  |false=> refine .inr (.inl ⟨_,rfl,?_⟩);rw[<-i,d,past,hp,Ha (by decide),<-d,KY u]
theorem KM{s:Str}{k:Nat}(c:s.length<=big)(hk:k<=s.length):w64 ((k:Int)+1)=((k+1:Nat):Int):=by have hb:big=4194304:=rfl;rw[Za (by omega) (by omega)];omega
theorem zAW{s:Str}{k:Nat}(c:s.length<=big)(hk:k<=s.length):zS (sc s k)=some (sc s (beh s (past spB (s.drop k)))):=by unfold zS;rw[Qk (tN spB rfl (fun j d=> ?_) hk)];simp only[ze,Wv c d,Aa,yw,KM c d];cases spB (atS (s.drop j) 0)<;>rfl
theorem LZ{s:Str}{k:Nat}(c:s.length<=big)(hk:k<=s.length):zP (sc s k)=some (sc s (beh s (past digB (s.drop k)))):=by unfold zP;rw[Qk (tN digB rfl (fun j d=> ?_) hk)];simp only[ze,Wv c d,Aa,Tn,KM c d];cases digB (atS (s.drop j) 0)<;>rfl
theorem number_eq{s:Str}{k:Nat}(c:s.length<=big)(hk:k<=s.length):Zu (sc s k)=some (nbS (s.drop k)):=by
 unfold Zu nbS unsign undot Ug;simp only[ze,Wv c hk,Aa,WL,Vv];have d: ∀(b:Bool),(zW (X:=Int) (bif b then some (LX.out 1)else some (LX.out 0)) fun f=>
   zW (X:=Int) ((zf (f,sc s k)).bind fun j=>bif j==46 then some (LX.out (w64 (f+1)))else some (LX.out f)) fun m=>
   (zf (m,sc s k)).bind fun p=>(Zt p).bind fun r=>some r)=some (digB (atS (if atS (if b then(s.drop k).drop 1 else s.drop k) 0==46 then(if b then(s.drop k).drop 1 else s.drop k).drop 1 else(if b then(s.drop k).drop 1 else s.drop k)) 0)):=by
  intro b;cases b with
  |false=>
   simp only[Ia,zh,Wv c hk,Aa,UL,Tc,Te];cases h:atS (s.drop k) 0==46 with
   |false=>simp only[Ia,zh,Wv c hk,Aa,Tn,Tc,Te]
   |true=> simp only[Ka,zh,Td];rw[show w64 (0+1)=1 from rfl,bL c hk];simp only[Aa,Tn];rw[Qy (s.drop k) 1 0]
  |true=>
   simp only[Ka,zh,bL c hk,Aa,UL,Td];rw[Qy (s.drop k) 1 0];cases h:atS (s.drop k) (1+0)==46 with
   |false=> simp only[jd]at h;simp only[h,Ia,zh,bL c hk,Aa,Tn,Tc,Te];rw[Qy (s.drop k) 1 0]
   |true=> simp only[jd]at h;simp only[h,Ka,zh,Td];rw[show w64 (1+1)=2 from rfl,zEM c hk];simp only[Aa,Tn];rw[Vf,Qy (s.drop k) (1+1) 0]
 have:=d (atS (s.drop k) 0==43||atS (s.drop k) 0==45);rw[show(bif atS (s.drop k) 0==43 then true else atS (s.drop k) 0==45)=(atS (s.drop k) 0==43||atS (s.drop k) 0==45)from by cases (atS (s.drop k) 0==43)<;>rfl];exact i
abbrev sr(s r:Str):za:=sc s (beh s r)
theorem sr_0(s:Str):(⟨s,0⟩:za)=sr s s:=by show sc s 0=sc s (beh s s);unfold beh;rw[Vh]
theorem Xo{s r:Str}{n:Nat}(c:s.length<=big)(hr:r<:+s)(hn:n<=8):zf ((n:Int),sr s r)=some (pk r n):=by rw[XB c (Yk s r) hn,Ku hr]
theorem ah{s r:Str}(c:s.length<=big)(hr:r<:+s):zf (0,sr s r)=some (pk r 0):=Xo (n:=0) c hr (by omega)
theorem Cw{s r:Str}(c:s.length<=big)(hr:r<:+s):zf (1,sr s r)=some (pk r 1):=Xo (n:=1) c hr (by omega)
theorem zD6{s r:Str}(c:s.length<=big)(hr:r<:+s):zf (2,sr s r)=some (pk r 2):=Xo (n:=2) c hr (by omega)
theorem uA{s r:Str}(c:s.length<=big)(hr:r<:+s):zS (sr s r)=some (sr s (past spB r)):=by rw[zAW c (Yk s r),Ku hr]
theorem aB{s r:Str}(c:s.length<=big)(hr:r<:+s):zP (sr s r)=some (sr s (past digB r)):=by rw[LZ c (Yk s r),Ku hr]
theorem zCA{s r:Str}(c:s.length<=big)(hr:r<:+s):Zu (sr s r)=some (nbS r):=by rw[number_eq c (Yk s r),Ku hr]
theorem NN{s r:Str}{n:Nat}(hr:r<:+s)(hn:n<=r.length):beh s r+n=beh s (r.drop n):=by have:=hr.length_le;unfold beh;rw[Ob];omega
theorem YA{s r:Str}{n:Nat}(c:s.length<=big)(hr:r<:+s)(hn:n<=r.length):(⟨s,w64 ((beh s r:Int)+(n:Int))⟩:za)=sr s (r.drop n):=by have hb:big=4194304:=rfl;have:=Yk s r;have h2:=hr.length_le;rw[Za (by omega) (by omega),show(beh s r:Int)+(n:Int)=((beh s r+n:Nat):Int) by omega,NN hr hn]
theorem Dr{l:Str}{n:Nat}(h:atS l n≠0):n<l.length:=by
 rcases Yc n l.length with h'|h'
 ·exact h'
 ·exact absurd (by unfold atS;rw[jc,List.getElem?_eq_none h'];rfl) h
theorem Gv{s r:Str}(c:s.length<=big)(hr:r<:+s)(h:atS r 0≠0):(⟨s,w64 ((beh s r:Int)+1)⟩:za)=sr s (r.drop 1):=YA (n:=1) c hr (Dr h)
theorem Im{s r:Str}(hr:r<:+s)(n:Nat):r.drop n<:+s:=(Nf n r).trans hr
theorem Iq{s r:Str}(p:UInt8->Bool)(hr:r<:+s):past p r<:+s:=(bn p r).trans hr
theorem IJ{s r:Str}(hr:r<:+s):unsign r<:+s:=by
 unfold unsign;split
 ·exact Im hr 1
 ·exact hr
theorem JM{b:UInt8}(h:Ug b=true):b≠0:=by rintro rfl;revert h;decide
theorem dL(a b:Bool):(bif a then true else b)=(a||b):=by cases a<;>rfl
theorem dX(a b:Bool):(bif a then b else false)=(a&&b):=by cases a<;>rfl
theorem AQ{s r:Str}(hr:r<:+s):(zQ r).1<:+s:=by
 unfold zQ;split
 ·exact Iq _ (Im hr 1)
 ·exact hr
theorem SN{s r q:Str}(hr:r<:+s)(h:expS r=some q):q<:+s:=by
 unfold expS at h;split at h
 ·split at h
  ·cases h;exact Iq _ (IJ (Im hr 1))
  ·cases h
 ·cases h
theorem Y5{s r:Str}(hr:r<:+s):(zC r).1<:+s:=by
 unfold zC;have h1:=AQ (Iq digB (IJ hr));simp only;cases h:expS (zQ (past digB (unsign r))).1 with
 |some q=>exact SN h1 h
 |none=>exact h1
theorem lY{s l:Str}(c:s.length<=big)(hl:l<:+s):Z7 (sr s l)=some ((zC l).2,sr s (zC l).1):=by
 unfold Z7;simp only[ze,ah c hl,Aa,WL,Vv,dL];have e1:(bif (atS l 0==43||atS l 0==45)then some (LX.out (⟨s,w64 ((beh s l:Int)+1)⟩:za))else some (LX.out (sr s l)))=(some (LX.out (sr s (unsign l))):Option (LX za (Bool×za))):=by
  unfold unsign;cases h:Ug (atS l 0)with
  |true=> have h':(atS l 0==43||atS l 0==45)=true:=h;rw[h',Ka,La rfl,Gv c hl (JM h)]
  |false=> have h':(atS l 0==43||atS l 0==45)=false:=h;rw[h',Ia,Ha (by decide)]
 rw[e1,zh];have hu:=IJ hl;rw[aB c hu];simp only[Aa];have hp:=Iq digB hu;unfold zC;generalize past digB (unsign l)=q at hp ⊢;have e2:zW (X:=Bool×za) (R:=Bool×za) ((zf (0,sr s q)).bind fun v=>
   (zu (v==46) (zf (1,sr s q)) (default:Int)).bind fun V=>
   (zu (v==46) (Zt V) (default:Bool)).bind fun Y=>
   bif bif v==46 then Y else false then(zP (⟨s,w64 ((beh s q:Int)+1)⟩:za)).bind fun Z=>some (LX.out (false,Z))else some (LX.out (true,sr s q)))=zW (some (LX.out ((zQ q).2,sr s (zQ q).1))):=by
  congr 1;unfold zQ;simp only[ah c hp,Cw c hp,Aa,UL];cases h:atS q 0==46 with
  |false=>simp only[ZA,Aa,Ia,Sc,Tc,Te]
  |true=>
   simp only[Zp,Aa,Ka,Tn,Vb];cases h2:digB (atS q 1)with
   |false=>simp only[Ia,Tc,Te]
   |true=> rw[Ka,La rfl,Gv c hp (by rw[Ib.1 h];decide),aB c (Im hp 1)];rfl
 rw[e2,zh];have m:=AQ hp;generalize zQ q=W at m ⊢;obtain⟨w,i⟩:=W;simp only at m ⊢;have e3:((zf (0,sr s w)).bind fun J=>
   (zu (!(J==101)) (zf (0,sr s w)) (default:Int)).bind fun j=>
   bif bif J==101 then true else j==69 then
    zW (X:=(Bool×Int)×za) ((zf (1,sr s w)).bind fun u=>bif bif u==43 then true else u==45 then some (LX.out ((i,2),sr s w))else some (LX.out ((i,1),sr s w))) fun d=>
    (zf (d.1.2,d.2)).bind fun y=>(Zt y).bind fun z=>
    bif z then(zP (⟨d.2.s,w64 (d.2.at_+d.1.2)⟩:za)).bind fun A=>some (LX.out (false,A))else some (LX.out (d.1.1,d.2))
   else some (LX.out (i,sr s w)))=(some (LX.out (match expS w with|some r=>(false,sr s r)|none=>(i,sr s w))):Option (LX (Bool×za) (Bool×za))):=by
  simp only[ah c m,Aa,zD7];have e4:((zu (!(atS w 0==101)) (some (pk w 0)) (default:Int)).bind fun j=>(some (bif atS w 0==101 then true else j==69):Option Bool))=some (atS w 0==101||atS w 0==69):=by
   cases h:atS w 0==101 with
   |true=>rfl
   |false=>simp only[Ec,Zp,Aa,Ia,zER,Vd]
  have e5: ∀(f:Bool->Option (LX (Bool×za) (Bool×za))),((zu (!(atS w 0==101)) (some (pk w 0)) (default:Int)).bind fun j=>f (bif atS w 0==101 then true else j==69))=f (atS w 0==101||atS w 0==69):=by intro f;have:=congrArg (fun o=>Option.bind o f) e4;simpa [Option.bind_assoc] using L
  refine(e5 (fun b=>bif b then _ else _)).trans ?_;unfold expS;cases h:(atS w 0==101||atS w 0==69)with
  |false=>rfl
  |true=>
   have B:atS w 0≠0:=by intro e;rw[e]at h;revert h;decide
   simp only[Ka,Td,Cw c m,Aa,WL,Vv,dL];unfold unsign;have O:atS (w.drop 1) 0=atS w 1:=by rw[Qy w 1 0]
   rw[O];cases U:(atS w 1==43||atS w 1==45)with
   |true=>
    have p:Ug (atS w 1)=true:=U;have a3:=Dr (JM p);simp only[Ka,zh,zD6 c m,Aa,Tn,p,Td,Vf];rw[show atS (w.drop (1+1)) 0=atS w 2 by rw[Qy w 2 0]];cases hq:digB (atS w 2)with
    |false=>rfl
    |true=> rw[Ka,La rfl,show(2:Int)=((2:Nat):Int)from rfl,YA c m (by omega),aB c (Im m 2)];rfl
   |false=>
    have p:Ug (atS w 1)=false:=U;simp only[Ia,zh,Cw c m,Aa,Tn,p,Tc,Te];rw[O];cases hq:digB (atS w 1)with
    |false=>rfl
    |true=> rw[Ka,La rfl,Gv c m B,aB c (Im m 1)];rfl
 refine(congrArg (fun o=>zW o _) e3).trans ?_;rw[zh];cases expS w<;>rfl
def valG(n:Nat)(l:Str):Nat:=l.foldl decN n
theorem LC(n:Nat)(a b:Str):valG n (a++b)=valG (valG n a) b:=List.foldl_append
theorem BP{k:Nat}(h:k<10):digB (UInt8.ofNat (48+k))=true/\(UInt8.ofNat (48+k)).toNat=48+k:=by
 have:(UInt8.ofNat (48+k)).toNat=48+k:=by rw[UInt8.toNat_ofNat'];omega
 refine⟨?_,c⟩;unfold digB;rw[c,Ja (by omega),Ja (by omega)];rfl
theorem yt: ∀(u:Nat),(Lib.decDigits u).all digB=true/\valG 0 (Lib.decDigits u)=u/\Lib.decDigits u≠[]:=by
 intro u
 induction u using Nat.strongRecOn with
 |_ u d=>
  rw[Lib.decDigits];by_cases h:u<10
  ·rw[dif_pos h];obtain⟨h1,h2⟩:=BP h;refine⟨by rw[Pd,h1];rfl,?_,by simp⟩;show decN 0 _=u;unfold decN;rw[h2];omega
  ·rw[dif_neg h];obtain⟨a,b,c⟩:=d (u / 10) (by omega);obtain⟨h1,h2⟩:=BP (k:=u%10) (by omega);refine⟨by rw[Fg,a,Pd,h1];rfl,?_,by simp⟩;rw[LC,b];show decN _ _=u;unfold decN;rw[h2];omega
theorem lC: ∀(q t:Str),q.all digB=true->past digB (q++t)=past digB t
 |[],t,_=>rfl
 |c::q,t,h=>by rw[Pd,Da]at h;rw[ja,past,La h.1,lC q t h.2]
def d48(k:Nat):UInt8:=UInt8.ofNat (48+k)
def ni(r:Nat):Str:=Lib.trimRightB [d48 (r / 100),d48 (r / 10%10),d48 (r%10)] 48
theorem vX{r:Nat}(h:r<1000):Lib.decDigits (1000+r)=49::[d48 (r / 100),d48 (r / 10%10),d48 (r%10)]:=by rw[Lib.decDigits,dif_neg (by omega),Lib.decDigits,dif_neg (by omega),Lib.decDigits,dif_neg (by omega),Lib.decDigits,dif_pos (by omega)];rw[show(1000+r) / 10 / 10 / 10=1 by omega,show(1000+r) / 10 / 10%10=r / 100 by omega,show(1000+r) / 10%10=r / 10%10 by omega,show(1000+r)%10=r%10 by omega];rfl
def JB(r:Nat):Bool:=(ni r).all digB&&decide ((ni r).length<=3)&&decide (valG 0 (ni r)*10 ^ (3 - (ni r).length)=r)&&((ni r).isEmpty==(r==0))&& !((ni r).getLast? ==some 48)
theorem FI: ∀r,r<1000->JB r=true:=by decide+c
def Xm(r:Nat)(p:Bool):Str:=bif (ni r).isEmpty then(bif p then [46,48]else [])else 46::ni r
def xg(m:Nat)(p:Bool):Str:=Lib.decDigits (m / 1000)++Xm (m%1000) p
def numT(n:Int)(p:Bool):Str:=(if n<0 then [45]else [])++xg n.natAbs p
theorem CJ{u:Nat}(h:u<18446744073709551616):(Lib.decDigits u).length<=20:=by
 rw[Lib.decDigits_length];by_cases h1:u=0
 ·subst h1;rw[Lib.nDigits_small (by omega)];omega
 ·have:=Lib.numDigits_eq u (by omega) h;split at c<;>omega
theorem zAH{r:Nat}(h:r<1000)(p:Bool):(Xm r p).length<=4:=by
 have:=FI r h;simp only[JB,Da,Cc]at c;unfold Xm;cases (ni r).isEmpty with
 |true=>cases p<;>simp
 |false=>simp only[Ia,Ea];omega
theorem LD{m:Nat}(h:m<=1000000000000)(p:Bool):(xg m p).length<=24:=by unfold xg;rw[Ba];have:=CJ (u:=m / 1000) (by omega);have:=zAH (r:=m%1000) (by omega) p;omega
theorem Yl{n m b:Nat}(h:n+m<=100000)(hb:b<=100):Zb n m b=true:=by unfold Zb;refine Ja ?_;have:=Nat.mul_le_mul h hb;omega
theorem Y3(l:Str):(l==[])=l.isEmpty:=by cases l<;>rfl
def ym(n:Nat):Nat:=if 65<=n/\n<=90 then n+32 else n
def Xk(b:UInt8):UInt8:=UInt8.ofNat (ym b.toNat)
theorem TZ{n:Nat}(h:n<256):ym n<256:=by unfold ym;split<;>omega
theorem D7(b:UInt8):(Xk b).toNat=ym b.toNat:=by unfold Xk;rw[UInt8.toNat_ofNat'];exact Kg (TZ (Rb b))
theorem FZ: ∀n:Nat,n<256->qF (n:Int)=some ((ym n:Nat):Int):=by decide+c
theorem zDS: ∀n:Nat,n<256->(bif decide (65<=(n:Int))then decide ((n:Int)<=90)else false)=true->Zw (ibOr IntKind.u8 (n:Int) 32)=some (UInt8.ofNat (ym n)):=by decide+c
def lowS(l:Str):Str:=l.map Xk
theorem OH{α:Type}{l:List α}{i:Nat}(h:i<l.length)(f:α->α):((l.take i).map f++l.drop i).set i (f l[i])=(l.take (i+1)).map f++l.drop (i+1):=by
 apply List.ext_getElem
 ·simp;omega
 ·intro j h1 h2;rw[List.getElem_set];split
  ·rename_i c;subst c;rw[List.getElem_append_left (by simp;omega)];simp
  ·rename_i c;simp only[List.getElem_append,Ra,Md,List.getElem_map,List.getElem_take,List.getElem_drop];split
   ·rename_i d;rw[dif_pos (by omega)]
   ·rename_i d;rw[dif_neg (by omega)];congr 1;omega
theorem pG{α:Type}{l:List α}{i:Nat}(h:i<l.length)(f:α->α):((l.take i).map f++l.drop i)[i]? =some l[i]:=by rw[Xc (by simp;omega)];simp[h,Nat.min_eq_left (Nat.le_of_lt h)]
theorem AC{α:Type}{l:List α}{i:Nat}(h:i<=l.length)(f:α->α):((l.take i).map f++l.drop i).length=l.length:=by simp;omega
theorem xY{α:Type}{l:List α}{i:Nat}(h:i<l.length)(f:α->α)(e:f l[i]=l[i]):(l.take i).map f++l.drop i=(l.take (i+1)).map f++l.drop (i+1):=by
 rw[<-OH h f,e];apply Yi;intro j;rw[List.getElem?_set];split
 ·rename_i c;subst c;rw[pG h,AC (Nat.le_of_lt h),La h]
 ·rfl
theorem Ww(i:Nat):decide ((0:Int)<=(i:Int))=true:=Ja (by omega)
theorem WP{l:Str}(h:l.length<=big):Q6 l=some (lowS l):=by
 unfold Q6;rw[zy (Ja (by unfold big at h;unfold maxLen;omega))];have f: ∀(k i:Nat),i+k=l.length-> ∃n,Qs (X:=List UInt8) (R:=Str) (fun(c:Int×List UInt8)=>
   bif decide (c.1<(c.2.length:Int))then
    need (decide (0<=c.1)&&decide (c.1<(c.2.length:Int)))<|
    ze c.2[c.1.toNat]? fun m=>
    ze (qF (m.toNat:Int)) fun p=>
    need (decide (0<=c.1)&&decide (c.1<(c.2.length:Int)))<|
    ze c.2[c.1.toNat]? fun v=>
    ze (Zw p) fun r=>
    some (LO.again (w64 (c.1+1),List.set c.2 c.1.toNat r))
   else
    some (LO.out c.2)) n ((i:Int),(l.take i).map Xk++l.drop i)=some (.out (lowS l)):=by
  intro k
  induction k with
  |zero=>
   intro i hi;have hi:i=l.length:=by omega
   subst hi;refine⟨1,?_⟩;simp only[Qs,AC (Va _),Kl,Ia];simp[lowS]
  |j k u=>
   intro i hi;have d:i<l.length:=by omega
   obtain⟨n,hn⟩:=u (i+1) (by omega);refine⟨n+1,?_⟩;have hb:=Rb l[i];simp only[Qs,AC (Nat.le_of_lt d),ek d,Ka,Ww,Uc,Z5,jb,pG d,ze,Aa,FZ _ hb];rw[<-D7,zzd,Qd d h];simp only[Aa,OH d];exact hn
 obtain⟨n,hn⟩:=f l.length 0 (by omega);replace hn:=dn hn;simp only[Bg,ic,Kc,Pf]at hn;exact(Yp hn).trans rfl
theorem iR{l:Str}(h:l.length<=big):ou l=some (lowS l):=by
 unfold ou;rw[zy (Ja (by unfold big at h;unfold maxLen;omega))];have f: ∀(k i:Nat),i+k=l.length-> ∃n,Qs (X:=List UInt8) (R:=Str) (fun(c:Int×List UInt8)=>
   bif decide (c.1<(l.length:Int))then
    zW (X:=Int×List UInt8) (
      need (decide (0<=c.1)&&decide (c.1<(c.2.length:Int)))<|
      ze c.2[c.1.toNat]? fun j=>
      bif bif decide (65<=(j.toNat:Int))then decide ((j.toNat:Int)<=90)else false then
       need (decide (0<=c.1)&&decide (c.1<(c.2.length:Int)))<|
       ze c.2[c.1.toNat]? fun r=>
       need (decide (0<=c.1)&&decide (c.1<(c.2.length:Int)))<|
       ze c.2[c.1.toNat]? fun y=>
       ze (Zw (ibOr IntKind.u8 (r.toNat:Int) 32)) fun u=>
       some (LX.out (c.1,List.set c.2 c.1.toNat u))
      else
       some (LX.out (c.1,c.2))) fun m=>
    some (LO.again (w64 (m.1+1),m.2))
   else
    some (LO.out c.2)) n ((i:Int),(l.take i).map Xk++l.drop i)=some (.out (lowS l)):=by
  intro k
  induction k with
  |zero=>
   intro i hi;have hi:i=l.length:=by omega
   subst hi;refine⟨1,?_⟩;simp only[Qs,Kl,Ia];simp[lowS]
  |p k v=>
   intro i hi;have d:i<l.length:=by omega
   obtain⟨n,hn⟩:=v (i+1) (by omega);refine⟨n+1,?_⟩;have hb:=Rb l[i];simp only[Qs,AC (Nat.le_of_lt d),ek d,Ka,Ww,Uc,Z5,jb,pG d,ze,Aa];cases hc:(bif decide (65<=(l[i].toNat:Int))then decide ((l[i].toNat:Int)<=90)else false)with
   |true=> have e:=zDS _ hb hc;simp only[e,Ka,Aa,zh,Qd d h];rw[show UInt8.ofNat (ym l[i].toNat)=Xk l[i]from rfl,OH d];exact hn
   |false=>
    have e:Xk l[i]=l[i]:=by unfold Xk ym;rw[Ha,Gc];rintro⟨h1,h2⟩;rw[Ja (by omega),Ka,Ja (by omega)]at hc;cases hc
    simp only[Ia,zh,Qd d h];rw[xY d Xk e];exact hn
 obtain⟨n,hn⟩:=f l.length 0 (by omega);replace hn:=dn hn;simp only[Bg,ic,Kc,Pf]at hn;exact(Yp hn).trans rfl
def Zn(l:Str):Bool:=l.all fun b=> !(b==0)
theorem vG(c:UInt8): ∀l:Str,decide (Lib.indexByte l c>=0)=l.any fun b=>b==c
 |[]=>rfl
 |b::l=>by
  have d:=vG c l;have f:=Lib.indexByte_ge l c;rw[List.any_cons,Lib.indexByte];cases hb:(b==c)with
  |true=>rfl
  |false=>
   rw[Vd,<-d,Ha (by simp)];by_cases h:Lib.indexByte l c= -1
   ·rw[La (by rw[h];rfl),h]
   ·rw[Ha (by simpa using h)];rw[Ja (by omega),Ja (by omega)]
theorem zCy(l:Str):(l.any fun b=>b==0)= !Zn l:=by
 unfold Zn
 induction l with
 |nil=>rfl
 |cons b l c=>rw[List.any_cons,Pd,c];cases (b==0)<;>simp
theorem jE(l:Str)(n:Int):strings_IndexByte (l,n)=some (Lib.indexByte l n.toNat.toUInt8):=rfl
theorem zCj(l:Str):decide (Lib.indexByte l (0:Int).toNat.toUInt8>=0)= !Zn l:=(vG 0 l).trans (zCy l)
theorem zDN(n m:Nat):decide ((n:Int)>(m:Int))= !decide (n<=m):=by
 by_cases h:n<=m
 ·rw[Ja h,Db (by omega)];rfl
 ·rw[Db h,Ja (by omega)];rfl
theorem byte_zero(b:UInt8):((b.toNat:Int)==0)=(b==0):=by
 by_cases h:b=0
 ·subst h;rfl
 ·have h2:b.toNat≠0:=fun e=>h (Tf.1 e);rw[Ga.2 h,Ga.2 (by omega)]
theorem JX(n m:Nat):decide ((n:Int)<=(m:Int))=decide (n<=m):=by
 by_cases h:n<=m
 ·rw[Ja h,Ja (by omega)]
 ·rw[Db h,Db (by omega)]
theorem Bv(l m:Str):strings_HasPrefix (l,m)=some (m.isPrefixOf l):=by
 have c: ∀m l:Str,m.isPrefixOf l=(decide (m.length<=l.length)&&l.take m.length==m):=by
  intro m l;rw[Kh];simp only[Ig,Da,Cc,Ib];constructor
  ·rintro⟨t,rfl⟩;exact⟨by simp,by simp⟩
  ·rintro⟨h1,h2⟩;exact⟨l.drop m.length,by rw[<-h2,Md,Nat.min_eq_left h1,Lf]⟩
 unfold strings_HasPrefix stringslite_HasPrefix;have e1:decide ((l.length:Int)>=(m.length:Int))=decide (m.length<=l.length):=JX _ _;have e2:decide ((m.length:Int)<=(l.length:Int))=decide (m.length<=l.length):=JX _ _;simp only[e1,e2,Ww,Vb,c];cases decide (m.length<=l.length)<;>rfl
theorem zpL(l m:Str):strings_TrimPrefix (l,m)=some (bif m.isPrefixOf l then l.drop m.length else l):=by
 have h:stringslite_HasPrefix (l,m)=some (m.isPrefixOf l):=by
  have:=Bv l m;unfold strings_HasPrefix at c;cases d:stringslite_HasPrefix (l,m)with
  |none=>simp only[d]at c;cases c
  |some b=>simp only[d]at c;exact c
 unfold strings_TrimPrefix stringslite_TrimPrefix;simp only[h,ze,Aa];cases hp:m.isPrefixOf l with
 |false=>rfl
 |true=> have hl:=(Ig.1 hp).length_le;simp only[Ka,Ww,Vb];rw[zy (Ja (by omega))];rfl
theorem kJ{a b:Str}(h1:a.length<=big)(h2:b.length<=big):Wq (a,b)=some (lowS a==lowS b):=by unfold Wq;simp only[iR h1,iR h2,ze,Aa]
theorem GZ{a b:Str}(h1:a.length<=big)(h2:b.length<=big):qE (a,b)=some (lowS a==lowS b):=by unfold qE;simp only[WP h1,WP h2,ze,Aa]
def Vi(n:Nat):Bool:=
 !(n==0||n==9||n==10||n==12||n==13||n==32||n==34||n==39||n==40||n==41||n==44||n==58||n==59||n==91||n==93||n==95||n==123||n==125)&&
  (decide (n<128)&& !((decide (48<=n)&&decide (n<=57))||(decide (65<=n)&&decide (n<=90))||(decide (97<=n)&&decide (n<=122))))
set_option maxRecDepth 100000 in
theorem zBY: ∀n:Nat,n<256->WK 40 (n:Int)=some (Vi n):=by decide+c
def xB:Prop:= ∀b:UInt8,qH (b.toNat:Int)=some (Vi b.toNat)
theorem zm9:xB:=fun b=>
 zmT 40 _ _ (zBY _ (Rb b))
def digN(n:Nat):Bool:=decide (48<=n)&&decide (n<=57)
theorem D9: ∀n:Nat,n<256->zX (n:Int)=some (digN n):=by decide+c
theorem XP(b:UInt8):zX (b.toNat:Int)=some (digN b.toNat):=(D9 _ (Rb b))
theorem zqv: ∀n:Nat,n<256->qA (n:Int)=some (digN n):=by decide+c
theorem VU(b:UInt8):qA (b.toNat:Int)=some (digN b.toNat):=(zqv _ (Rb b))
def namN(n:Nat):Bool:=digN n||(decide (65<=n)&&decide (n<=90))||(decide (97<=n)&&decide (n<=122))||n==95||n==45||decide (128<=n)
theorem zqx: ∀n:Nat,n<256->Ho (n:Int)=some (namN n):=by decide+c
theorem UU(b:UInt8):Ho (b.toNat:Int)=some (namN b.toNat):=(zqx _ (Rb b))
def Rk:Str->Bool
 |[]=>false
 |b::r=>digN b.toNat||(b==45&&(r==[]||digN (r.headD 0).toNat))
theorem iB(b c:UInt8):((b.toNat:Int)==(c.toNat:Int))=(b==c):=by
 by_cases h:b=c
 ·subst h;simp
 ·have h2:b.toNat≠c.toNat:=fun e=>h (Tf.1 e);rw[Ga.2 h,Ga.2 (by omega)]
theorem zBM(b:UInt8):((b.toNat:Int)==45)=(b==45):=iB b 45
theorem zpo(l:Str):Rz l=some (Rk l):=by
 unfold Rz;cases l with
 |nil=>rfl
 |cons b r=>
  have h0:geti (b::r) 0=some b:=rfl;have hn:(b::r==([]:Str))=false:=rfl;simp only[hn,Ia,h0,ze,Aa,XP,Rm,zBM];cases r with
  |nil=>
   have e:(([b]:Str)==[45])=(b==45):=by show((b==45)&&true)=_;rw[Uc]
   simp only[e];unfold Rk;cases hb:(b==45)with
   |false=>cases h2:digN b.toNat<;>simp[hb,zu,h2]
   |true=>cases h2:digN b.toNat<;>simp[hb,zu,h2]
  |cons d r=>
   have h1:geti (b::d::r) 1=some d:=rfl;have e:((b::d::r:Str)==[45])=false:=by show((b==45)&&false)=_;rw[Ve]
   simp only[h1,e,Rm,Aa,XP,Rk,List.headD_cons];cases hb:(b==45)<;>cases h2:digN b.toNat<;>simp[hb]
def numS:Str->Bool
 |[]=>false
 |b::r=>bif b==45 then !(r==[])&&digN (r.headD 0).toNat else digN b.toNat
theorem KV(l:Str):QY l=some (numS l):=by
 unfold QY;simp only[zpL,ze,Aa];have c: ∀m:Str,((zu (!(m==[])) (geti m 0) 0).bind fun d=>(zu (!(m==[])) (qA (d.toNat:Int)) (default:Bool)).bind fun f=>some (bif !(m==[])then f else false))=some (!(m==[])&&digN (m.headD 0).toNat):=by
  intro m;cases m with
  |nil=>rfl
  |cons b r=> have h0:geti (b::r) 0=some b:=rfl;have hn:(b::r==([]:Str))=false:=rfl;simp only[hn,Ec,Zp,h0,Aa,VU,Ka,List.headD_cons,Vb]
 rw[c];cases l with
 |nil=>rfl
 |cons b r=>
  have e:List.isPrefixOf [45] (b::r)=(b==45):=by
   show((45==b)&&true)=_;rw[Uc];cases hb:(b==45)with
   |true=>rw[Ib]at hb;subst hb;rfl
   |false=>rw[Ga]at hb;exact Ga.2 (Ne.symm hb)
  rw[e];show _=some (bif b==45 then !(r==[])&&digN (r.headD 0).toNat else digN b.toNat);cases b==45<;>rfl
theorem zAe(l:Str):((numS l&& !(List.isPrefixOf [45,45] l))||l==[45])=Rk l:=by
 cases l with
 |nil=>rfl
 |cons b r=>
  cases hb:(b==45)with
  |false=>
   have e1:List.isPrefixOf [45,45] (b::r)=false:=by show((45==b)&&_)=_;rw[Ga]at hb;rw[Ga.2 (Ne.symm hb)];rfl
   have e2:((b::r:Str)==[45])=false:=by show((b==45)&&_)=_;rw[hb];rfl
   rw[e1,e2];unfold numS Rk;simp[hb]
  |true=>
   rw[Ib]at hb;subst hb;cases r with
   |nil=>rfl
   |cons d r=>
    have e2:((45::d::r:Str)==[45])=false:=rfl;rw[e2];unfold numS Rk;have e1:List.isPrefixOf [45,45] (45::d::r)=(45==d):=by show((45==(45:UInt8))&&((45==d)&&true))=_;rw[Uc];rfl
    rw[e1];simp only[List.headD_cons];have c:digN 45=false:=by decide
    cases h:(45==d)with
    |false=>simp[c]
    |true=>rw[Ib]at h;subst h;rfl
def delS(l:Str):Bool:=match l with
 |[b]=>Vi b.toNat
 |_=>false
def rngS(x:zb):Bool:=decide (-1000000000000<=x.num)&&(decide (x.num<=1000000000000)&&(!x.flag||Int.tmod x.num 1000==0))
def ug(x:zb):Bool:=
 bif x.kind==1||x.kind==2||x.kind==3 then !(x.text==[])&&(Zn x.text&&(x.num==0&&(x.unit==[]&& !x.flag)))
 else bif x.kind==4 then !(x.text==[])&&(Zn x.text&&((x.flag||Rk x.text)&&(x.num==0&&x.unit==[])))
 else bif x.kind==5||x.kind==7 then Zn x.text&&(x.num==0&&(x.unit==[]&& !x.flag))
 else bif x.kind==9 then delS x.text&&(x.num==0&&(x.unit==[]&& !x.flag))
 else bif x.kind==10||x.kind==11||x.kind==12 then rngS x&&((!(x.unit==[])==(x.kind==12))&&(Zn x.unit&&((!(x.kind==11)|| !x.flag)&&x.text==[])))
 else(decide (13<=x.kind)&&decide (x.kind<=24))&&(x.text==[]&&(x.num==0&&(x.unit==[]&& !x.flag)))
theorem mU{l:Str}(h:l.length<=big):Co l=some (Zn l):=by
 unfold Co;refine(rR l (fun b=>bif (!(b==0))then none else some false) () (fun i hi=> ?_) ?_).trans ?_
 ·simp only[ek hi,Ka,QX hi,ze,Aa,byte_zero,Qd hi h];cases l[i]==0<;>rfl
 ·simp only[Kl,Ia]
 ·rw[II];show _=some (Zn l);unfold Zn;cases l.all (fun b=> !(b==0))<;>rfl
theorem one_byte(l:Str)(p:Nat->Bool)(d:Bool)(f:Int->Option Bool)(hf: ∀b:UInt8,f (b.toNat:Int)=some (p b.toNat))(g:Bool):
  ((zu (g&&(l.length:Int)==1) (geti l 0) (0:UInt8)).bind fun y=>zu (g&&(l.length:Int)==1) (f (y.toNat:Int)) d)=some (bif g&&(l.length:Int)==1 then(match l with|[b]=>p b.toNat|_=>false)else d):=by
 cases g with
 |false=>rfl
 |true=>
  cases l with
  |nil=>rfl
  |cons b r=>
   cases r with
   |nil=> show((geti [b] 0).bind fun y=>f (y.toNat:Int))=some (p b.toNat);rw[show geti [b] 0=some b from rfl];exact hf b
   |cons c r=> have:(((b::c::r).length:Int)==1)=false:=Ga.2 (by simp only[Ea];omega);rw[i];rfl
theorem X8(hD:xB)(l:Str)(g:Bool):((zu (g&&(l.length:Int)==1) (geti l 0) (0:UInt8)).bind fun y=>zu (g&&(l.length:Int)==1) (qH (y.toNat:Int)) (default:Bool))=some (bif g&&(l.length:Int)==1 then delS l else default):=
 one_byte l Vi default qH hD g
theorem pX(l:Str):(((l.length:Int)==1)&&delS l)=delS l:=by
 cases l with
 |nil=>rfl
 |cons b r=>
  cases r with
  |nil=>rfl
  |cons c r=> have:(((b::c::r).length:Int)==1)=false:=Ga.2 (by simp only[Ea];omega);rw[d];rfl
theorem zpp(hD:xB){x:zb}(h1:x.text.length<=big)(h2:x.unit.length<=big):Pz x=some (ug x):=by
 have B:=X8 hD x.text true;simp only[Vb]at B;have p:((zu ((x.text.length:Int)==1) (geti x.text 0) (0:UInt8)).bind fun J=>(zu ((x.text.length:Int)==1) (qH (J.toNat:Int)) (default:Bool)).bind fun y8=>some (bif bif (x.text.length:Int)==1 then y8 else false then x.kind==x.kind&&(([]:Str)==[]&&(x.num==0&&(x.unit==[]&&(x.flag==false&&true))))else false))=some (delS x.text&&(x.num==0&&(x.unit==[]&& !x.flag))):=by
  have e: ∀(k:Bool->Option Bool),((zu ((x.text.length:Int)==1) (geti x.text 0) (0:UInt8)).bind fun J=>(zu ((x.text.length:Int)==1) (qH (J.toNat:Int)) (default:Bool)).bind k)=(((zu ((x.text.length:Int)==1) (geti x.text 0) (0:UInt8)).bind fun y=>zu ((x.text.length:Int)==1) (qH (y.toNat:Int)) (default:Bool))).bind k:=by intro k;rw[Option.bind_assoc]
  rw[e,B,Aa,<-pX x.text];simp only[yf];cases (x.text.length:Int)==1<;>cases delS x.text<;>cases x.flag<;>rfl
 unfold Pz;simp only[ze,mU h1,mU h2,zpo,Rm,Aa,ge_iff_le];unfold ug rngS;by_cases U:x.kind=9
 ·simp only[U,Int.reduceBEq,Ka,Ia,zh,Uf,Vd]at p ⊢;exact p
 clear B p;have b9:=Ga.2 U;generalize delS x.text=a0;generalize Zn x.text=a1;generalize Zn x.unit=a2;generalize Rk x.text=a3;generalize c:(x.text==[])=a4;generalize d:(x.unit==[])=j;generalize f:(x.num==0)=r;generalize i:x.flag=m;generalize decide (-1000000000000<=x.num)=L;generalize decide (x.num<=1000000000000)=O;generalize (Int.tmod x.num 1000==0)=u;by_cases k1:x.kind=1
 ·simp only[k1,zh,Ka,Ia,c,d,f,i,Int.reduceBEq];cases a1<;>cases a4<;>cases j<;>cases r<;>cases m<;>rfl
 by_cases k2:x.kind=2
 ·simp only[k2,zh,Ka,Ia,c,d,f,i,Int.reduceBEq];cases a1<;>cases a4<;>cases j<;>cases r<;>cases m<;>rfl
 by_cases k3:x.kind=3
 ·simp only[k3,zh,Ka,Ia,c,d,f,i,Int.reduceBEq];cases a1<;>cases a4<;>cases j<;>cases r<;>cases m<;>rfl
 by_cases k4:x.kind=4
 ·simp only[k4,zh,Ka,Ia,c,d,f,i,Int.reduceBEq];cases a1<;>cases a3<;>cases a4<;>cases j<;>cases r<;>cases m<;>rfl
 by_cases k5:x.kind=5
 ·simp only[k5,zh,Ka,Ia,c,d,f,i,Int.reduceBEq];cases a1<;>cases a4<;>cases j<;>cases r<;>cases m<;>rfl
 by_cases V:x.kind=7
 ·simp only[V,zh,Ka,Ia,c,d,f,i,Int.reduceBEq];cases a1<;>cases a4<;>cases j<;>cases r<;>cases m<;>rfl
 by_cases v:x.kind=10
 ·simp only[v,zh,Ka,Ia,c,d,f,i,Int.reduceBEq];cases a2<;>cases a4<;>cases j<;>cases m<;>cases L<;>cases O<;>cases u<;>rfl
 by_cases z:x.kind=11
 ·simp only[z,zh,Ka,Ia,c,d,f,i,Int.reduceBEq];cases a2<;>cases a4<;>cases j<;>cases m<;>cases L<;>cases O<;>cases u<;>rfl
 by_cases A:x.kind=12
 ·simp only[A,zh,Ka,Ia,c,d,f,i,Int.reduceBEq];cases a2<;>cases a4<;>cases j<;>cases m<;>cases L<;>cases O<;>cases u<;>rfl
 simp only[b9,Ga.2 k1,Ga.2 k2,Ga.2 k3,Ga.2 k4,Ga.2 k5,Ga.2 V,Ga.2 v,Ga.2 z,Ga.2 A,zh,Ka,Ia,c,d,f,i,yf,Bool.or_self];by_cases W:x.kind=6
 ·simp only[W,zh,Ka,Ia,Int.reduceBEq];rfl
 by_cases Y:x.kind=8
 ·simp only[Y,zh,Ka,Ia,Int.reduceBEq];rfl
 simp only[Ga.2 W,Ga.2 Y,zh,Ka,Ia];have e:(decide (1<=x.kind)&&decide (x.kind<=24))=(decide (13<=x.kind)&&decide (x.kind<=24)):=by
  by_cases Z:13<=x.kind
  ·rw[Ja Z,Ja (by omega)]
  ·rw[Db Z];by_cases h1:1<=x.kind
   ·omega
   ·rw[Db h1]
 rw[<-e];cases decide (1<=x.kind)<;>cases decide (x.kind<=24)<;>cases a4<;>cases j<;>cases r<;>cases m<;>rfl
abbrev Gs:Str:=[32,9,10,12,13,34,39,58,59,44,91,93,40,41,123,125]
theorem FE: ∀(m:Str) (c:UInt8),Lib.index m [c]=Lib.indexByte m c
 |[],c=>rfl
 |b::l,c=>by
  have h:List.isPrefixOf [c] (b::l)=(b==c):=by
   show(c==b&&List.isPrefixOf [] l)=_;rw[List.isPrefixOf,Uc];by_cases e:b=c
   ·subst e;rfl
   ·rw[Ga.2 e,Ga.2 (fun h=>e h.symm)]
  rw[Lib.index,Lib.indexByte,h,FE l c]
theorem contains_one(m:Str)(c:UInt8)(hm:short m=true:=by decide):strings_Contains (m,[c])=some (m.any fun b=>b==c):=by unfold strings_Contains;simp only[Am,hm,Z5,ze,Aa,FE,vG]
theorem zmJ(c:UInt8):strings_Contains ([32,9,10,12,13,34,39,58,59,44,91,93,40,41,123,125],[c])=some (Gs.any fun b=>b==c):=contains_one Gs c
theorem C8: ∀n:Nat,n<256->((bif bif !(UInt8.ofNat n==0)then !namN n else false then true else UInt8.ofNat n==45)&&(!(Gs.any fun b=>b==UInt8.ofNat n)))=Vi n:=by decide+c
theorem nX(b:UInt8):((bif bif !(b==0)then !namN b.toNat else false then true else b==45)&&(!(Gs.any fun c=>c==b)))=Vi b.toNat:=by
 have:=C8 b.toNat (Rb b)
 rwa [Gc]at d
theorem zq6(a b:Str):Zn (a++b)=(Zn a&&Zn b):=by unfold Zn;rw[Fg]
theorem zCv(n:Int):decide (n<0)= !decide (n>=0):=by
 by_cases h:n<0
 ·rw[Ja h,Db (by omega)];rfl
 ·rw[Db h,Ja (by omega)];rfl
theorem Ox: ∀(l:Str) (n:Nat),valG n l=n*10 ^ l.length+valG 0 l
 |[],n=>by simp[valG]
 |c::l,n=>by show valG (decN n c) l=n*10 ^ (l.length+1)+valG (decN 0 c) l;rw[Ox l (decN n c),Ox l (decN 0 c),Nat.pow_succ];unfold decN;rw[Ce,Nat.mul_zero,Be,Wh 10 n,vg,Wh 10 (10 ^ l.length)];omega
theorem MZ(l:Str)(i:Nat):valG 0 (l.take i)<=valG 0 l:=by
 have h:valG 0 l=valG (valG 0 (l.take i)) (l.drop i):=by rw[<-LC,Lf]
 rw[h,Ox (l.drop i)];have:=Cf (valG 0 (l.take i)) (Bh (n:=(l.drop i).length) (show 0<10 by omega));omega
theorem Ru{b:UInt8}(h:digB b=true):48<=b.toNat/\b.toNat<=57:=by unfold digB at h;simpa using h
theorem zAF {R:Type} {step:Int×Int->Option (LO (Int×Int) Int R)} {l:Str} (hl:l.all digB=true) (hn:l.length<=100000) (hv:valG 0 l<=1000000000000)
  (h1: ∀(v:Int) (i:Nat) (hi:i<l.length),step (v,(i:Int))=some (.again (if 1000000000000<w64 (w64 (10*v)+w64 (wu8 ((l[i].toNat:Int) - 48)))then 1000000000000 else w64 (w64 (10*v)+w64 (wu8 ((l[i].toNat:Int) - 48))),w64 ((i:Int)+1))))
  (h2: ∀v:Int,step (v,(l.length:Int))=some (.out v)):Rh step (0,0)=some (.out ((valG 0 l:Nat):Int)):=by
 refine Qj (fun s=> ∃i:Nat,i<=l.length/\s=(((valG 0 (l.take i):Nat):Int),(i:Int))) (fun s=>l.length - s.2.toNat) _ ?_ ⟨0,by omega,rfl⟩;rintro _ ⟨i,hi,rfl⟩;rcases Yc i l.length with h|h
 ·refine .inl ⟨_,h1 _ i h,⟨i+1,by omega,?_⟩,by simp only;rw[Za (by omega) (by omega)];omega⟩;have d:=Ru (Xa.1 hl _ (We h));have ht:valG 0 (l.take (i+1))=decN (valG 0 (l.take i)) l[i]:=by rw[af h,LC];rfl
  have hb:=MZ l (i+1);have hu:wu8 ((l[i].toNat:Int) - 48)=((l[i].toNat - 48:Nat):Int):=by show IntKind.u8.wrap _=_;rw[IntKind.wrap_u8];omega
  unfold decN at ht;rw[hu,Za (n:=10*_) (by omega) (by omega),Za (n:=((l[i].toNat - 48:Nat):Int)) (by omega) (by omega),Za (n:=(i:Int)+1) (by omega) (by omega),Za (by omega) (by omega),Ha (by omega)];refine Prod.ext ?_ ?_
  ·show(10*((valG 0 (l.take i):Nat):Int)+((l[i].toNat - 48:Nat):Int))=_;omega
  ·show(i:Int)+1=((i+1:Nat):Int);omega
 ·have:i=l.length:=by omega
  subst c;refine .inr (.inl ⟨_,h2 _,?_⟩);rw[Mf]
theorem V6 {R:Type} {step:Int×Int->Option (LO (Int×Int) Int R)} {v p:Nat} (hp:p<=100) (hv:v*10 ^ p<=1000000000000)
  (h: ∀(a b:Int),step (a,b)=bif bif bif decide (a>0)then decide (b>0)else false then decide (b<1000000000000)else false then some (.again (w64 (a - 1),if 1000000000000<w64 (10*b)then 1000000000000 else w64 (10*b)))else some (.out b)):
  Rh step ((p:Int),(v:Int))=some (.out ((v*10 ^ p:Nat):Int)):=by
 refine Qj (fun s=> ∃a b:Nat,s=((a:Int),(b:Int))/\a<=100/\b*10 ^ a=v*10 ^ p) (fun s=>s.1.toNat) _ ?_ ⟨p,v,rfl,hp,rfl⟩;rintro _ ⟨a,b,rfl,ha,d⟩;rw[h];cases a with
 |zero=> refine .inr (.inl ⟨(b:Int),rfl,?_⟩);rw[<-d,Nat.pow_zero,Xi]
 |f a=>
  rw[Ja (show((a+1:Nat):Int)>0 by omega),Ka];rw[Nat.pow_succ,<-vg]at d;have c:0<10 ^ a:=Bh (by omega);cases Sg b with
  |i h0=> subst h0;refine .inr (.inl ⟨0,rfl,?_⟩);rw[<-d];simp
  |j h0=>
   rw[Ja (show((b:Nat):Int)>0 by omega),Ka];have m:b<=b*10 ^ a:=Cf b c;rw[Ja (show((b:Nat):Int)<1000000000000 by omega),Ka];refine .inl ⟨_,rfl,⟨a,10*b,?_,by omega,?_⟩,by simp only;rw[Za (by omega) (by omega)];omega⟩
   ·rw[Za (by omega) (by omega),Za (by omega) (by omega),Ha (by omega)];refine Prod.ext ?_ ?_
    ·show((a+1:Nat):Int) - 1=(a:Int);omega
    ·show 10*(b:Int)=((10*b:Nat):Int);omega
   ·rw[<-d,Wh 10 b,vg,vg,Wh 10 (10 ^ a)]
theorem wG: ∀(q:Str),q.all digB=true->Lib.indexByte q 46= -1
 |[],_=>rfl
 |c::q,h=>by
  rw[Pd,Da]at h;have d:=Ru h.1;have hc:(c==46)=false:=by refine Ga.2 (fun e=> ?_);subst e;revert d;decide
  rw[Lib.indexByte,hc,wG q h.2];rfl
theorem xG: ∀(q g:Str),q.all digB=true->Lib.indexByte (q++46::g) 46=(q.length:Int)
 |[],g,_=>by rw[Kc,Lib.indexByte];rfl
 |c::q,g,h=>by
  rw[Pd,Da]at h;have f:=Ru h.1;have hc:(c==46)=false:=by refine Ga.2 (fun e=> ?_);subst e;revert f;decide
  rw[ja,Lib.indexByte,hc,xG q g h.2];have:((q.length:Int)== -1)=false:=Ga.2 (by omega);rw[d,Ea];simp
theorem MH: ∀(l:Str),(l.all fun b=>digB b||b==46)=true->Lib.indexAny l [101,69]= -1
 |[],_=>rfl
 |c::l,h=>by
  rw[Pd,Da]at h;have hc:List.contains [101,69] c=false:=by
   have: ∀n:Nat,n<256->(digB (UInt8.ofNat n)||UInt8.ofNat n==46)=true->List.contains [101,69] (UInt8.ofNat n)=false:=by decide+f
   have:=d c.toNat (Rb c);rw[Gc]at d;exact d h.1
  rw[Lib.indexAny,hc,MH l h.2];rfl
end Go.Lv.VT
