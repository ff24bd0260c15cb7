/- The reading of tokens: what the program's text and the reference's come to. -/
import Derived.Test.YtnfhfeipljhciaaGreatDoorTy
import Derived.Test.YtnfhfeipljhciaaGreatDoorMo
import Derived.Test.YtnfhfeipljhciaaGreatDoorTx
set_option linter.unusedSimpArgs false
set_option linter.unusedVariables false
namespace Go.Lv.VT
def atS(l:Str)(n:Nat):UInt8:=l.getD n 0
def digB(b:UInt8):Bool:=decide (48<=b.toNat)&&decide (b.toNat<=57)
def spB(b:UInt8):Bool:=b==10||b==9||b==32
def alB(b:UInt8):Bool:=decide (65<=b.toNat)&&decide (b.toNat<=90)||decide (97<=b.toNat)&&decide (b.toNat<=122)
def fstB(b:UInt8):Bool:=alB b||b==95||decide (128<=b.toNat)
def letB(b:UInt8):Bool:=fstB b||digB b||b==45
def hexN(b:UInt8):Nat:=
 if digB b then b.toNat - 48 else if 97<=b.toNat/\b.toNat<=102 then b.toNat - 87 else if 65<=b.toNat/\b.toNat<=70 then b.toNat - 55 else 16
def qA(b:UInt8):Bool:=decide (hexN b<16)
def escS(l:Str):Bool:=atS l 0==92&& !(atS l 1==10)
def nmS(l:Str):Bool:=if atS l 0==45 then fstB (atS l 1)||atS l 1==45||escS (l.drop 1)else fstB (atS l 0)||escS l
def Eg(b:UInt8):Bool:=b==43||b==45
def unsign(l:Str):Str:=if Eg (atS l 0)then l.drop 1 else l
def undot(l:Str):Str:=if atS l 0==46 then l.drop 1 else l
def nbS(l:Str):Bool:=digB (atS (undot (unsign l)) 0)
def Ck:Str:=[239,191,189]
def jg(n:Nat):Str:=
 if n=0\/(55296<=n/\n<=57343)\/1114111<n then Ck
 else if n<128 then [UInt8.ofNat n]
 else if n<2048 then [UInt8.ofNat (192+n / 64),UInt8.ofNat (128+n%64)]
 else if n<65536 then [UInt8.ofNat (224+n / 4096),UInt8.ofNat (128+n / 64%64),UInt8.ofNat (128+n%64)]
 else [UInt8.ofNat (240+n / 262144),UInt8.ofNat (128+n / 4096%64),UInt8.ofNat (128+n / 64%64),UInt8.ofNat (128+n%64)]
def hexes:Nat->Nat->Str->Nat×Str
 |0,n,l=>(n,l)
 |_+1,n,[]=>(n,[])
 |k+1,n,c::r=>if qA c then hexes k (16*n+hexN c) r else(n,c::r)
def unsp:Str->Str
 |[]=>[]
 |c::r=>if spB c then r else c::r
def zo:Str->Str×Str
 |[]=>(Ck,[])
 |c::r=>if qA c then(jg (hexes 6 0 (c::r)).1,unsp (hexes 6 0 (c::r)).2)else([c],r)
theorem Gx: ∀(k n:Nat) (l:Str),(hexes k n l).2<:+l
 |0,n,l=>Gc l
 |k+1,n,[]=>Gc _
 |k+1,n,c::r=>by
  unfold hexes;split
  ·exact(Gx k _ r).trans (Td c r)
  ·exact Gc _
theorem IV(l:Str):unsp l<:+l:=by
 cases l with
 |nil=>exact Gc _
 |cons c r=>
  show(if spB c then r else c::r)<:+c::r;split
  ·exact Td c r
  ·exact Gc _
theorem Zb(l:Str):(zo l).2<:+l:=by
 cases l with
 |nil=>exact Gc _
 |cons c r=>
  show(if qA c then(jg (hexes 6 0 (c::r)).1,unsp (hexes 6 0 (c::r)).2)else([c],r)).2<:+c::r;split
  ·exact(IV _).trans (Gx 6 0 _)
  ·exact Td c r
theorem zF(l:Str):(zo l).2.length<=l.length:=(Zb l).length_le
def zm:Str->Str×Str
 |[]=>([],[])
 |c::r=>
  if letB c then((c::(zm r).1),(zm r).2)
  else if escS (c::r)then((zo r).1++(zm (zo r).2).1,(zm (zo r).2).2)
  else([],c::r)
termination_by l=>l.length
decreasing_by
 all_goals first|(have:=zF r;simp only[Ga];omega)|(simp only[Ga];omega)
def past(p:UInt8->Bool):Str->Str
 |[]=>[]
 |c::r=>if p c then past p r else c::r
theorem mo(p:UInt8->Bool): ∀l:Str,past p l<:+l
 |[]=>Gc _
 |c::r=>by
  unfold past;split
  ·exact(mo p r).trans (Td c r)
  ·exact Gc _
def zM(l:Str):Str×Bool:=
 if atS l 0==46&&digB (atS l 1)then(past digB (l.drop 1),false)else(l,true)
def expS(l:Str):Option Str:=
 if atS l 0==101||atS l 0==69 then(if digB (atS (unsign (l.drop 1)) 0)then some (past digB (unsign (l.drop 1)))else none)else none
def zu(l:Str):Str×Bool:=
 let x:=zM (past digB (unsign l))
 match expS x.1 with
 |some r=>(r,false)
 |none=>x
def decN(n:Nat)(b:UInt8):Nat:=10*n+(b.toNat - 48)
def upto(l r:Str):Str:=l.take (l.length - r.length)
def zR(m:UInt8):Str->Option Str×Str
 |[]=>(some [],[])
 |c::r=>
  if c==m then(some [],r)
  else if c==10 then(none,c::r)
  else if c==92 then
   (if r.isEmpty then(some [],[])
   else if atS r 0==10 then zR m (r.drop 1)
   else((zR m (zo r).2).1.map ((zo r).1++ ·),(zR m (zo r).2).2))
  else((zR m r).1.map (c:: ·),(zR m r).2)
termination_by l=>l.length
decreasing_by
 all_goals first|(have:=zF r;simp only[Ga];omega)|(simp only[Ga,Ob];omega)
def badS:Str->Str
 |[]=>[]
 |c::r=>if c==41 then r else if escS (c::r)then badS (zo r).2 else badS r
termination_by l=>l.length
decreasing_by
 all_goals first|(have:=zF r;simp only[Ga];omega)|(simp only[Ga];omega)
def unB(b:UInt8):Bool:=decide (b.toNat<=8)||b==11||decide (14<=b.toNat)&&decide (b.toNat<=31)||b==127
def urlS:Str->Option Str×Str
 |[]=>(some [],[])
 |c::r=>
  if c==41 then(some [],r)
  else if spB c then(match past spB r with
   |[]=>(some [],[])
   |d::r'=>if d==41 then(some [],r')else(none,badS (d::r')))
  else if c==34||c==39||c==40||unB c||c==92&& !escS (c::r)then(none,badS (c::r))
  else if c==92 then((urlS (zo r).2).1.map ((zo r).1++ ·),(urlS (zo r).2).2)
  else((urlS r).1.map (c:: ·),(urlS r).2)
termination_by l=>l.length
decreasing_by
 all_goals first|(have:=zF r;simp only[Ga];omega)|(simp only[Ga];omega)
def Yg(b:UInt8):Int:=
 if b==58 then 16 else if b==59 then 17 else if b==44 then 18 else if b==91 then 19 else if b==93 then 20 else if b==40 then 21 else if b==41 then 22 else if b==123 then 23 else if b==125 then 24 else 0
def Nh(k:Int):zb:=⟨k,[],0,[],false⟩
def Fg:Nat:=1000000000000
def pg:Nat->Nat->Nat
 |0,n=>n
 |k+1,n=>if n=0\/Fg<=n then n else pg k (min Fg (10*n))
set_option maxRecDepth 100000
abbrev sc(s:Str)(k:Nat):za:=⟨s,(k:Int)⟩
def pk(l:Str)(n:Nat):Int:=match l[n]? with|some b=>(b.toNat:Int)|none=> -1
def beh(s r:Str):Nat:=s.length - r.length
theorem zz{n:Int}(h1: -9223372036854775808<=n)(h2:n<=9223372036854775807):w64 n=n:=FC h1 h2
theorem Ep{s r:Str}(h:r<:+s):s.drop (beh s r)=r:=by obtain⟨t,rfl⟩:=h;unfold beh;rw[Ca,show t.length+r.length - r.length=t.length by omega,Jg]
theorem Uh(s r:Str):beh s r<=s.length:=by unfold beh;omega
theorem pW{s:Str}{k:Nat}(h:k<=s.length):beh s (s.drop k)=k:=by unfold beh;rw[Ob];omega
theorem yA{s:Str}{k n:Nat}(hs:s.length<=big)(hk:k<=s.length)(hn:n<=8):zf ((n:Int),sc s k)=some (pk (s.drop k) n):=by
 have hb:big=4194304:=rfl;have e:w64 ((k:Int)+(n:Int))=((k+n:Nat):Int):=by rw[zz (by omega) (by omega)];omega
 unfold zf pk;simp only[e];rw[Jd];by_cases h:k+n<s.length
 ·rw[Ea (by omega),Fa];have hg:geti s ((k+n:Nat):Int)=some s[k+n]:=QJ h;have hlt:=Ib s[k+n];simp only[ze,hg,Aa,Na h];rw[zz (by omega) (by omega)]
 ·rw[Ra (by omega),Ba,Sg (by omega)]
theorem Hu{s:Str}{k:Nat}(hs:s.length<=big)(hk:k<=s.length):zf (0,sc s k)=some (pk (s.drop k) 0):=yA (n:=0) hs hk (by omega)
theorem XJ{s:Str}{k:Nat}(hs:s.length<=big)(hk:k<=s.length):zf (1,sc s k)=some (pk (s.drop k) 1):=yA (n:=1) hs hk (by omega)
theorem zC1{s:Str}{k:Nat}(hs:s.length<=big)(hk:k<=s.length):zf (2,sc s k)=some (pk (s.drop k) 2):=yA (n:=2) hs hk (by omega)
theorem Ju{β:Type}{f:Int->Option β}{p:UInt8->β}(h: ∀b:UInt8,f (b.toNat:Int)=some (p b))(h0:f (-1)=some (p 0))(l:Str)(n:Nat):f (pk l n)=some (p (atS l n)):=by
 unfold pk atS;rw[Sc];cases l[n]? with
 |none=>exact h0
 |some b=>exact h b
theorem of_n{β:Type}{f:Int->Option β}{p:UInt8->β}(h: ∀n:Nat,n<256->f (n:Int)=some (p (UInt8.ofNat n)))(b:UInt8):f (b.toNat:Int)=some (p b):=by
 have:=h b.toNat (Ib b)
 rwa [Sb]at this
theorem Tv(l:Str)(n:Nat):ql (pk l n)=some (spB (atS l n)):=Ju (of_n (by decide+kernel)) (by decide+kernel) l n
theorem Um(l:Str)(n:Nat):Zu (pk l n)=some (digB (atS l n)):=Ju (of_n (by decide+kernel)) (by decide+kernel) l n
theorem zBg(l:Str)(n:Nat):Cq (pk l n)=some (fstB (atS l n)):=Ju (of_n (by decide+kernel)) (by decide+kernel) l n
theorem VN(l:Str)(n:Nat):Bu (pk l n)=some (letB (atS l n)):=Ju (of_n (by decide+kernel)) (by decide+kernel) l n
def hexI(b:UInt8):Int:=if qA b then(hexN b:Int)else -1
theorem Sz(l:Str)(n:Nat):um (pk l n)=some (hexI (atS l n)):=Ju (of_n (by decide+kernel)) (by decide+kernel) l n
theorem Di(l:Str)(n:Nat)(c:UInt8)(h:c≠0):(pk l n==(c.toNat:Int))=(atS l n==c):=by
 unfold pk atS;rw[Sc];cases l[n]? with
 |none=> have h1:((-1:Int)==(c.toNat:Int))=false:=Ia.2 (by omega);have h2:((none:Option UInt8).getD 0==c)=false:=Ia.2 (fun e=>h e.symm);rw[h2];exact h1
 |some b=>
  show((b.toNat:Int)==(c.toNat:Int))=(b==c);by_cases e:b=c
  ·subst e;rw[rf,rf]
  ·have:b.toNat≠c.toNat:=fun h=>e (Bf.1 h);rw[Ia.2 e,Ia.2 (by omega)]
theorem WJ(l:Str)(n:Nat):(pk l n==10)=(atS l n==10):=Di l n 10 (by decide)
theorem VU(l:Str)(n:Nat):(pk l n==34)=(atS l n==34):=Di l n 34 (by decide)
theorem zC2(l:Str)(n:Nat):(pk l n==35)=(atS l n==35):=Di l n 35 (by decide)
theorem zC3(l:Str)(n:Nat):(pk l n==37)=(atS l n==37):=Di l n 37 (by decide)
theorem UU(l:Str)(n:Nat):(pk l n==39)=(atS l n==39):=Di l n 39 (by decide)
theorem zC4(l:Str)(n:Nat):(pk l n==40)=(atS l n==40):=Di l n 40 (by decide)
theorem VJ(l:Str)(n:Nat):(pk l n==41)=(atS l n==41):=Di l n 41 (by decide)
theorem UJ(l:Str)(n:Nat):(pk l n==43)=(atS l n==43):=Di l n 43 (by decide)
theorem Gu(l:Str)(n:Nat):(pk l n==45)=(atS l n==45):=Di l n 45 (by decide)
theorem TJ(l:Str)(n:Nat):(pk l n==46)=(atS l n==46):=Di l n 46 (by decide)
theorem zC5(l:Str)(n:Nat):(pk l n==64)=(atS l n==64):=Di l n 64 (by decide)
theorem zC6(l:Str)(n:Nat):(pk l n==69)=(atS l n==69):=Di l n 69 (by decide)
theorem TU(l:Str)(n:Nat):(pk l n==92)=(atS l n==92):=Di l n 92 (by decide)
theorem zCj(l:Str)(n:Nat):(pk l n==101)=(atS l n==101):=Di l n 101 (by decide)
theorem Jo(l:Str):(pk l 0== -1)=l.isEmpty:=by
 cases l with
 |nil=>rfl
 |cons b r=> show((b.toNat:Int)== -1)=false;exact Ia.2 (by omega)
theorem Qt(l:Str)(k n:Nat):atS (l.drop k) n=atS l (k+n):=by unfold atS;rw[Sc,Sc,Jd]
theorem nM {R:Type} {step:za->Option (LO za za R)} {s:Str} (p:UInt8->Bool) (h0:p 0=false)
  (h: ∀k,k<=s.length->step (sc s k)=some (bif p (atS (s.drop k) 0)then .again (sc s (k+1))else .out (sc s k))) {k:Nat} (hk:k<=s.length):
  Gg step (sc s k)=some (.out (sc s (beh s (past p (s.drop k))))):=by
 refine ZG (fun z=> ∃j,z=sc s j/\j<=s.length/\past p (s.drop j)=past p (s.drop k)) (fun z=>s.length - z.at_.toNat) _ ?_ ⟨k,rfl,hk,rfl⟩;rintro _ ⟨j,rfl,hj,he⟩;rw[h j hj];cases hd:s.drop j with
 |nil=>
  rw[show atS ([]:Str) 0=0 from rfl,h0,Ba];refine .inr (.inl ⟨_,rfl,?_⟩);rw[<-he,hd];have:j=s.length:=by have:=Ue.1 hd;omega
  subst this;show LX.out (sc s (beh s []))=_;unfold beh;rw[Jb,Nat.sub_zero]
 |cons c r=>
  have hlt:j<s.length:=by
   rcases Mc j s.length with h'|h'
   ·exact h'
   ·rw[De h']at hd;cases hd
  have hr:s.drop (j+1)=r:=by have:=Pb hlt;rw[hd]at this;injection this with _ h2;exact h2.symm
  rw[show atS (c::r) 0=c from rfl];cases hp:p c with
  |true=> refine .inl ⟨_,rfl,⟨j+1,rfl,by omega,?_⟩,by simp only[Ta];omega⟩;rw[hr,<-he,hd,past,hp];rfl
  |false=> refine .inr (.inl ⟨_,rfl,?_⟩);rw[<-he,hd,past,hp,Ja (by decide),<-hd,pW hj]
theorem pK{s:Str}{k:Nat}(hs:s.length<=big)(hk:k<=s.length):w64 ((k:Int)+1)=((k+1:Nat):Int):=by have hb:big=4194304:=rfl;rw[zz (by omega) (by omega)];omega
theorem yU{s:Str}{k:Nat}(hs:s.length<=big)(hk:k<=s.length):zS (sc s k)=some (sc s (beh s (past spB (s.drop k)))):=by unfold zS;rw[zW (nM spB rfl (fun j hj=> ?_) hk)];simp only[ze,Hu hs hj,Aa,Tv,pK hs hj];cases spB (atS (s.drop j) 0)<;>rfl
theorem BX{s:Str}{k:Nat}(hs:s.length<=big)(hk:k<=s.length):zQ (sc s k)=some (sc s (beh s (past digB (s.drop k)))):=by unfold zQ;rw[zW (nM digB rfl (fun j hj=> ?_) hk)];simp only[ze,Hu hs hj,Aa,Um,pK hs hj];cases digB (atS (s.drop j) 0)<;>rfl
theorem number_eq{s:Str}{k:Nat}(hs:s.length<=big)(hk:k<=s.length):Zv (sc s k)=some (nbS (s.drop k)):=by
 unfold Zv nbS unsign undot Eg;simp only[ze,Hu hs hk,Aa,UJ,Gu];have key: ∀(b:Bool),(zV (X:=Int) (bif b then some (LX.out 1)else some (LX.out 0)) fun j2=>
   zV (X:=Int) ((zf (j2,sc s k)).bind fun y3=>bif y3==46 then some (LX.out (w64 (j2+1)))else some (LX.out j2)) fun j4=>
   (zf (j4,sc s k)).bind fun y5=>(Zu y5).bind fun y6=>some y6)=some (digB (atS (if atS (if b then(s.drop k).drop 1 else s.drop k) 0==46 then(if b then(s.drop k).drop 1 else s.drop k).drop 1 else(if b then(s.drop k).drop 1 else s.drop k)) 0)):=by
  intro b;cases b with
  |false=>
   simp only[Ba,zg,Hu hs hk,Aa,TJ,Dc,Fe];cases h:atS (s.drop k) 0==46 with
   |false=>simp only[Ba,zg,Hu hs hk,Aa,Um,Dc,Fe]
   |true=> simp only[Fa,zg,Gd];rw[show w64 (0+1)=1 from rfl,XJ hs hk];simp only[Aa,Um];rw[Qt (s.drop k) 1 0]
  |true=>
   simp only[Fa,zg,XJ hs hk,Aa,TJ,Gd];rw[Qt (s.drop k) 1 0];cases h:atS (s.drop k) (1+0)==46 with
   |false=> simp only[Pd]at h;simp only[h,Ba,zg,XJ hs hk,Aa,Um,Dc,Fe];rw[Qt (s.drop k) 1 0]
   |true=> simp only[Pd]at h;simp only[h,Fa,zg,Gd];rw[show w64 (1+1)=2 from rfl,zC1 hs hk];simp only[Aa,Um];rw[We,Qt (s.drop k) (1+1) 0]
 have:=key (atS (s.drop k) 0==43||atS (s.drop k) 0==45);rw[show(bif atS (s.drop k) 0==43 then true else atS (s.drop k) 0==45)=(atS (s.drop k) 0==43||atS (s.drop k) 0==45)from by cases (atS (s.drop k) 0==43)<;>rfl];exact this
abbrev sr(s r:Str):za:=sc s (beh s r)
theorem sr_0(s:Str):(⟨s,0⟩:za)=sr s s:=by show sc s 0=sc s (beh s s);unfold beh;rw[Nat.sub_self]
theorem Kn{s r:Str}{n:Nat}(hs:s.length<=big)(hr:r<:+s)(hn:n<=8):zf ((n:Int),sr s r)=some (pk r n):=by rw[yA hs (Uh s r) hn,Ep hr]
theorem Bh{s r:Str}(hs:s.length<=big)(hr:r<:+s):zf (0,sr s r)=some (pk r 0):=Kn (n:=0) hs hr (by omega)
theorem pu{s r:Str}(hs:s.length<=big)(hr:r<:+s):zf (1,sr s r)=some (pk r 1):=Kn (n:=1) hs hr (by omega)
theorem zCi{s r:Str}(hs:s.length<=big)(hr:r<:+s):zf (2,sr s r)=some (pk r 2):=Kn (n:=2) hs hr (by omega)
theorem bz{s r:Str}(hs:s.length<=big)(hr:r<:+s):zS (sr s r)=some (sr s (past spB r)):=by rw[yU hs (Uh s r),Ep hr]
theorem SA{s r:Str}(hs:s.length<=big)(hr:r<:+s):zQ (sr s r)=some (sr s (past digB r)):=by rw[BX hs (Uh s r),Ep hr]
theorem zAL{s r:Str}(hs:s.length<=big)(hr:r<:+s):Zv (sr s r)=some (nbS r):=by rw[number_eq hs (Uh s r),Ep hr]
theorem TF{s r:Str}{n:Nat}(hr:r<:+s)(hn:n<=r.length):beh s r+n=beh s (r.drop n):=by have:=hr.length_le;unfold beh;rw[Ob];omega
theorem Bz{s r:Str}{n:Nat}(hs:s.length<=big)(hr:r<:+s)(hn:n<=r.length):(⟨s,w64 ((beh s r:Int)+(n:Int))⟩:za)=sr s (r.drop n):=by have hb:big=4194304:=rfl;have:=Uh s r;have h2:=hr.length_le;rw[zz (by omega) (by omega),show(beh s r:Int)+(n:Int)=((beh s r+n:Nat):Int) by omega,TF hr hn]
theorem Nq{l:Str}{n:Nat}(h:atS l n≠0):n<l.length:=by
 rcases Mc n l.length with h'|h'
 ·exact h'
 ·exact absurd (by unfold atS;rw[Sc,Sg h'];rfl) h
theorem Wu{s r:Str}(hs:s.length<=big)(hr:r<:+s)(h:atS r 0≠0):(⟨s,w64 ((beh s r:Int)+1)⟩:za)=sr s (r.drop 1):=Bz (n:=1) hs hr (Nq h)
theorem aj{s r:Str}(hr:r<:+s)(n:Nat):r.drop n<:+s:=(je n r).trans hr
theorem Yj{s r:Str}(p:UInt8->Bool)(hr:r<:+s):past p r<:+s:=(mo p r).trans hr
theorem Ut{s r:Str}(hr:r<:+s):unsign r<:+s:=by
 unfold unsign;split
 ·exact aj hr 1
 ·exact hr
theorem oK{b:UInt8}(h:Eg b=true):b≠0:=by rintro rfl;revert h;decide
theorem gq(a b:Bool):(bif a then true else b)=(a||b):=by cases a<;>rfl
theorem vJ(a b:Bool):(bif a then b else false)=(a&&b):=by cases a<;>rfl
theorem pG{s r:Str}(hr:r<:+s):(zM r).1<:+s:=by
 unfold zM;split
 ·exact Yj _ (aj hr 1)
 ·exact hr
theorem NL{s r q:Str}(hr:r<:+s)(h:expS r=some q):q<:+s:=by
 unfold expS at h;split at h
 ·split at h
  ·cases h;exact Yj _ (Ut (aj hr 1))
  ·cases h
 ·cases h
theorem EQ{s r:Str}(hr:r<:+s):(zu r).1<:+s:=by
 unfold zu;have h1:=pG (Yj digB (Ut hr));simp only;cases h:expS (zM (past digB (unsign r))).1 with
 |some q=>exact NL h1 h
 |none=>exact h1
theorem JX{s l:Str}(hs:s.length<=big)(hl:l<:+s):qc (sr s l)=some ((zu l).2,sr s (zu l).1):=by
 unfold qc;simp only[ze,Bh hs hl,Aa,UJ,Gu,gq];have e1:(bif (atS l 0==43||atS l 0==45)then some (LX.out (⟨s,w64 ((beh s l:Int)+1)⟩:za))else some (LX.out (sr s l)))=(some (LX.out (sr s (unsign l))):Option (LX za (Bool×za))):=by
  unfold unsign;cases h:Eg (atS l 0)with
  |true=> have h':(atS l 0==43||atS l 0==45)=true:=h;rw[h',Fa,Ka rfl,Wu hs hl (oK h)]
  |false=> have h':(atS l 0==43||atS l 0==45)=false:=h;rw[h',Ba,Ja (by decide)]
 rw[e1,zg];have hu:=Ut hl;rw[SA hs hu];simp only[Aa];have hp:=Yj digB hu;unfold zu;generalize past digB (unsign l)=q at hp ⊢;have e2:zV (X:=Bool×za) (R:=Bool×za) ((zf (0,sr s q)).bind fun y4=>
   (zq (y4==46) (zf (1,sr s q)) (default:Int)).bind fun y5=>
   (zq (y4==46) (Zu y5) (default:Bool)).bind fun y6=>
   bif bif y4==46 then y6 else false then(zQ (⟨s,w64 ((beh s q:Int)+1)⟩:za)).bind fun y7=>some (LX.out (false,y7))else some (LX.out (true,sr s q)))=zV (some (LX.out ((zM q).2,sr s (zM q).1))):=by
  congr 1;unfold zM;simp only[Bh hs hp,pu hs hp,Aa,TJ];cases h:atS q 0==46 with
  |false=>simp only[zN,Aa,Ba,Ic,Dc,Fe]
  |true=>
   simp only[zG,Aa,Fa,Um,Lb];cases h2:digB (atS q 1)with
   |false=>simp only[Ba,Dc,Fe]
   |true=> rw[Fa,Ka rfl,Wu hs hp (by rw[ma.1 h];decide),SA hs (aj hp 1)];rfl
 rw[e2,zg];have hw:=pG hp;generalize zM q=W at hw ⊢;obtain⟨w,i⟩:=W;simp only at hw ⊢;have e3:((zf (0,sr s w)).bind fun y9=>
   (zq (!(y9==101)) (zf (0,sr s w)) (default:Int)).bind fun y10=>
   bif bif y9==101 then true else y10==69 then
    zV (X:=(Bool×Int)×za) ((zf (1,sr s w)).bind fun y11=>bif bif y11==43 then true else y11==45 then some (LX.out ((i,2),sr s w))else some (LX.out ((i,1),sr s w))) fun j12=>
    (zf (j12.1.2,j12.2)).bind fun y13=>(Zu y13).bind fun y14=>
    bif y14 then(zQ (⟨j12.2.s,w64 (j12.2.at_+j12.1.2)⟩:za)).bind fun y15=>some (LX.out (false,y15))else some (LX.out (j12.1.1,j12.2))
   else some (LX.out (i,sr s w)))=(some (LX.out (match expS w with|some r=>(false,sr s r)|none=>(i,sr s w))):Option (LX (Bool×za) (Bool×za))):=by
  simp only[Bh hs hw,Aa,zCj];have e4:((zq (!(atS w 0==101)) (some (pk w 0)) (default:Int)).bind fun y10=>(some (bif atS w 0==101 then true else y10==69):Option Bool))=some (atS w 0==101||atS w 0==69):=by
   cases h:atS w 0==101 with
   |true=>rfl
   |false=>simp only[Eb,zG,Aa,Ba,zC6,jc]
  have e5: ∀(f:Bool->Option (LX (Bool×za) (Bool×za))),((zq (!(atS w 0==101)) (some (pk w 0)) (default:Int)).bind fun y10=>f (bif atS w 0==101 then true else y10==69))=f (atS w 0==101||atS w 0==69):=by intro f;have:=congrArg (fun o=>Option.bind o f) e4;simpa [Option.bind_assoc] using this
  refine(e5 (fun b=>bif b then _ else _)).trans ?_;unfold expS;cases h:(atS w 0==101||atS w 0==69)with
  |false=>rfl
  |true=>
   have hne:atS w 0≠0:=by intro e;rw[e]at h;revert h;decide
   simp only[Fa,Gd,pu hs hw,Aa,UJ,Gu,gq];unfold unsign;have hd:atS (w.drop 1) 0=atS w 1:=by rw[Qt w 1 0]
   rw[hd];cases hg:(atS w 1==43||atS w 1==45)with
   |true=>
    have hg':Eg (atS w 1)=true:=hg;have hl2:=Nq (oK hg');simp only[Fa,zg,zCi hs hw,Aa,Um,hg',Gd,We];rw[show atS (w.drop (1+1)) 0=atS w 2 by rw[Qt w 2 0]];cases hq:digB (atS w 2)with
    |false=>rfl
    |true=> rw[Fa,Ka rfl,show(2:Int)=((2:Nat):Int)from rfl,Bz hs hw (by omega),SA hs (aj hw 2)];rfl
   |false=>
    have hg':Eg (atS w 1)=false:=hg;simp only[Ba,zg,pu hs hw,Aa,Um,hg',Dc,Fe];rw[hd];cases hq:digB (atS w 1)with
    |false=>rfl
    |true=> rw[Fa,Ka rfl,Wu hs hw hne,SA hs (aj hw 1)];rfl
 refine(congrArg (fun o=>zV o _) e3).trans ?_;rw[zg];cases expS w<;>rfl
def valG(n:Nat)(l:Str):Nat:=l.foldl decN n
theorem CB(n:Nat)(a b:Str):valG n (a++b)=valG (valG n a) b:=List.foldl_append
theorem aM{k:Nat}(h:k<10):digB (UInt8.ofNat (48+k))=true/\(UInt8.ofNat (48+k)).toNat=48+k:=by
 have:(UInt8.ofNat (48+k)).toNat=48+k:=by rw[UInt8.toNat_ofNat'];omega
 refine⟨?_,this⟩;unfold digB;rw[this,Ea (by omega),Ea (by omega)];rfl
theorem Ns: ∀(u:Nat),(Lib.decDigits u).all digB=true/\valG 0 (Lib.decDigits u)=u/\Lib.decDigits u≠[]:=by
 intro u
 induction u using Nat.strongRecOn with
 |_ u ih=>
  rw[Lib.decDigits];by_cases h:u<10
  ·rw[dif_pos h];obtain⟨h1,h2⟩:=aM h;refine⟨by rw[ic,h1];rfl,?_,by simp⟩;show decN 0 _=u;unfold decN;rw[h2];omega
  ·rw[dif_neg h];obtain⟨a,b,c⟩:=ih (u / 10) (by omega);obtain⟨h1,h2⟩:=aM (k:=u%10) (by omega);refine⟨by rw[Gf,a,ic,h1];rfl,?_,by simp⟩;rw[CB,b];show decN _ _=u;unfold decN;rw[h2];omega
theorem Tw: ∀(q t:Str),q.all digB=true->past digB (q++t)=past digB t
 |[],t,_=>rfl
 |c::q,t,h=>by rw[ic,Da]at h;rw[ja,past,Ka h.1,Tw q t h.2]
def d48(k:Nat):UInt8:=UInt8.ofNat (48+k)
def Fh(r:Nat):Str:=Lib.trimRightB [d48 (r / 100),d48 (r / 10%10),d48 (r%10)] 48
theorem CG{r:Nat}(h:r<1000):Lib.decDigits (1000+r)=49::[d48 (r / 100),d48 (r / 10%10),d48 (r%10)]:=by rw[Lib.decDigits,dif_neg (by omega),Lib.decDigits,dif_neg (by omega),Lib.decDigits,dif_neg (by omega),Lib.decDigits,dif_pos (by omega)];rw[show(1000+r) / 10 / 10 / 10=1 by omega,show(1000+r) / 10 / 10%10=r / 100 by omega,show(1000+r) / 10%10=r / 10%10 by omega,show(1000+r)%10=r%10 by omega];rfl
def jq(r:Nat):Bool:=(Fh r).all digB&&decide ((Fh r).length<=3)&&decide (valG 0 (Fh r)*10 ^ (3 - (Fh r).length)=r)&&((Fh r).isEmpty==(r==0))&& !((Fh r).getLast? ==some 48)
theorem uw: ∀r,r<1000->jq r=true:=by decide+kernel
def Ej(r:Nat)(p:Bool):Str:=bif (Fh r).isEmpty then(bif p then [46,48]else [])else 46::Fh r
def Kg(m:Nat)(p:Bool):Str:=Lib.decDigits (m / 1000)++Ej (m%1000) p
def numT(n:Int)(p:Bool):Str:=(if n<0 then [45]else [])++Kg n.natAbs p
theorem Lt{u:Nat}(h:u<18446744073709551616):(Lib.decDigits u).length<=20:=by
 rw[Lib.decDigits_length];by_cases h1:u=0
 ·subst h1;rw[Lib.nDigits_small (by omega)];omega
 ·have:=Lib.numDigits_eq u (by omega) h;split at this<;>omega
theorem nW{r:Nat}(h:r<1000)(p:Bool):(Ej r p).length<=4:=by
 have:=uw r h;simp only[jq,Da,ib]at this;unfold Ej;cases (Fh r).isEmpty with
 |true=>cases p<;>simp
 |false=>simp only[Ba,Ga];omega
theorem kw{m:Nat}(h:m<=1000000000000)(p:Bool):(Kg m p).length<=24:=by unfold Kg;rw[Ca];have:=Lt (u:=m / 1000) (by omega);have:=nW (r:=m%1000) (by omega) p;omega
theorem Pi{n m b:Nat}(h:n+m<=100000)(hb:b<=100):zP n m b=true:=by unfold zP;refine Ea ?_;have:=Nat.mul_le_mul h hb;omega
theorem IP(l:Str):(l==[])=l.isEmpty:=by cases l<;>rfl
theorem XQ{m:Nat}(hm:m<=1000000000000)(p:Bool)(b:Str)(hb:b.length<=1):
  ((Dj ((w64 (Int.tdiv (m:Int) 1000),10),b)).bind fun y2=>(Bj (w64 (1000+Int.tmod (m:Int) 1000),10)).bind fun y3=>need (decide (1<=(y3.length:Int)))<|
   (ji (List.drop 1 y3,[48])).bind fun y4=>zV (X:=List UInt8) (R:=List UInt8) (bif !(y4==[])then need (zP y2.length 1 1)<|need (zP (y2++[(46:UInt8)]).length y4.length 1)<|some (LX.out (y2++[(46:UInt8)]++y4))else bif p then need (zP y2.length ([46,48]:Str).length 1)<|some (LX.out (y2++([46,48]:Str)))else some (LX.out y2)) fun j5=>some j5)=some (b++Kg m p):=by
 have e1:w64 (Int.tdiv (m:Int) 1000)=((m / 1000:Nat):Int):=by rw[show Int.tdiv (m:Int) 1000=((m / 1000:Nat):Int)from rfl,zz (by omega) (by omega)]
 have e2:w64 (1000+Int.tmod (m:Int) 1000)=((1000+m%1000:Nat):Int):=by rw[show Int.tmod (m:Int) 1000=((m%1000:Nat):Int)from rfl,zz (by omega) (by omega)];omega
 have hr:m%1000<1000:=by omega
 rw[e1,e2];have hsh:short b=true:=Ea (by omega);have f1:Dj ((((m / 1000:Nat):Int),10),b)=some (b++Lib.decDigits (m / 1000)):=by unfold Dj;simp only[hsh,Cc,Ta,decide_true,Lb];rw[Ea (by omega),Ea (by omega)];rfl
 have f2:Bj (((1000+m%1000:Nat):Int),10)=some (49::[d48 (m%1000 / 100),d48 (m%1000 / 10%10),d48 (m%1000%10)]):=by unfold Bj i64B;simp only[decide_true,Lb];rw[Ea (by omega),Ea (by omega)];rw[<-CG hr];show some (Lib.itoa _)=_;unfold Lib.itoa;rw[Ja (by omega),Ta]
 have hlen:=Lt (u:=m / 1000) (by omega);rw[f1,Aa,f2,Aa,zk (Ea (by simp))];have f3:ji (List.drop 1 (49::[d48 (m%1000 / 100),d48 (m%1000 / 10%10),d48 (m%1000%10)]),[48])=some (Fh (m%1000)):=rfl;rw[f3,Aa,IP];have hf:=uw _ hr;simp only[jq,Da,ib]at hf;unfold Kg Ej;cases (Fh (m%1000)).isEmpty with
 |true=>
  simp only[Nb,Ba,Fa];cases p with
  |true=>rw[Fa,zk (Pi (by rw[Ca];show _+2<=_;omega) (by omega)),zg,Ma];rfl
  |false=>rw[Ba,zg,Ba,Ya]
 |false=> simp only[Eb,Ba,Fa];rw[zk (Pi (by rw[Ca];omega) (by omega)),zk (Pi (by rw[Ca,Ca,Ua];omega) (by omega)),zg,Ma,Ma];rfl
theorem U2{n:Int}(h1: -1000000000000<=n)(h2:n<=1000000000000)(p:Bool):qP (n,p)=some (numT n p):=by
 unfold qP numT;simp only[ze];by_cases hn:n<0
 ·obtain⟨m,rfl⟩: ∃m:Nat,n= -(m:Int):=⟨n.natAbs,by omega⟩;rw[Ea hn,Fa,zk (by decide),zg,Ka hn];simp only;have e0:w64 (0 - -(m:Int))=(m:Int):=by rw[show(0 - -(m:Int))=(m:Int) by omega,zz (by omega) (by omega)]
  rw[e0,Int.natAbs_neg,Mh];exact XQ (by omega) p [45] (by simp)
 ·obtain⟨m,rfl⟩: ∃m:Nat,n=(m:Int):=⟨n.toNat,by omega⟩;rw[Ra hn,Ba,zg,Ja hn];simp only;rw[Mh];exact XQ (by omega) p [] (by simp)
def Rj(n:Nat):Nat:=if 65<=n/\n<=90 then n+32 else n
def Sj(b:UInt8):UInt8:=UInt8.ofNat (Rj b.toNat)
theorem VY{n:Nat}(h:n<256):Rj n<256:=by unfold Rj;split<;>omega
theorem V4(b:UInt8):(Sj b).toNat=Rj b.toNat:=by unfold Sj;rw[UInt8.toNat_ofNat'];exact Nf (VY (Ib b))
theorem oN: ∀n:Nat,n<256->ZP (n:Int)=some ((Rj n:Nat):Int):=by decide+kernel
theorem zB4: ∀n:Nat,n<256->(bif decide (65<=(n:Int))then decide ((n:Int)<=90)else false)=true->ZK (ibOr IntKind.u8 (n:Int) 32)=some (UInt8.ofNat (Rj n)):=by decide+kernel
def lowS(l:Str):Str:=l.map Sj
theorem mF{α:Type}{l:List α}{i:Nat}(h:i<l.length)(f:α->α):((l.take i).map f++l.drop i).set i (f l[i])=(l.take (i+1)).map f++l.drop (i+1):=by
 apply List.ext_getElem
 ·simp;omega
 ·intro j h1 h2;rw[List.getElem_set];split
  ·rename_i hij;subst hij;rw[List.getElem_append_left (by simp;omega)];simp
  ·rename_i hij;simp only[List.getElem_append,Sa,Yc,List.getElem_map,List.getElem_take,List.getElem_drop];split
   ·rename_i hlt;rw[dif_pos (by omega)]
   ·rename_i hlt;rw[dif_neg (by omega)];congr 1;omega
theorem bE{α:Type}{l:List α}{i:Nat}(h:i<l.length)(f:α->α):((l.take i).map f++l.drop i)[i]? =some l[i]:=by rw[Rc (by simp;omega)];simp[h,mg (Nat.le_of_lt h)]
theorem iA{α:Type}{l:List α}{i:Nat}(h:i<=l.length)(f:α->α):((l.take i).map f++l.drop i).length=l.length:=by simp;omega
theorem rV{α:Type}{l:List α}{i:Nat}(h:i<l.length)(f:α->α)(e:f l[i]=l[i]):(l.take i).map f++l.drop i=(l.take (i+1)).map f++l.drop (i+1):=by
 rw[<-mF h f,e];apply Bi;intro j;rw[List.getElem?_set];split
 ·rename_i hij;subst hij;rw[bE h,iA (Nat.le_of_lt h),Ka h]
 ·rfl
theorem Ev(i:Nat):decide ((0:Int)<=(i:Int))=true:=Ea (by omega)
theorem sN{l:Str}(h:l.length<=big):Au l=some (lowS l):=by
 unfold Au;rw[zk (Ea (by unfold big at h;unfold maxLen;omega))];have key: ∀(k i:Nat),i+k=l.length-> ∃n,Qz (X:=List UInt8) (R:=Str) (fun(s1:Int×List UInt8)=>
   bif decide (s1.1<(s1.2.length:Int))then
    need (decide (0<=s1.1)&&decide (s1.1<(s1.2.length:Int)))<|
    ze s1.2[s1.1.toNat]? fun y2=>
    ze (ZP (y2.toNat:Int)) fun y3=>
    need (decide (0<=s1.1)&&decide (s1.1<(s1.2.length:Int)))<|
    ze s1.2[s1.1.toNat]? fun y4=>
    ze (ZK y3) fun y5=>
    some (LO.again (w64 (s1.1+1),List.set s1.2 s1.1.toNat y5))
   else
    some (LO.out s1.2)) n ((i:Int),(l.take i).map Sj++l.drop i)=some (.out (lowS l)):=by
  intro k
  induction k with
  |zero=>
   intro i hi;have hi:i=l.length:=by omega
   subst hi;refine⟨1,?_⟩;simp only[Qz,iA (Cb _),Jw,Ba];simp[lowS]
  |succ k ih=>
   intro i hi;have hlt:i<l.length:=by omega
   obtain⟨n,hn⟩:=ih (i+1) (by omega);refine⟨n+1,?_⟩;have hb:=Ib l[i];simp only[Qz,iA (Nat.le_of_lt hlt),Po hlt,Fa,Ev,Cc,Zf,Ta,bE hlt,ze,Aa,oN _ hb];rw[<-V4,zxC,jm hlt h];simp only[Aa,mF hlt];exact hn
 obtain⟨n,hn⟩:=key l.length 0 (by omega);replace hn:=Ol hn;simp only[Hg,Xc,Kc,ve]at hn;exact(wo hn).trans rfl
theorem yP{l:Str}(h:l.length<=big):ut l=some (lowS l):=by
 unfold ut;rw[zk (Ea (by unfold big at h;unfold maxLen;omega))];have key: ∀(k i:Nat),i+k=l.length-> ∃n,Qz (X:=List UInt8) (R:=Str) (fun(s1:Int×List UInt8)=>
   bif decide (s1.1<(l.length:Int))then
    zV (X:=Int×List UInt8) (
      need (decide (0<=s1.1)&&decide (s1.1<(s1.2.length:Int)))<|
      ze s1.2[s1.1.toNat]? fun y2=>
      bif bif decide (65<=(y2.toNat:Int))then decide ((y2.toNat:Int)<=90)else false then
       need (decide (0<=s1.1)&&decide (s1.1<(s1.2.length:Int)))<|
       ze s1.2[s1.1.toNat]? fun y3=>
       need (decide (0<=s1.1)&&decide (s1.1<(s1.2.length:Int)))<|
       ze s1.2[s1.1.toNat]? fun y4=>
       ze (ZK (ibOr IntKind.u8 (y3.toNat:Int) 32)) fun y5=>
       some (LX.out (s1.1,List.set s1.2 s1.1.toNat y5))
      else
       some (LX.out (s1.1,s1.2))) fun j6=>
    some (LO.again (w64 (j6.1+1),j6.2))
   else
    some (LO.out s1.2)) n ((i:Int),(l.take i).map Sj++l.drop i)=some (.out (lowS l)):=by
  intro k
  induction k with
  |zero=>
   intro i hi;have hi:i=l.length:=by omega
   subst hi;refine⟨1,?_⟩;simp only[Qz,Jw,Ba];simp[lowS]
  |succ k ih=>
   intro i hi;have hlt:i<l.length:=by omega
   obtain⟨n,hn⟩:=ih (i+1) (by omega);refine⟨n+1,?_⟩;have hb:=Ib l[i];simp only[Qz,iA (Nat.le_of_lt hlt),Po hlt,Fa,Ev,Cc,Zf,Ta,bE hlt,ze,Aa];cases hc:(bif decide (65<=(l[i].toNat:Int))then decide ((l[i].toNat:Int)<=90)else false)with
   |true=> have e:=zB4 _ hb hc;simp only[e,Fa,Aa,zg,jm hlt h];rw[show UInt8.ofNat (Rj l[i].toNat)=Sj l[i]from rfl,mF hlt];exact hn
   |false=>
    have e:Sj l[i]=l[i]:=by unfold Sj Rj;rw[Ja,Sb];rintro⟨h1,h2⟩;rw[Ea (by omega),Fa,Ea (by omega)]at hc;cases hc
    simp only[Ba,zg,jm hlt h];rw[rV hlt Sj e];exact hn
 obtain⟨n,hn⟩:=key l.length 0 (by omega);replace hn:=Ol hn;simp only[Hg,Xc,Kc,ve]at hn;exact(wo hn).trans rfl
def Zq(l:Str):Bool:=l.all fun b=> !(b==0)
theorem iE(c:UInt8): ∀l:Str,decide (Lib.indexByte l c>=0)=l.any fun b=>b==c
 |[]=>rfl
 |b::l=>by
  have ih:=iE c l;have hg:=Lib.indexByte_ge l c;rw[List.any_cons,Lib.indexByte];cases hb:(b==c)with
  |true=>rfl
  |false=>
   rw[jc,<-ih,Ja (by simp)];by_cases h:Lib.indexByte l c= -1
   ·rw[Ka (by rw[h];rfl),h]
   ·rw[Ja (by simpa using h)];rw[Ea (by omega),Ea (by omega)]
theorem zAJ(l:Str):(l.any fun b=>b==0)= !Zq l:=by
 unfold Zq
 induction l with
 |nil=>rfl
 |cons b l ih=>rw[List.any_cons,ic,ih];cases (b==0)<;>simp
theorem Wy(l:Str)(n:Int):strings_IndexByte (l,n)=some (Lib.indexByte l n.toNat.toUInt8):=rfl
theorem bL(l:Str):decide (Lib.indexByte l (0:Int).toNat.toUInt8>=0)= !Zq l:=(iE 0 l).trans (zAJ l)
theorem zBY(n m:Nat):decide ((n:Int)>(m:Int))= !decide (n<=m):=by
 by_cases h:n<=m
 ·rw[Ea h,Ra (by omega)];rfl
 ·rw[Ra h,Ea (by omega)];rfl
theorem byte_zero(b:UInt8):((b.toNat:Int)==0)=(b==0):=by
 by_cases h:b=0
 ·subst h;rfl
 ·have h2:b.toNat≠0:=fun e=>h (Bf.1 e);rw[Ia.2 h,Ia.2 (by omega)]
theorem jJ(n m:Nat):decide ((n:Int)<=(m:Int))=decide (n<=m):=by
 by_cases h:n<=m
 ·rw[Ea h,Ea (by omega)]
 ·rw[Ra h,Ra (by omega)]
theorem Du(l m:Str):strings_HasPrefix (l,m)=some (m.isPrefixOf l):=by
 have key: ∀m l:Str,m.isPrefixOf l=(decide (m.length<=l.length)&&l.take m.length==m):=by
  intro m l;rw[Vf];simp only[Df,Da,ib,ma];constructor
  ·rintro⟨t,rfl⟩;exact⟨by simp,by simp⟩
  ·rintro⟨h1,h2⟩;exact⟨l.drop m.length,by rw[<-h2,Yc,mg h1,Ef]⟩
 unfold strings_HasPrefix stringslite_HasPrefix;have e1:decide ((l.length:Int)>=(m.length:Int))=decide (m.length<=l.length):=jJ _ _;have e2:decide ((m.length:Int)<=(l.length:Int))=decide (m.length<=l.length):=jJ _ _;simp only[e1,e2,Ev,Lb,key];cases decide (m.length<=l.length)<;>rfl
theorem P8(l m:Str):strings_TrimPrefix (l,m)=some (bif m.isPrefixOf l then l.drop m.length else l):=by
 have h:stringslite_HasPrefix (l,m)=some (m.isPrefixOf l):=by
  have:=Du l m;unfold strings_HasPrefix at this;cases hh:stringslite_HasPrefix (l,m)with
  |none=>simp only[hh]at this;cases this
  |some b=>simp only[hh]at this;exact this
 unfold strings_TrimPrefix stringslite_TrimPrefix;simp only[h,ze,Aa];cases hp:m.isPrefixOf l with
 |false=>rfl
 |true=> have hl:=(Df.1 hp).length_le;simp only[Fa,Ev,Lb];rw[zk (Ea (by omega))];rfl
theorem fH{a b:Str}(h1:a.length<=big)(h2:b.length<=big):Gq (a,b)=some (lowS a==lowS b):=by unfold Gq;simp only[yP h1,yP h2,ze,Aa]
theorem mG{a b:Str}(h1:a.length<=big)(h2:b.length<=big):qI (a,b)=some (lowS a==lowS b):=by unfold qI;simp only[sN h1,sN h2,ze,Aa]
def xh(n:Nat):Bool:=
 !(n==0||n==9||n==10||n==12||n==13||n==32||n==34||n==39||n==40||n==41||n==44||n==58||n==59||n==91||n==93||n==95||n==123||n==125)&&
  (decide (n<128)&& !((decide (48<=n)&&decide (n<=57))||(decide (65<=n)&&decide (n<=90))||(decide (97<=n)&&decide (n<=122))))
def BB:Prop:= ∀b:UInt8,Qb (b.toNat:Int)=some (xh b.toNat)
def digN(n:Nat):Bool:=decide (48<=n)&&decide (n<=57)
theorem L6: ∀n:Nat,n<256->zB (n:Int)=some (digN n):=by decide+kernel
theorem tN(b:UInt8):zB (b.toNat:Int)=some (digN b.toNat):=(L6 _ (Ib b))
theorem X7: ∀n:Nat,n<256->ZY (n:Int)=some (digN n):=by decide+kernel
theorem rR(b:UInt8):ZY (b.toNat:Int)=some (digN b.toNat):=(X7 _ (Ib b))
def namN(n:Nat):Bool:=digN n||(decide (65<=n)&&decide (n<=90))||(decide (97<=n)&&decide (n<=122))||n==95||n==45||decide (128<=n)
theorem V7: ∀n:Nat,n<256->QG (n:Int)=some (namN n):=by decide+kernel
theorem pR(b:UInt8):QG (b.toNat:Int)=some (namN b.toNat):=(V7 _ (Ib b))
def Mj:Str->Bool
 |[]=>false
 |b::r=>digN b.toNat||(b==45&&(r==[]||digN (r.headD 0).toNat))
theorem Qe(b c:UInt8):((b.toNat:Int)==(c.toNat:Int))=(b==c):=by
 by_cases h:b=c
 ·subst h;simp
 ·have h2:b.toNat≠c.toNat:=fun e=>h (Bf.1 e);rw[Ia.2 h,Ia.2 (by omega)]
theorem YV(b:UInt8):((b.toNat:Int)==45)=(b==45):=Qe b 45
theorem M8(l:Str):Dy l=some (Mj l):=by
 unfold Dy;cases l with
 |nil=>rfl
 |cons b r=>
  have h0:geti (b::r) 0=some b:=rfl;have hn:(b::r==([]:Str))=false:=rfl;simp only[hn,Ba,h0,ze,Aa,tN,Q3,YV];cases r with
  |nil=>
   have e:(([b]:Str)==[45])=(b==45):=by show((b==45)&&true)=_;rw[Cc]
   simp only[e];unfold Mj;cases hb:(b==45)with
   |false=>cases h2:digN b.toNat<;>simp[hb,zq,h2]
   |true=>cases h2:digN b.toNat<;>simp[hb,zq,h2]
  |cons d r=>
   have h1:geti (b::d::r) 1=some d:=rfl;have e:((b::d::r:Str)==[45])=false:=by show((b==45)&&false)=_;rw[Xd]
   simp only[h1,e,Q3,Aa,tN,Mj,List.headD_cons];cases hb:(b==45)<;>cases h2:digN b.toNat<;>simp[hb]
def numS:Str->Bool
 |[]=>false
 |b::r=>bif b==45 then !(r==[])&&digN (r.headD 0).toNat else digN b.toNat
theorem XT(l:Str):qR l=some (numS l):=by
 unfold qR;simp only[P8,ze,Aa];have key: ∀m:Str,((zq (!(m==[])) (geti m 0) 0).bind fun y2=>(zq (!(m==[])) (ZY (y2.toNat:Int)) (default:Bool)).bind fun y3=>some (bif !(m==[])then y3 else false))=some (!(m==[])&&digN (m.headD 0).toNat):=by
  intro m;cases m with
  |nil=>rfl
  |cons b r=> have h0:geti (b::r) 0=some b:=rfl;have hn:(b::r==([]:Str))=false:=rfl;simp only[hn,Eb,zG,h0,Aa,rR,Fa,List.headD_cons,Lb]
 rw[key];cases l with
 |nil=>rfl
 |cons b r=>
  have e:List.isPrefixOf [45] (b::r)=(b==45):=by
   show((45==b)&&true)=_;rw[Cc];cases hb:(b==45)with
   |true=>rw[ma]at hb;subst hb;rfl
   |false=>rw[Ia]at hb;exact Ia.2 (Ne.symm hb)
  rw[e];show _=some (bif b==45 then !(r==[])&&digN (r.headD 0).toNat else digN b.toNat);cases b==45<;>rfl
theorem iV(l:Str):((numS l&& !(List.isPrefixOf [45,45] l))||l==[45])=Mj l:=by
 cases l with
 |nil=>rfl
 |cons b r=>
  cases hb:(b==45)with
  |false=>
   have e1:List.isPrefixOf [45,45] (b::r)=false:=by show((45==b)&&_)=_;rw[Ia]at hb;rw[Ia.2 (Ne.symm hb)];rfl
   have e2:((b::r:Str)==[45])=false:=by show((b==45)&&_)=_;rw[hb];rfl
   rw[e1,e2];unfold numS Mj;simp[hb]
  |true=>
   rw[ma]at hb;subst hb;cases r with
   |nil=>rfl
   |cons d r=>
    have e2:((45::d::r:Str)==[45])=false:=rfl;rw[e2];unfold numS Mj;have e1:List.isPrefixOf [45,45] (45::d::r)=(45==d):=by show((45==(45:UInt8))&&((45==d)&&true))=_;rw[Cc];rfl
    rw[e1];simp only[List.headD_cons];have hd:digN 45=false:=by decide
    cases h:(45==d)with
    |false=>simp[hd]
    |true=>rw[ma]at h;subst h;rfl
def delS(l:Str):Bool:=match l with
 |[b]=>xh b.toNat
 |_=>false
def rngS(x:zb):Bool:=decide (-1000000000000<=x.num)&&(decide (x.num<=1000000000000)&&(!x.flag||Int.tmod x.num 1000==0))
def Cg(x:zb):Bool:=
 bif x.kind==1||x.kind==2||x.kind==3 then !(x.text==[])&&(Zq x.text&&(x.num==0&&(x.unit==[]&& !x.flag)))
 else bif x.kind==4 then !(x.text==[])&&(Zq x.text&&((x.flag||Mj x.text)&&(x.num==0&&x.unit==[])))
 else bif x.kind==5||x.kind==7 then Zq x.text&&(x.num==0&&(x.unit==[]&& !x.flag))
 else bif x.kind==9 then delS x.text&&(x.num==0&&(x.unit==[]&& !x.flag))
 else bif x.kind==10||x.kind==11||x.kind==12 then rngS x&&((!(x.unit==[])==(x.kind==12))&&(Zq x.unit&&((!(x.kind==11)|| !x.flag)&&x.text==[])))
 else(decide (13<=x.kind)&&decide (x.kind<=24))&&(x.text==[]&&(x.num==0&&(x.unit==[]&& !x.flag)))
theorem mI{l:Str}(h:l.length<=big):Qc l=some (Zq l):=by
 unfold Qc;refine(JQ l (fun b=>bif (!(b==0))then none else some false) () (fun i hi=> ?_) ?_).trans ?_
 ·simp only[Po hi,Fa,QJ hi,ze,Aa,byte_zero,jm hi h];cases l[i]==0<;>rfl
 ·simp only[Jw,Ba]
 ·rw[yF];show _=some (Zq l);unfold Zq;cases l.all (fun b=> !(b==0))<;>rfl
theorem one_byte(l:Str)(p:Nat->Bool)(d:Bool)(f:Int->Option Bool)(hf: ∀b:UInt8,f (b.toNat:Int)=some (p b.toNat))(g:Bool):
  ((zq (g&&(l.length:Int)==1) (geti l 0) (0:UInt8)).bind fun y=>zq (g&&(l.length:Int)==1) (f (y.toNat:Int)) d)=some (bif g&&(l.length:Int)==1 then(match l with|[b]=>p b.toNat|_=>false)else d):=by
 cases g with
 |false=>rfl
 |true=>
  cases l with
  |nil=>rfl
  |cons b r=>
   cases r with
   |nil=> show((geti [b] 0).bind fun y=>f (y.toNat:Int))=some (p b.toNat);rw[show geti [b] 0=some b from rfl];exact hf b
   |cons c r=> have:(((b::c::r).length:Int)==1)=false:=Ia.2 (by simp only[Ga];omega);rw[this];rfl
theorem xZ(hD:BB)(l:Str)(g:Bool):((zq (g&&(l.length:Int)==1) (geti l 0) (0:UInt8)).bind fun y=>zq (g&&(l.length:Int)==1) (Qb (y.toNat:Int)) (default:Bool))=some (bif g&&(l.length:Int)==1 then delS l else default):=
 one_byte l xh default Qb hD g
theorem WX(l:Str):(((l.length:Int)==1)&&delS l)=delS l:=by
 cases l with
 |nil=>rfl
 |cons b r=>
  cases r with
  |nil=>rfl
  |cons c r=> have:(((b::c::r).length:Int)==1)=false:=Ia.2 (by simp only[Ga];omega);rw[this];rfl
theorem XR(hD:BB){x:zb}(h1:x.text.length<=big)(h2:x.unit.length<=big):gp x=some (Cg x):=by
 have hd:=xZ hD x.text true;simp only[Lb]at hd;have hd':((zq ((x.text.length:Int)==1) (geti x.text 0) (0:UInt8)).bind fun y7=>(zq ((x.text.length:Int)==1) (Qb (y7.toNat:Int)) (default:Bool)).bind fun y8=>some (bif bif (x.text.length:Int)==1 then y8 else false then x.kind==x.kind&&(([]:Str)==[]&&(x.num==0&&(x.unit==[]&&(x.flag==false&&true))))else false))=some (delS x.text&&(x.num==0&&(x.unit==[]&& !x.flag))):=by
  have e: ∀(k:Bool->Option Bool),((zq ((x.text.length:Int)==1) (geti x.text 0) (0:UInt8)).bind fun y7=>(zq ((x.text.length:Int)==1) (Qb (y7.toNat:Int)) (default:Bool)).bind k)=(((zq ((x.text.length:Int)==1) (geti x.text 0) (0:UInt8)).bind fun y=>zq ((x.text.length:Int)==1) (Qb (y.toNat:Int)) (default:Bool))).bind k:=by intro k;rw[Option.bind_assoc]
  rw[e,hd,Aa,<-WX x.text];simp only[rf];cases (x.text.length:Int)==1<;>cases delS x.text<;>cases x.flag<;>rfl
 unfold gp;simp only[ze,mI h1,mI h2,M8,Q3,Aa,ge_iff_le];unfold Cg rngS;by_cases k9:x.kind=9
 ·simp only[k9,Int.reduceBEq,Fa,Ba,zg,Jf,jc]at hd' ⊢;exact hd'
 clear hd hd';have b9:=Ia.2 k9;generalize delS x.text=a0;generalize Zq x.text=a1;generalize Zq x.unit=a2;generalize Mj x.text=a3;generalize hc1:(x.text==[])=a4;generalize hc2:(x.unit==[])=a5;generalize hc3:(x.num==0)=a6;generalize hc4:x.flag=a7;generalize decide (-1000000000000<=x.num)=a8;generalize decide (x.num<=1000000000000)=a9;generalize (Int.tmod x.num 1000==0)=a10;by_cases k1:x.kind=1
 ·simp only[k1,zg,Fa,Ba,hc1,hc2,hc3,hc4,Int.reduceBEq];cases a1<;>cases a4<;>cases a5<;>cases a6<;>cases a7<;>rfl
 by_cases k2:x.kind=2
 ·simp only[k2,zg,Fa,Ba,hc1,hc2,hc3,hc4,Int.reduceBEq];cases a1<;>cases a4<;>cases a5<;>cases a6<;>cases a7<;>rfl
 by_cases k3:x.kind=3
 ·simp only[k3,zg,Fa,Ba,hc1,hc2,hc3,hc4,Int.reduceBEq];cases a1<;>cases a4<;>cases a5<;>cases a6<;>cases a7<;>rfl
 by_cases k4:x.kind=4
 ·simp only[k4,zg,Fa,Ba,hc1,hc2,hc3,hc4,Int.reduceBEq];cases a1<;>cases a3<;>cases a4<;>cases a5<;>cases a6<;>cases a7<;>rfl
 by_cases k5:x.kind=5
 ·simp only[k5,zg,Fa,Ba,hc1,hc2,hc3,hc4,Int.reduceBEq];cases a1<;>cases a4<;>cases a5<;>cases a6<;>cases a7<;>rfl
 by_cases k7:x.kind=7
 ·simp only[k7,zg,Fa,Ba,hc1,hc2,hc3,hc4,Int.reduceBEq];cases a1<;>cases a4<;>cases a5<;>cases a6<;>cases a7<;>rfl
 by_cases k10:x.kind=10
 ·simp only[k10,zg,Fa,Ba,hc1,hc2,hc3,hc4,Int.reduceBEq];cases a2<;>cases a4<;>cases a5<;>cases a7<;>cases a8<;>cases a9<;>cases a10<;>rfl
 by_cases k11:x.kind=11
 ·simp only[k11,zg,Fa,Ba,hc1,hc2,hc3,hc4,Int.reduceBEq];cases a2<;>cases a4<;>cases a5<;>cases a7<;>cases a8<;>cases a9<;>cases a10<;>rfl
 by_cases k12:x.kind=12
 ·simp only[k12,zg,Fa,Ba,hc1,hc2,hc3,hc4,Int.reduceBEq];cases a2<;>cases a4<;>cases a5<;>cases a7<;>cases a8<;>cases a9<;>cases a10<;>rfl
 simp only[b9,Ia.2 k1,Ia.2 k2,Ia.2 k3,Ia.2 k4,Ia.2 k5,Ia.2 k7,Ia.2 k10,Ia.2 k11,Ia.2 k12,zg,Fa,Ba,hc1,hc2,hc3,hc4,rf,yg];by_cases k6:x.kind=6
 ·simp only[k6,zg,Fa,Ba,Int.reduceBEq];rfl
 by_cases k8:x.kind=8
 ·simp only[k8,zg,Fa,Ba,Int.reduceBEq];rfl
 simp only[Ia.2 k6,Ia.2 k8,zg,Fa,Ba];have e:(decide (1<=x.kind)&&decide (x.kind<=24))=(decide (13<=x.kind)&&decide (x.kind<=24)):=by
  by_cases hh:13<=x.kind
  ·rw[Ea hh,Ea (by omega)]
  ·rw[Ra hh];by_cases h1:1<=x.kind
   ·omega
   ·rw[Ra h1]
 rw[<-e];cases decide (1<=x.kind)<;>cases decide (x.kind<=24)<;>cases a4<;>cases a5<;>cases a6<;>cases a7<;>rfl
abbrev Er:Str:=[32,9,10,12,13,34,39,58,59,44,91,93,40,41,123,125]
theorem YC: ∀(m:Str) (c:UInt8),Lib.index m [c]=Lib.indexByte m c
 |[],c=>rfl
 |b::l,c=>by
  have h:List.isPrefixOf [c] (b::l)=(b==c):=by
   show(c==b&&List.isPrefixOf [] l)=_;rw[List.isPrefixOf,Cc];by_cases e:b=c
   ·subst e;rfl
   ·rw[Ia.2 e,Ia.2 (fun h=>e h.symm)]
  rw[Lib.index,Lib.indexByte,h,YC l c]
theorem contains_one(m:Str)(c:UInt8)(hm:short m=true:=by decide):strings_Contains (m,[c])=some (m.any fun b=>b==c):=by unfold strings_Contains;simp only[Gl,hm,Zf,ze,Aa,YC,iE]
theorem l9(c:UInt8):strings_Contains ([32,9,10,12,13,34,39,58,59,44,91,93,40,41,123,125],[c])=some (Er.any fun b=>b==c):=contains_one Er c
theorem yZ: ∀n:Nat,n<256->((bif bif !(UInt8.ofNat n==0)then !namN n else false then true else UInt8.ofNat n==45)&&(!(Er.any fun b=>b==UInt8.ofNat n)))=xh n:=by decide+kernel
theorem VX(b:UInt8):((bif bif !(b==0)then !namN b.toNat else false then true else b==45)&&(!(Er.any fun c=>c==b)))=xh b.toNat:=by
 have:=yZ b.toNat (Ib b)
 rwa [Sb]at this
theorem C8(a b:Str):Zq (a++b)=(Zq a&&Zq b):=by unfold Zq;rw[Gf]
theorem zAG(n:Int):decide (n<0)= !decide (n>=0):=by
 by_cases h:n<0
 ·rw[Ea h,Ra (by omega)];rfl
 ·rw[Ra h,Ea (by omega)];rfl
theorem jv: ∀(l:Str) (n:Nat),valG n l=n*10 ^ l.length+valG 0 l
 |[],n=>by simp[valG]
 |c::l,n=>by show valG (decN n c) l=n*10 ^ (l.length+1)+valG (decN 0 c) l;rw[jv l (decN n c),jv l (decN 0 c),xg];unfold decN;rw[Vd,Nat.mul_zero,Ve,uf 10 n,Bg,uf 10 (10 ^ l.length)];omega
theorem CX(l:Str)(i:Nat):valG 0 (l.take i)<=valG 0 l:=by
 have h:valG 0 l=valG (valG 0 (l.take i)) (l.drop i):=by rw[<-CB,Ef]
 rw[h,jv (l.drop i)];have:=Ie (valG 0 (l.take i)) (Dg (n:=(l.drop i).length) (show 0<10 by omega));omega
theorem Vp{b:UInt8}(h:digB b=true):48<=b.toNat/\b.toNat<=57:=by unfold digB at h;simpa using h
theorem oW {R:Type} {step:Int×Int->Option (LO (Int×Int) Int R)} {l:Str} (hl:l.all digB=true) (hn:l.length<=100000) (hv:valG 0 l<=1000000000000)
  (h1: ∀(v:Int) (i:Nat) (hi:i<l.length),step (v,(i:Int))=some (.again (if 1000000000000<w64 (w64 (10*v)+w64 (wu8 ((l[i].toNat:Int) - 48)))then 1000000000000 else w64 (w64 (10*v)+w64 (wu8 ((l[i].toNat:Int) - 48))),w64 ((i:Int)+1))))
  (h2: ∀v:Int,step (v,(l.length:Int))=some (.out v)):Gg step (0,0)=some (.out ((valG 0 l:Nat):Int)):=by
 refine ZG (fun s=> ∃i:Nat,i<=l.length/\s=(((valG 0 (l.take i):Nat):Int),(i:Int))) (fun s=>l.length - s.2.toNat) _ ?_ ⟨0,by omega,rfl⟩;rintro _ ⟨i,hi,rfl⟩;rcases Mc i l.length with h|h
 ·refine .inl ⟨_,h1 _ i h,⟨i+1,by omega,?_⟩,by simp only;rw[zz (by omega) (by omega)];omega⟩;have hd:=Vp (Xa.1 hl _ (Cf h));have ht:valG 0 (l.take (i+1))=decN (valG 0 (l.take i)) l[i]:=by rw[He h,CB];rfl
  have hb:=CX l (i+1);have hu:wu8 ((l[i].toNat:Int) - 48)=((l[i].toNat - 48:Nat):Int):=by show IntKind.u8.wrap _=_;rw[IntKind.wrap_u8];omega
  unfold decN at ht;rw[hu,zz (n:=10*_) (by omega) (by omega),zz (n:=((l[i].toNat - 48:Nat):Int)) (by omega) (by omega),zz (n:=(i:Int)+1) (by omega) (by omega),zz (by omega) (by omega),Ja (by omega)];refine Prod.ext ?_ ?_
  ·show(10*((valG 0 (l.take i):Nat):Int)+((l[i].toNat - 48:Nat):Int))=_;omega
  ·show(i:Int)+1=((i+1:Nat):Int);omega
 ·have:i=l.length:=by omega
  subst this;refine .inr (.inl ⟨_,h2 _,?_⟩);rw[Re]
theorem PZ {R:Type} {step:Int×Int->Option (LO (Int×Int) Int R)} {v p:Nat} (hp:p<=100) (hv:v*10 ^ p<=1000000000000)
  (h: ∀(a b:Int),step (a,b)=bif bif bif decide (a>0)then decide (b>0)else false then decide (b<1000000000000)else false then some (.again (w64 (a - 1),if 1000000000000<w64 (10*b)then 1000000000000 else w64 (10*b)))else some (.out b)):
  Gg step ((p:Int),(v:Int))=some (.out ((v*10 ^ p:Nat):Int)):=by
 refine ZG (fun s=> ∃a b:Nat,s=((a:Int),(b:Int))/\a<=100/\b*10 ^ a=v*10 ^ p) (fun s=>s.1.toNat) _ ?_ ⟨p,v,rfl,hp,rfl⟩;rintro _ ⟨a,b,rfl,ha,he⟩;rw[h];cases a with
 |zero=> refine .inr (.inl ⟨(b:Int),rfl,?_⟩);rw[<-he,Nat.pow_zero,bg]
 |succ a=>
  rw[Ea (show((a+1:Nat):Int)>0 by omega),Fa];rw[xg,<-Bg]at he;have hpos:0<10 ^ a:=Dg (by omega);cases Kh b with
  |inl h0=> subst h0;refine .inr (.inl ⟨0,rfl,?_⟩);rw[<-he];simp
  |inr h0=>
   rw[Ea (show((b:Nat):Int)>0 by omega),Fa];have hle:b<=b*10 ^ a:=Ie b hpos;rw[Ea (show((b:Nat):Int)<1000000000000 by omega),Fa];refine .inl ⟨_,rfl,⟨a,10*b,?_,by omega,?_⟩,by simp only;rw[zz (by omega) (by omega)];omega⟩
   ·rw[zz (by omega) (by omega),zz (by omega) (by omega),Ja (by omega)];refine Prod.ext ?_ ?_
    ·show((a+1:Nat):Int) - 1=(a:Int);omega
    ·show 10*(b:Int)=((10*b:Nat):Int);omega
   ·rw[<-he,uf 10 b,Bg,Bg,uf 10 (10 ^ a)]
theorem jE: ∀(q:Str),q.all digB=true->Lib.indexByte q 46= -1
 |[],_=>rfl
 |c::q,h=>by
  rw[ic,Da]at h;have hd:=Vp h.1;have hc:(c==46)=false:=by refine Ia.2 (fun e=> ?_);subst e;revert hd;decide
  rw[Lib.indexByte,hc,jE q h.2];rfl
theorem kE: ∀(q g:Str),q.all digB=true->Lib.indexByte (q++46::g) 46=(q.length:Int)
 |[],g,_=>by rw[Kc,Lib.indexByte];rfl
 |c::q,g,h=>by
  rw[ic,Da]at h;have hd:=Vp h.1;have hc:(c==46)=false:=by refine Ia.2 (fun e=> ?_);subst e;revert hd;decide
  rw[ja,Lib.indexByte,hc,kE q g h.2];have:((q.length:Int)== -1)=false:=Ia.2 (by omega);rw[this,Ga];simp
theorem VF: ∀(l:Str),(l.all fun b=>digB b||b==46)=true->Lib.indexAny l [101,69]= -1
 |[],_=>rfl
 |c::l,h=>by
  rw[ic,Da]at h;have hc:List.contains [101,69] c=false:=by
   have: ∀n:Nat,n<256->(digB (UInt8.ofNat n)||UInt8.ofNat n==46)=true->List.contains [101,69] (UInt8.ofNat n)=false:=by decide+kernel
   have:=this c.toNat (Ib c);rw[Sb]at this;exact this h.1
  rw[Lib.indexAny,hc,VF l h.2];rfl
end Go.Lv.VT
