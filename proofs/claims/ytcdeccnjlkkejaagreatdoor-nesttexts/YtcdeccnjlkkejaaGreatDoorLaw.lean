/- The reading of tokens: what the program's text and the reference's come to. -/
import Derived.Test.YtcdeccnjlkkejaaGreatDoorTy
import Derived.Test.YtcdeccnjlkkejaaGreatDoorMo
import Derived.Test.YtcdeccnjlkkejaaGreatDoorTx
set_option linter.unusedSimpArgs false
set_option linter.unusedVariables false
namespace Go.Lv.VT
def atS(l:Str)(n:Nat):UInt8:=l.getD n 0
def digB(b:UInt8):Bool:=decide (48<=b.toNat)&&decide (b.toNat<=57)
def spB(b:UInt8):Bool:=b==10||b==9||b==32
def alB(b:UInt8):Bool:=decide (65<=b.toNat)&&decide (b.toNat<=90)||decide (97<=b.toNat)&&decide (b.toNat<=122)
def fstB(b:UInt8):Bool:=alB b||b==95||decide (128<=b.toNat)
def letB(b:UInt8):Bool:=fstB b||digB b||b==45
def hexN(b:UInt8):Nat:=
 if digB b then b.toNat - 48 else if 97<=b.toNat/\b.toNat<=102 then b.toNat - 87 else if 65<=b.toNat/\b.toNat<=70 then b.toNat - 55 else 16
def Qd(b:UInt8):Bool:=decide (hexN b<16)
def escS(l:Str):Bool:=atS l 0==92&& !(atS l 1==10)
def nmS(l:Str):Bool:=if atS l 0==45 then fstB (atS l 1)||atS l 1==45||escS (l.drop 1)else fstB (atS l 0)||escS l
def Xf(b:UInt8):Bool:=b==43||b==45
def unsign(l:Str):Str:=if Xf (atS l 0)then l.drop 1 else l
def undot(l:Str):Str:=if atS l 0==46 then l.drop 1 else l
def nbS(l:Str):Bool:=digB (atS (undot (unsign l)) 0)
def Ml:Str:=[239,191,189]
def ag(n:Nat):Str:=
 if n=0\/(55296<=n/\n<=57343)\/1114111<n then Ml
 else if n<128 then [UInt8.ofNat n]
 else if n<2048 then [UInt8.ofNat (192+n / 64),UInt8.ofNat (128+n%64)]
 else if n<65536 then [UInt8.ofNat (224+n / 4096),UInt8.ofNat (128+n / 64%64),UInt8.ofNat (128+n%64)]
 else [UInt8.ofNat (240+n / 262144),UInt8.ofNat (128+n / 4096%64),UInt8.ofNat (128+n / 64%64),UInt8.ofNat (128+n%64)]
def hexes:Nat->Nat->Str->Nat×Str
 |0,n,l=>(n,l)
 |_+1,n,[]=>(n,[])
 |k+1,n,c::r=>if Qd c then hexes k (16*n+hexN c) r else(n,c::r)
def unsp:Str->Str
 |[]=>[]
 |c::r=>if spB c then r else c::r
def zq:Str->Str×Str
 |[]=>(Ml,[])
 |c::r=>if Qd c then(ag (hexes 6 0 (c::r)).1,unsp (hexes 6 0 (c::r)).2)else([c],r)
theorem SC: ∀(k n:Nat) (l:Str),(hexes k n l).2<:+l
 |0,n,l=>Bf l
 |k+1,n,[]=>Bf _
 |k+1,n,c::r=>by
  unfold hexes;split
  ·exact(SC k _ r).trans (Be c r)
  grind
theorem zAk(l:Str):unsp l<:+l:=by
 cases l with
 |nil=>exact Bf _
 |cons c r=>
  show(if spB c then r else c::r)<:+c::r
  grind
theorem ZM(l:Str):(zq l).2<:+l:=by
 cases l with
 |nil=>exact Bf _
 |cons c r=>
  show(if Qd c then(ag (hexes 6 0 (c::r)).1,unsp (hexes 6 0 (c::r)).2)else([c],r)).2<:+c::r;split
  ·exact(zAk _).trans (SC 6 0 _)
  grind
theorem Za(l:Str):(zq l).2.length<=l.length:=(ZM l).length_le
def zm:Str->Str×Str
 |[]=>([],[])
 |c::r=>
  if letB c then((c::(zm r).1),(zm r).2)
  else if escS (c::r)then((zq r).1++(zm (zq r).2).1,(zm (zq r).2).2)
  else([],c::r)
termination_by l=>l.length
decreasing_by
 all_goals first|(have:=Za r;simp only[Sa];omega)|(simp only[Sa];omega)
def past(p:UInt8->Bool):Str->Str
 |[]=>[]
 |c::r=>if p c then past p r else c::r
theorem Mm(p:UInt8->Bool): ∀l:Str,past p l<:+l
 |[]=>Bf _
 |c::r=>by
  unfold past;split
  ·exact(Mm p r).trans (Be c r)
  grind
def zP(l:Str):Str×Bool:=
 if atS l 0==46&&digB (atS l 1)then(past digB (l.drop 1),false)else(l,true)
def expS(l:Str):Option Str:=
 if atS l 0==101||atS l 0==69 then(if digB (atS (unsign (l.drop 1)) 0)then some (past digB (unsign (l.drop 1)))else none)else none
def zB(l:Str):Str×Bool:=
 let x:=zP (past digB (unsign l))
 match expS x.1 with
 |some r=>(r,false)
 |none=>x
def decN(n:Nat)(b:UInt8):Nat:=10*n+(b.toNat - 48)
def zV(m:UInt8):Str->Option Str×Str
 |[]=>(some [],[])
 |c::r=>
  if c==m then(some [],r)
  else if c==10 then(none,c::r)
  else if c==92 then
   (if r.isEmpty then(some [],[])
   else if atS r 0==10 then zV m (r.drop 1)
   else((zV m (zq r).2).1.map ((zq r).1++ ·),(zV m (zq r).2).2))
  else((zV m r).1.map (c:: ·),(zV m r).2)
termination_by l=>l.length
decreasing_by
 all_goals first|(have:=Za r;simp only[Sa];omega)|(simp only[Sa,Xc];omega)
def badS:Str->Str
 |[]=>[]
 |c::r=>if c==41 then r else if escS (c::r)then badS (zq r).2 else badS r
termination_by l=>l.length
decreasing_by
 all_goals first|(have:=Za r;simp only[Sa];omega)|(simp only[Sa];omega)
def unB(b:UInt8):Bool:=decide (b.toNat<=8)||b==11||decide (14<=b.toNat)&&decide (b.toNat<=31)||b==127
def urlS:Str->Option Str×Str
 |[]=>(some [],[])
 |c::r=>
  if c==41 then(some [],r)
  else if spB c then(match past spB r with
   |[]=>(some [],[])
   |d::a=>if d==41 then(some [],a)else(none,badS (d::a)))
  else if c==34||c==39||c==40||unB c||c==92&& !escS (c::r)then(none,badS (c::r))
  else if c==92 then((urlS (zq r).2).1.map ((zq r).1++ ·),(urlS (zq r).2).2)
  else((urlS r).1.map (c:: ·),(urlS r).2)
termination_by l=>l.length
decreasing_by
 all_goals first|(have:=Za r;simp only[Sa];omega)|(simp only[Sa];omega)
def Ng(b:UInt8):Int:=
 if b==58 then 16 else if b==59 then 17 else if b==44 then 18 else if b==91 then 19 else if b==93 then 20 else if b==40 then 21 else if b==41 then 22 else if b==123 then 23 else if b==125 then 24 else 0
def yg(k:Int):zb:=⟨k,[],0,[],false⟩
def Kh:Nat:=1000000000000
def Gi:Nat->Nat->Nat
 |0,n=>n
 |k+1,n=>if n=0\/Kh<=n then n else Gi k (min Kh (10*n))
set_option maxRecDepth 100000
abbrev sc(s:Str)(k:Nat):za:=⟨s,(k:Int)⟩
def pk(l:Str)(n:Nat):Int:=match l[n]? with|some b=>(b.toNat:Int)|none=> -1
def beh(s r:Str):Nat:=s.length - r.length
theorem zW{n:Int}(a: -9223372036854775808<=n)(h2:n<=9223372036854775807):w64 n=n:=xk a h2
theorem Vr{s r:Str}(h:r<:+s):s.drop (beh s r)=r:=by obtain⟨t,rfl⟩:=h;unfold beh;simp_all
theorem Uk(s r:Str):beh s r<=s.length:=by unfold beh;omega
theorem JY{s:Str}{k:Nat}(h:k<=s.length):beh s (s.drop k)=k:=by unfold beh;grind
theorem TA{s:Str}{k n:Nat}(c:s.length<=big)(g:k<=s.length)(f:n<=8):zf ((n:Int),sc s k)=some (pk (s.drop k) n):=by
 have d:big=4194304:=rfl;have e:w64 ((k:Int)+(n:Int))=((k+n:Nat):Int):=by rw[zW (by omega) (by omega)];omega
 unfold zf pk;simp only[e];rw[xg];by_cases h:k+n<s.length
 ·rw[Ma (by omega),Ea];have b:geti s ((k+n:Nat):Int)=some s[k+n]:=QV h;have a:=Fb s[k+n];simp only[ze,b,Aa,Ja h];rw[zW (by omega) (by omega)]
 ·grind
theorem ut{s:Str}{k:Nat}(b:s.length<=big)(a:k<=s.length):zf (0,sc s k)=some (pk (s.drop k) 0):=TA (n:=0) b a (by omega)
theorem xJ{s:Str}{k:Nat}(b:s.length<=big)(a:k<=s.length):zf (1,sc s k)=some (pk (s.drop k) 1):=TA (n:=1) b a (by omega)
theorem zEd{s:Str}{k:Nat}(b:s.length<=big)(a:k<=s.length):zf (2,sc s k)=some (pk (s.drop k) 2):=TA (n:=2) b a (by omega)
theorem Bu{a:Type}{f:Int->Option a}{p:UInt8->a}(h: ∀b:UInt8,f (b.toNat:Int)=some (p b))(c:f (-1)=some (p 0))(l:Str)(n:Nat):f (pk l n)=some (p (atS l n)):=by
 unfold pk atS
 grind
theorem of_n{a:Type}{f:Int->Option a}{p:UInt8->a}(h: ∀n:Nat,n<256->f (n:Int)=some (p (UInt8.ofNat n)))(b:UInt8):f (b.toNat:Int)=some (p b):=by have:=h b.toNat (Fb b);simp_all
theorem bv(l:Str)(n:Nat):qa (pk l n)=some (spB (atS l n)):=Bu (of_n (by decide+kernel)) (by decide+kernel) l n
theorem Gm(l:Str)(n:Nat):Zn (pk l n)=some (digB (atS l n)):=Bu (of_n (by decide+kernel)) (by decide+kernel) l n
theorem zCt(l:Str)(n:Nat):Xo (pk l n)=some (fstB (atS l n)):=Bu (of_n (by decide+kernel)) (by decide+kernel) l n
theorem pM(l:Str)(n:Nat):Wt (pk l n)=some (letB (atS l n)):=Bu (of_n (by decide+kernel)) (by decide+kernel) l n
def hexI(b:UInt8):Int:=if Qd b then(hexN b:Int)else -1
theorem JE(l:Str)(n:Nat):Sm (pk l n)=some (hexI (atS l n)):=Bu (of_n (by decide+kernel)) (by decide+kernel) l n
theorem uh(l:Str)(n:Nat)(c:UInt8)(h:c≠0):(pk l n==(c.toNat:Int))=(atS l n==c):=by
 unfold pk atS;rw[Yd];cases l[n]? with
 |none=>
  grind
 |some b=>
  show((b.toNat:Int)==(c.toNat:Int))=(b==c);by_cases e:b=c
  ·grind
  ·have:b.toNat≠c.toNat:=fun h=>e (Re.1 h)
   grind
theorem wJ(l:Str)(n:Nat):(pk l n==10)=(atS l n==10):=uh l n 10 (by decide)
theorem mU(l:Str)(n:Nat):(pk l n==34)=(atS l n==34):=uh l n 34 (by decide)
theorem zEe(l:Str)(n:Nat):(pk l n==35)=(atS l n==35):=uh l n 35 (by decide)
theorem zEf(l:Str)(n:Nat):(pk l n==37)=(atS l n==37):=uh l n 37 (by decide)
theorem lU(l:Str)(n:Nat):(pk l n==39)=(atS l n==39):=uh l n 39 (by decide)
theorem zEg(l:Str)(n:Nat):(pk l n==40)=(atS l n==40):=uh l n 40 (by decide)
theorem vJ(l:Str)(n:Nat):(pk l n==41)=(atS l n==41):=uh l n 41 (by decide)
theorem uJ(l:Str)(n:Nat):(pk l n==43)=(atS l n==43):=uh l n 43 (by decide)
theorem Fu(l:Str)(n:Nat):(pk l n==45)=(atS l n==45):=uh l n 45 (by decide)
theorem tJ(l:Str)(n:Nat):(pk l n==46)=(atS l n==46):=uh l n 46 (by decide)
theorem zEh(l:Str)(n:Nat):(pk l n==64)=(atS l n==64):=uh l n 64 (by decide)
theorem zEi(l:Str)(n:Nat):(pk l n==69)=(atS l n==69):=uh l n 69 (by decide)
theorem IV(l:Str)(n:Nat):(pk l n==92)=(atS l n==92):=uh l n 92 (by decide)
theorem zDx(l:Str)(n:Nat):(pk l n==101)=(atS l n==101):=uh l n 101 (by decide)
theorem Nn(l:Str):(pk l 0== -1)=l.isEmpty:=by
 cases l with
 |nil=>rfl
 |cons b r=>
  show((b.toNat:Int)== -1)=false
  grind
theorem Qu(l:Str)(k n:Nat):atS (l.drop k) n=atS l (k+n):=by
 unfold atS
 grind
theorem uM {R:Type} {step:za->Option (LO za za R)} {s:Str} (p:UInt8->Bool) (h0:p 0=false)
  (h: ∀k,k<=s.length->step (sc s k)=some (bif p (atS (s.drop k) 0)then .again (sc s (k+1))else .out (sc s k))) {k:Nat} (hk:k<=s.length):
  Tg step (sc s k)=some (.out (sc s (beh s (past p (s.drop k))))):=by
 refine Qf (fun z=> ∃j,z=sc s j/\j<=s.length/\past p (s.drop j)=past p (s.drop k)) (fun z=>s.length - z.at_.toNat) _ ?_ ⟨k,rfl,hk,rfl⟩;rintro _ ⟨j,rfl,hj,he⟩;rw[h j hj];cases hd:s.drop j with
 |nil=>
  rw[show atS ([]:Str) 0=0 from rfl,h0,Ha];refine .inr (.inl ⟨_,rfl,?_⟩);rw[<-he,hd];have:j=s.length:=by have:=Pe.1 hd;omega
  subst this;show LX.out (sc s (beh s []))=_;unfold beh;rw[lc,Nat.sub_zero]
 |cons c r=>
  have hlt:j<s.length:=by
   rcases Lc j s.length with h'|h'
   ·exact h'
   ·grind
  have hr:s.drop (j+1)=r:=by have:=Jb hlt;rw[hd]at this;injection this with _ h2;exact h2.symm
  rw[show atS (c::r) 0=c from rfl];cases hp:p c with
  |true=> refine .inl ⟨_,rfl,⟨j+1,rfl,by omega,?_⟩,by grind⟩;rw[hr,<-he,hd,past,hp];rfl
  |false=> refine .inr (.inl ⟨_,rfl,?_⟩);rw[<-he,hd,past,hp,Ga (by decide),<-hd,JY hj]
theorem ML{s:Str}{k:Nat}(b:s.length<=big)(a:k<=s.length):w64 ((k:Int)+1)=((k+1:Nat):Int):=by have c:big=4194304:=rfl;rw[zW (by omega) (by omega)];omega
theorem zAq{s:Str}{k:Nat}(a:s.length<=big)(c:k<=s.length):zO (sc s k)=some (sc s (beh s (past spB (s.drop k)))):=by
 unfold zO;rw[Qg (uM spB rfl (fun j b=> ?_) c)];simp only[ze,ut a b,Aa,bv,ML a b]
 grind
theorem eX{s:Str}{k:Nat}(a:s.length<=big)(c:k<=s.length):zN (sc s k)=some (sc s (beh s (past digB (s.drop k)))):=by
 unfold zN;rw[Qg (uM digB rfl (fun j b=> ?_) c)];simp only[ze,ut a b,Aa,Gm,ML a b]
 grind
theorem number_eq{s:Str}{k:Nat}(a:s.length<=big)(c:k<=s.length):Zo (sc s k)=some (nbS (s.drop k)):=by
 unfold Zo nbS unsign undot Xf;simp only[ze,ut a c,Aa,uJ,Fu];have d: ∀(b:Bool),(zS (X:=Int) (bif b then some (LX.out 1)else some (LX.out 0)) fun e=>
   zS (X:=Int) ((zf (e,sc s k)).bind fun f=>bif f==46 then some (LX.out (w64 (e+1)))else some (LX.out e)) fun g=>
   (zf (g,sc s k)).bind fun i=>(Zn i).bind fun j=>some j)=some (digB (atS (if atS (if b then(s.drop k).drop 1 else s.drop k) 0==46 then(if b then(s.drop k).drop 1 else s.drop k).drop 1 else(if b then(s.drop k).drop 1 else s.drop k)) 0)):=by
  intro b;cases b with
  |false=>
   simp only[Ha,zh,ut a c,Aa,tJ,Nc,Ce];cases h:atS (s.drop k) 0==46 with
   |false=>simp only[Ha,zh,ut a c,Aa,Gm,Nc,Ce]
   |true=> simp only[Ea,zh,yc];rw[show w64 (0+1)=1 from rfl,xJ a c];simp only[Aa,Gm];rw[Qu (s.drop k) 1 0]
  |true=>
   simp only[Ea,zh,xJ a c,Aa,tJ,yc];rw[Qu (s.drop k) 1 0];cases h:atS (s.drop k) (1+0)==46 with
   |false=> simp only[Ae]at h;simp only[h,Ha,zh,xJ a c,Aa,Gm,Nc,Ce];rw[Qu (s.drop k) 1 0]
   |true=> simp only[Ae]at h;simp only[h,Ea,zh,yc];rw[show w64 (1+1)=2 from rfl,zEd a c];simp only[Aa,Gm];rw[We,Qu (s.drop k) (1+1) 0]
 have:=d (atS (s.drop k) 0==43||atS (s.drop k) 0==45)
 grind
abbrev sr(s r:Str):za:=sc s (beh s r)
theorem sr_0(s:Str):(⟨s,0⟩:za)=sr s s:=by show sc s 0=sc s (beh s s);unfold beh;rw[Nat.sub_self]
theorem lm{s r:Str}{n:Nat}(b:s.length<=big)(c:r<:+s)(a:n<=8):zf ((n:Int),sr s r)=some (pk r n):=by rw[TA b (Uk s r) a,Vr c]
theorem bg{s r:Str}(a:s.length<=big)(b:r<:+s):zf (0,sr s r)=some (pk r 0):=lm (n:=0) a b (by omega)
theorem pu{s r:Str}(a:s.length<=big)(b:r<:+s):zf (1,sr s r)=some (pk r 1):=lm (n:=1) a b (by omega)
theorem zDw{s r:Str}(a:s.length<=big)(b:r<:+s):zf (2,sr s r)=some (pk r 2):=lm (n:=2) a b (by omega)
theorem Oz{s r:Str}(a:s.length<=big)(b:r<:+s):zO (sr s r)=some (sr s (past spB r)):=by rw[zAq a (Uk s r),Vr b]
theorem vz{s r:Str}(a:s.length<=big)(b:r<:+s):zN (sr s r)=some (sr s (past digB r)):=by rw[eX a (Uk s r),Vr b]
theorem zB0{s r:Str}(a:s.length<=big)(b:r<:+s):Zo (sr s r)=some (nbS r):=by rw[number_eq a (Uk s r),Vr b]
theorem BM{s r:Str}{n:Nat}(a:r<:+s)(b:n<=r.length):beh s r+n=beh s (r.drop n):=by
 have:=a.length_le;unfold beh
 grind
theorem Gz{s r:Str}{n:Nat}(c:s.length<=big)(a:r<:+s)(b:n<=r.length):(⟨s,w64 ((beh s r:Int)+(n:Int))⟩:za)=sr s (r.drop n):=by have d:big=4194304:=rfl;have:=Uk s r;have e:=a.length_le;rw[zW (by omega) (by omega),show(beh s r:Int)+(n:Int)=((beh s r+n:Nat):Int) by omega,BM a b]
theorem Vu{l:Str}{n:Nat}(h:atS l n≠0):n<l.length:=by
 rcases Lc n l.length with a|a
 ·exact a
 ·exact absurd (by unfold atS;grind) h
theorem Ou{s r:Str}(a:s.length<=big)(b:r<:+s)(h:atS r 0≠0):(⟨s,w64 ((beh s r:Int)+1)⟩:za)=sr s (r.drop 1):=Gz (n:=1) a b (Vu h)
theorem ik{s r:Str}(a:r<:+s)(n:Nat):r.drop n<:+s:=(Me n r).trans a
theorem Ko{s r:Str}(p:UInt8->Bool)(a:r<:+s):past p r<:+s:=(Mm p r).trans a
theorem WI{s r:Str}(a:r<:+s):unsign r<:+s:=by
 unfold unsign;split
 ·exact ik a 1
 ·exact a
theorem KL{b:UInt8}(h:Xf b=true):b≠0:=by rintro rfl;revert h;decide
theorem SK(a b:Bool):(bif a then true else b)=(a||b):=by cases a<;>rfl
theorem XV(a b:Bool):(bif a then b else false)=(a&&b):=by cases a<;>rfl
theorem MO{s r:Str}(a:r<:+s):(zP r).1<:+s:=by
 unfold zP;split
 ·exact Ko _ (ik a 1)
 ·exact a
theorem UL{s r q:Str}(a:r<:+s)(h:expS r=some q):q<:+s:=by
 unfold expS at h;split at h
 ·split at h
  ·cases h;exact Ko _ (WI (ik a 1))
  ·cases h
 ·cases h
theorem P5{s r:Str}(b:r<:+s):(zB r).1<:+s:=by
 unfold zB;have a:=MO (Ko digB (WI b));simp only;cases h:expS (zP (past digB (unsign r))).1 with
 |some q=>exact UL a h
 |none=>exact a
theorem SY{s l:Str}(hs:s.length<=big)(hl:l<:+s):Z4 (sr s l)=some ((zB l).2,sr s (zB l).1):=by
 unfold Z4;simp only[ze,bg hs hl,Aa,uJ,Fu,SK];have e1:(bif (atS l 0==43||atS l 0==45)then some (LX.out (⟨s,w64 ((beh s l:Int)+1)⟩:za))else some (LX.out (sr s l)))=(some (LX.out (sr s (unsign l))):Option (LX za (Bool×za))):=by
  unfold unsign;cases h:Xf (atS l 0)with
  |true=> have h':(atS l 0==43||atS l 0==45)=true:=h;rw[h',Ea,La rfl,Ou hs hl (KL h)]
  |false=>
   have h':(atS l 0==43||atS l 0==45)=false:=h
   grind
 rw[e1,zh];have hu:=WI hl;rw[vz hs hu];simp only[Aa];have hp:=Ko digB hu;unfold zB;generalize past digB (unsign l)=q at hp ⊢;have e2:zS (X:=Bool×za) (R:=Bool×za) ((zf (0,sr s q)).bind fun y4=>
   (zu (y4==46) (zf (1,sr s q)) (default:Int)).bind fun y5=>
   (zu (y4==46) (Zn y5) (default:Bool)).bind fun y6=>
   bif bif y4==46 then y6 else false then(zN (⟨s,w64 ((beh s q:Int)+1)⟩:za)).bind fun y7=>some (LX.out (false,y7))else some (LX.out (true,sr s q)))=zS (some (LX.out ((zP q).2,sr s (zP q).1))):=by
  congr 1;unfold zP;simp only[bg hs hp,pu hs hp,Aa,tJ];cases h:atS q 0==46 with
  |false=>simp_all
  |true=>
   simp only[Zx,Aa,Ea,Gm,Sb];cases h2:digB (atS q 1)with
   |false=>grind
   |true=> rw[Ea,La rfl,Ou hs hp (by grind),vz hs (ik hp 1)];rfl
 rw[e2,zh];have hw:=MO hp;generalize zP q=W at hw ⊢;obtain⟨w,i⟩:=W;simp only at hw ⊢;have e3:((zf (0,sr s w)).bind fun y9=>
   (zu (!(y9==101)) (zf (0,sr s w)) (default:Int)).bind fun y10=>
   bif bif y9==101 then true else y10==69 then
    zS (X:=(Bool×Int)×za) ((zf (1,sr s w)).bind fun y11=>bif bif y11==43 then true else y11==45 then some (LX.out ((i,2),sr s w))else some (LX.out ((i,1),sr s w))) fun j12=>
    (zf (j12.1.2,j12.2)).bind fun y13=>(Zn y13).bind fun y14=>
    bif y14 then(zN (⟨j12.2.s,w64 (j12.2.at_+j12.1.2)⟩:za)).bind fun y15=>some (LX.out (false,y15))else some (LX.out (j12.1.1,j12.2))
   else some (LX.out (i,sr s w)))=(some (LX.out (match expS w with|some r=>(false,sr s r)|none=>(i,sr s w))):Option (LX (Bool×za) (Bool×za))):=by
  simp only[bg hs hw,Aa,zDx];have e4:((zu (!(atS w 0==101)) (some (pk w 0)) (default:Int)).bind fun y10=>(some (bif atS w 0==101 then true else y10==69):Option Bool))=some (atS w 0==101||atS w 0==69):=by
   cases h:atS w 0==101 with
   |true=>rfl
   |false=>simp only[Cc,Zx,Aa,Ha,zEi,Ld]
  have e5: ∀(f:Bool->Option (LX (Bool×za) (Bool×za))),((zu (!(atS w 0==101)) (some (pk w 0)) (default:Int)).bind fun y10=>f (bif atS w 0==101 then true else y10==69))=f (atS w 0==101||atS w 0==69):=by intro f;have:=congrArg (fun o=>Option.bind o f) e4;simpa [Option.bind_assoc] using this
  refine(e5 (fun b=>bif b then _ else _)).trans ?_;unfold expS;cases h:(atS w 0==101||atS w 0==69)with
  |false=>rfl
  |true=>
   have hne:atS w 0≠0:=by intro e;rw[e]at h;revert h;decide
   simp only[Ea,yc,pu hs hw,Aa,uJ,Fu,SK];unfold unsign;have hd:atS (w.drop 1) 0=atS w 1:=by rw[Qu w 1 0]
   rw[hd];cases hg:(atS w 1==43||atS w 1==45)with
   |true=>
    have hg':Xf (atS w 1)=true:=hg;have hl2:=Vu (KL hg');simp only[Ea,zh,zDw hs hw,Aa,Gm,hg',yc,We];rw[show atS (w.drop (1+1)) 0=atS w 2 by rw[Qu w 2 0]];cases hq:digB (atS w 2)with
    |false=>rfl
    |true=> rw[Ea,La rfl,show(2:Int)=((2:Nat):Int)from rfl,Gz hs hw (by omega),vz hs (ik hw 2)];rfl
   |false=>
    have hg':Xf (atS w 1)=false:=hg;simp only[Ha,zh,pu hs hw,Aa,Gm,hg',Nc,Ce];rw[hd];cases hq:digB (atS w 1)with
    |false=>rfl
    |true=> rw[Ea,La rfl,Ou hs hw hne,vz hs (ik hw 1)];rfl
 refine(congrArg (fun o=>zS o _) e3).trans ?_;rw[zh];cases expS w<;>rfl
def valG(n:Nat)(l:Str):Nat:=l.foldl decN n
theorem AB(n:Nat)(a b:Str):valG n (a++b)=valG (valG n a) b:=List.foldl_append
theorem lM{k:Nat}(h:k<10):digB (UInt8.ofNat (48+k))=true/\(UInt8.ofNat (48+k)).toNat=48+k:=by
 have:(UInt8.ofNat (48+k)).toNat=48+k:=by rw[UInt8.toNat_ofNat'];omega
 refine⟨?_,this⟩;unfold digB
 grind
theorem oq: ∀(u:Nat),(Lib.decDigits u).all digB=true/\valG 0 (Lib.decDigits u)=u/\Lib.decDigits u≠[]:=by
 intro u
 induction u using Nat.strongRecOn with
 |_ u e=>
  rw[Lib.decDigits];by_cases h:u<10
  ·rw[dif_pos h];obtain⟨f,d⟩:=lM h;refine⟨by grind,?_,by simp⟩;show decN 0 _=u;unfold decN;rw[d];omega
  ·rw[dif_neg h];obtain⟨a,b,c⟩:=e (u / 10) (by omega);obtain⟨f,d⟩:=lM (k:=u%10) (by omega);refine⟨by grind,?_,by simp⟩;rw[AB,b];show decN _ _=u;unfold decN;rw[d];omega
theorem vB: ∀(q t:Str),q.all digB=true->past digB (q++t)=past digB t
 |[],t,_=>rfl
 |c::q,t,h=>by rw[Jd,Ca]at h;rw[ma,past,La h.1,vB q t h.2]
def d48(k:Nat):UInt8:=UInt8.ofNat (48+k)
def Ci(r:Nat):Str:=Lib.trimRightB [d48 (r / 100),d48 (r / 10%10),d48 (r%10)] 48
theorem uX{r:Nat}(h:r<1000):Lib.decDigits (1000+r)=49::[d48 (r / 100),d48 (r / 10%10),d48 (r%10)]:=by rw[Lib.decDigits,dif_neg (by omega),Lib.decDigits,dif_neg (by omega),Lib.decDigits,dif_neg (by omega),Lib.decDigits,dif_pos (by omega)];rw[show(1000+r) / 10 / 10 / 10=1 by omega,show(1000+r) / 10 / 10%10=r / 100 by omega,show(1000+r) / 10%10=r / 10%10 by omega,show(1000+r)%10=r%10 by omega];rfl
def Vz(r:Nat):Bool:=(Ci r).all digB&&decide ((Ci r).length<=3)&&decide (valG 0 (Ci r)*10 ^ (3 - (Ci r).length)=r)&&((Ci r).isEmpty==(r==0))&& !((Ci r).getLast? ==some 48)
theorem XG: ∀r,r<1000->Vz r=true:=by decide+kernel
def Jl(r:Nat)(p:Bool):Str:=bif (Ci r).isEmpty then(bif p then [46,48]else [])else 46::Ci r
def Ig(m:Nat)(p:Bool):Str:=Lib.decDigits (m / 1000)++Jl (m%1000) p
def numT(n:Int)(p:Bool):Str:=(if n<0 then [45]else [])++Ig n.natAbs p
theorem dH{u:Nat}(h:u<18446744073709551616):(Lib.decDigits u).length<=20:=by
 rw[Lib.decDigits_length];by_cases h1:u=0
 ·subst h1;rw[Lib.nDigits_small (by omega)];omega
 ·have:=Lib.numDigits_eq u (by omega) h;split at this<;>omega
theorem zAb{r:Nat}(h:r<1000)(p:Bool):(Jl r p).length<=4:=by
 have:=XG r h;simp only[Vz,Ca,jb]at this;unfold Jl
 grind
theorem cB{m:Nat}(h:m<=1000000000000)(p:Bool):(Ig m p).length<=24:=by unfold Ig;rw[Ia];have:=dH (u:=m / 1000) (by omega);have:=zAb (r:=m%1000) (by omega) p;omega
theorem Nk{n m b:Nat}(h:n+m<=100000)(a:b<=100):zX n m b=true:=by unfold zX;refine Ma ?_;have:=Nat.mul_le_mul h a;omega
theorem J3(l:Str):(l==[])=l.isEmpty:=by cases l<;>rfl
def ul(n:Nat):Nat:=if 65<=n/\n<=90 then n+32 else n
def Jj(b:UInt8):UInt8:=UInt8.ofNat (ul b.toNat)
theorem BZ{n:Nat}(h:n<256):ul n<256:=by unfold ul;split<;>omega
theorem vZ(b:UInt8):(Jj b).toNat=ul b.toNat:=by unfold Jj;rw[UInt8.toNat_ofNat'];exact jf (BZ (Fb b))
theorem vY: ∀n:Nat,n<256->qC (n:Int)=some ((ul n:Nat):Int):=by decide+kernel
theorem zDi: ∀n:Nat,n<256->(bif decide (65<=(n:Int))then decide ((n:Int)<=90)else false)=true->Zq (ibOr IntKind.u8 (n:Int) 32)=some (UInt8.ofNat (ul n)):=by decide+kernel
def lowS(l:Str):Str:=l.map Jj
theorem lG{α:Type}{l:List α}{i:Nat}(h:i<l.length)(f:α->α):((l.take i).map f++l.drop i).set i (f l[i])=(l.take (i+1)).map f++l.drop (i+1):=by
 apply List.ext_getElem
 ·simp;omega
 grind
theorem bL{α:Type}{l:List α}{i:Nat}(h:i<l.length)(f:α->α):((l.take i).map f++l.drop i)[i]? =some l[i]:=by
 grind
theorem UF{α:Type}{l:List α}{i:Nat}(h:i<=l.length)(f:α->α):((l.take i).map f++l.drop i).length=l.length:=by simp;omega
theorem MW{α:Type}{l:List α}{i:Nat}(h:i<l.length)(f:α->α)(e:f l[i]=l[i]):(l.take i).map f++l.drop i=(l.take (i+1)).map f++l.drop (i+1):=by
 rw[<-lG h f,e];apply Yh
 grind
theorem EF(i:Nat):decide ((0:Int)<=(i:Int))=true:=Ma (by omega)
theorem FP{l:Str}(h:l.length<=big):Q4 l=some (lowS l):=by
 unfold Q4;rw[zy (Ma (by unfold big at h;unfold maxLen;omega))];have d: ∀(k i:Nat),i+k=l.length-> ∃n,Qn (X:=List UInt8) (R:=Str) (fun(a:Int×List UInt8)=>
   bif decide (a.1<(a.2.length:Int))then
    need (decide (0<=a.1)&&decide (a.1<(a.2.length:Int)))<|
    ze a.2[a.1.toNat]? fun f=>
    ze (qC (f.toNat:Int)) fun g=>
    need (decide (0<=a.1)&&decide (a.1<(a.2.length:Int)))<|
    ze a.2[a.1.toNat]? fun p=>
    ze (Zq g) fun m=>
    some (LO.again (w64 (a.1+1),List.set a.2 a.1.toNat m))
   else
    some (LO.out a.2)) n ((i:Int),(l.take i).map Jj++l.drop i)=some (.out (lowS l)):=by
  intro k
  induction k with
  |zero=>
   intro i e;have e:i=l.length:=by omega
   subst e;refine⟨1,?_⟩;simp only[Qn,UF (Ya _),dL,Ha];simp[lowS]
  |succ k o=>
   intro i e;have b:i<l.length:=by omega
   obtain⟨n,c⟩:=o (i+1) (by omega);refine⟨n+1,?_⟩;have j:=Fb l[i];simp only[Qn,UF (Nat.le_of_lt b),Lj b,Ea,EF,Jc,qA,Ic,bL b,ze,Aa,vY _ j];rw[<-vZ,zyI,qZ b h];simp only[Aa,lG b];exact c
 obtain⟨n,c⟩:=d l.length 0 (by omega);replace c:=Om c;simp only[ug,Oc,Mc,Cf]at c;exact(Ao c).trans rfl
theorem xP{l:Str}(h:l.length<=big):Jt l=some (lowS l):=by
 unfold Jt;rw[zy (Ma (by unfold big at h;unfold maxLen;omega))];have d: ∀(k i:Nat),i+k=l.length-> ∃n,Qn (X:=List UInt8) (R:=Str) (fun(a:Int×List UInt8)=>
   bif decide (a.1<(l.length:Int))then
    zS (X:=Int×List UInt8) (
      need (decide (0<=a.1)&&decide (a.1<(a.2.length:Int)))<|
      ze a.2[a.1.toNat]? fun j=>
      bif bif decide (65<=(j.toNat:Int))then decide ((j.toNat:Int)<=90)else false then
       need (decide (0<=a.1)&&decide (a.1<(a.2.length:Int)))<|
       ze a.2[a.1.toNat]? fun o=>
       need (decide (0<=a.1)&&decide (a.1<(a.2.length:Int)))<|
       ze a.2[a.1.toNat]? fun t=>
       ze (Zq (ibOr IntKind.u8 (o.toNat:Int) 32)) fun q=>
       some (LX.out (a.1,List.set a.2 a.1.toNat q))
      else
       some (LX.out (a.1,a.2))) fun m=>
    some (LO.again (w64 (m.1+1),m.2))
   else
    some (LO.out a.2)) n ((i:Int),(l.take i).map Jj++l.drop i)=some (.out (lowS l)):=by
  intro k
  induction k with
  |zero=>
   intro i f;have f:i=l.length:=by omega
   subst f;refine⟨1,?_⟩;simp only[Qn,dL,Ha];simp[lowS]
  |succ k r=>
   intro i f;have b:i<l.length:=by omega
   obtain⟨n,c⟩:=r (i+1) (by omega);refine⟨n+1,?_⟩;have p:=Fb l[i];simp only[Qn,UF (Nat.le_of_lt b),Lj b,Ea,EF,Jc,qA,Ic,bL b,ze,Aa];cases g:(bif decide (65<=(l[i].toNat:Int))then decide ((l[i].toNat:Int)<=90)else false)with
   |true=> have e:=zDi _ p g;simp only[e,Ea,Aa,zh,qZ b h];rw[show UInt8.ofNat (ul l[i].toNat)=Jj l[i]from rfl,lG b];exact c
   |false=>
    have e:Jj l[i]=l[i]:=by unfold Jj ul;rw[Ga,Ud];rintro⟨s,u⟩;rw[Ma (by omega),Ea,Ma (by omega)]at g;cases g
    simp only[Ha,zh,qZ b h];rw[MW b Jj e];exact c
 obtain⟨n,c⟩:=d l.length 0 (by omega);replace c:=Om c;simp only[ug,Oc,Mc,Cf]at c;exact(Ao c).trans rfl
def Zm(l:Str):Bool:=l.all fun b=> !(b==0)
theorem YF(c:UInt8): ∀l:Str,decide (Lib.indexByte l c>=0)=l.any fun b=>b==c
 |[]=>rfl
 |b::l=>by
  have d:=YF c l;have a:=Lib.indexByte_ge l c;rw[List.any_cons,Lib.indexByte]
  grind
theorem zBY(l:Str):(l.any fun b=>b==0)= !Zm l:=by
 unfold Zm
 grind
theorem aD(l:Str)(n:Int):strings_IndexByte (l,n)=some (Lib.indexByte l n.toNat.toUInt8):=rfl
theorem zBL(l:Str):decide (Lib.indexByte l (0:Int).toNat.toUInt8>=0)= !Zm l:=(YF 0 l).trans (zBY l)
theorem zDd(n m:Nat):decide ((n:Int)>(m:Int))= !decide (n<=m):=by
 grind
theorem byte_zero(b:UInt8):((b.toNat:Int)==0)=(b==0):=by
 by_cases h:b=0
 ·subst h;rfl
 ·have a:b.toNat≠0:=fun e=>h (Re.1 e)
  grind
theorem Xt(l m:Str):strings_HasPrefix (l,m)=some (m.isPrefixOf l):=by
 have a: ∀m l:Str,m.isPrefixOf l=(decide (m.length<=l.length)&&l.take m.length==m):=by
  intro m l;rw[Bool.eq_iff_iff];simp only[vg,Ca,jb,Rb];constructor
  ·rintro⟨t,rfl⟩
   grind
  ·grind
 unfold strings_HasPrefix stringslite_HasPrefix;simp_all
theorem U9(l m:Str):strings_TrimPrefix (l,m)=some (bif m.isPrefixOf l then l.drop m.length else l):=by
 have h:stringslite_HasPrefix (l,m)=some (m.isPrefixOf l):=by
  have:=Xt l m;unfold strings_HasPrefix at this;cases hh:stringslite_HasPrefix (l,m)with
  |none=>grind
  |some b=>grind
 unfold strings_TrimPrefix stringslite_TrimPrefix;simp only[h,ze,Aa];cases hp:m.isPrefixOf l with
 |false=>rfl
 |true=> have hl:=(vg.1 hp).length_le;simp_all
theorem FI{a b:Str}(c:a.length<=big)(h2:b.length<=big):mo (a,b)=some (lowS a==lowS b):=by unfold mo;simp only[xP c,xP h2,ze,Aa]
theorem wY{a b:Str}(c:a.length<=big)(h2:b.length<=big):qB (a,b)=some (lowS a==lowS b):=by unfold qB;simp only[FP c,FP h2,ze,Aa]
def Vh(n:Nat):Bool:=
 !(n==0||n==9||n==10||n==12||n==13||n==32||n==34||n==39||n==40||n==41||n==44||n==58||n==59||n==91||n==93||n==95||n==123||n==125)&&
  (decide (n<128)&& !((decide (48<=n)&&decide (n<=57))||(decide (65<=n)&&decide (n<=90))||(decide (97<=n)&&decide (n<=122))))
set_option maxRecDepth 100000 in
theorem zBq: ∀n:Nat,n<256->KJ 40 (n:Int)=some (Vh n):=by decide+kernel
def jA:Prop:= ∀b:UInt8,qE (b.toNat:Int)=some (Vh b.toNat)
theorem zmO:jA:=fun b=>
 zmy 40 _ _ (zBq _ (Fb b))
def digN(n:Nat):Bool:=decide (48<=n)&&decide (n<=57)
theorem V7: ∀n:Nat,n<256->zT (n:Int)=some (digN n):=by decide+kernel
theorem IP(b:UInt8):zT (b.toNat:Int)=some (digN b.toNat):=(V7 _ (Fb b))
theorem G9: ∀n:Nat,n<256->qw (n:Int)=some (digN n):=by decide+kernel
theorem yS(b:UInt8):qw (b.toNat:Int)=some (digN b.toNat):=(G9 _ (Fb b))
def namN(n:Nat):Bool:=digN n||(decide (65<=n)&&decide (n<=90))||(decide (97<=n)&&decide (n<=122))||n==95||n==45||decide (128<=n)
theorem E9: ∀n:Nat,n<256->Wm (n:Int)=some (namN n):=by decide+kernel
theorem xS(b:UInt8):Wm (b.toNat:Int)=some (namN b.toNat):=(E9 _ (Fb b))
def Dj:Str->Bool
 |[]=>false
 |b::r=>digN b.toNat||(b==45&&(r==[]||digN (r.headD 0).toNat))
theorem aA(b c:UInt8):((b.toNat:Int)==(c.toNat:Int))=(b==c):=by
 by_cases h:b=c
 ·subst h;simp
 ·have a:b.toNat≠c.toNat:=fun e=>h (Re.1 e)
  grind
theorem zBe(b:UInt8):((b.toNat:Int)==45)=(b==45):=aA b 45
theorem zoY(l:Str):yx l=some (Dj l):=by
 unfold yx;cases l with
 |nil=>rfl
 |cons b r=>
  have f:geti (b::r) 0=some b:=rfl;have g:(b::r==([]:Str))=false:=rfl;simp only[g,Ha,f,ze,Aa,IP,Hl,zBe];cases r with
  |nil=>
   have e:(([b]:Str)==[45])=(b==45):=by show((b==45)&&true)=_;rw[Jc]
   simp only[e];unfold Dj;cases c:(b==45)with
   |false=>cases h:digN b.toNat<;>simp[c,zu,h]
   |true=>simp_all
  |cons d r=>
   have a:geti (b::d::r) 1=some d:=rfl;have e:((b::d::r:Str)==[45])=false:=by show((b==45)&&false)=_;rw[Df]
   simp only[a,e,Hl,Aa,IP,Dj,List.headD_cons]
   grind
def numS:Str->Bool
 |[]=>false
 |b::r=>bif b==45 then !(r==[])&&digN (r.headD 0).toNat else digN b.toNat
theorem yT(l:Str):QW l=some (numS l):=by
 unfold QW;simp only[U9,ze,Aa];have a: ∀m:Str,((zu (!(m==[])) (geti m 0) 0).bind fun c=>(zu (!(m==[])) (qw (c.toNat:Int)) (default:Bool)).bind fun d=>some (bif !(m==[])then d else false))=some (!(m==[])&&digN (m.headD 0).toNat):=by
  intro m;cases m with
  |nil=>rfl
  |cons b r=> have f:geti (b::r) 0=some b:=rfl;have g:(b::r==([]:Str))=false:=rfl;simp only[g,Cc,Zx,f,Aa,yS,Ea,List.headD_cons,Sb]
 rw[a];cases l with
 |nil=>rfl
 |cons b r=>
  have e:List.isPrefixOf [45] (b::r)=(b==45):=by
   show((45==b)&&true)=_;rw[Jc];cases h:(b==45)with
   |true=>grind
   |false=>grind
  rw[e];show _=some (bif b==45 then !(r==[])&&digN (r.headD 0).toNat else digN b.toNat)
  grind
theorem GX(l:Str):((numS l&& !(List.isPrefixOf [45,45] l))||l==[45])=Dj l:=by
 cases l with
 |nil=>rfl
 |cons b r=>
  cases a:(b==45)with
  |false=>
   have e:List.isPrefixOf [45,45] (b::r)=false:=by show((45==b)&&_)=_;rw[Fa]at a;rw[Fa.2 (Ne.symm a)];rfl
   have c:((b::r:Str)==[45])=false:=by show((b==45)&&_)=_;rw[a];rfl
   rw[e,c];unfold numS Dj;simp[a]
  |true=>
   rw[Rb]at a;subst a;cases r with
   |nil=>rfl
   |cons d r=>
    have c:((45::d::r:Str)==[45])=false:=rfl;rw[c];unfold numS Dj;have e:List.isPrefixOf [45,45] (45::d::r)=(45==d):=by show((45==(45:UInt8))&&((45==d)&&true))=_;rw[Jc];rfl
    rw[e];simp only[List.headD_cons];have f:digN 45=false:=by decide
    cases h:(45==d)with
    |false=>simp[f]
    |true=>rw[Rb]at h;subst h;rfl
def delS(l:Str):Bool:=match l with
 |[b]=>Vh b.toNat
 |_=>false
def rngS(x:zb):Bool:=decide (-1000000000000<=x.num)&&(decide (x.num<=1000000000000)&&(!x.flag||Int.tmod x.num 1000==0))
def Gg(x:zb):Bool:=
 bif x.kind==1||x.kind==2||x.kind==3 then !(x.text==[])&&(Zm x.text&&(x.num==0&&(x.unit==[]&& !x.flag)))
 else bif x.kind==4 then !(x.text==[])&&(Zm x.text&&((x.flag||Dj x.text)&&(x.num==0&&x.unit==[])))
 else bif x.kind==5||x.kind==7 then Zm x.text&&(x.num==0&&(x.unit==[]&& !x.flag))
 else bif x.kind==9 then delS x.text&&(x.num==0&&(x.unit==[]&& !x.flag))
 else bif x.kind==10||x.kind==11||x.kind==12 then rngS x&&((!(x.unit==[])==(x.kind==12))&&(Zm x.unit&&((!(x.kind==11)|| !x.flag)&&x.text==[])))
 else(decide (13<=x.kind)&&decide (x.kind<=24))&&(x.text==[]&&(x.num==0&&(x.unit==[]&& !x.flag)))
theorem jT{l:Str}(h:l.length<=big):Q8 l=some (Zm l):=by
 unfold Q8;refine(FQ l (fun b=>bif (!(b==0))then none else some false) () (fun i a=> ?_) ?_).trans ?_
 ·simp only[Lj a,Ea,QV a,ze,Aa,byte_zero,qZ a h]
  grind
 ·grind
 ·rw[YG];show _=some (Zm l);unfold Zm
  grind
theorem one_byte(l:Str)(p:Nat->Bool)(d:Bool)(f:Int->Option Bool)(hf: ∀b:UInt8,f (b.toNat:Int)=some (p b.toNat))(g:Bool):
  ((zu (g&&(l.length:Int)==1) (geti l 0) (0:UInt8)).bind fun y=>zu (g&&(l.length:Int)==1) (f (y.toNat:Int)) d)=some (bif g&&(l.length:Int)==1 then(match l with|[b]=>p b.toNat|_=>false)else d):=by
 cases g with
 |false=>rfl
 |true=>
  cases l with
  |nil=>rfl
  |cons b r=>
   cases r with
   |nil=> show((geti [b] 0).bind fun y=>f (y.toNat:Int))=some (p b.toNat);rw[show geti [b] 0=some b from rfl];exact hf b
   |cons c r=> have:(((b::c::r).length:Int)==1)=false:=Fa.2 (by grind);rw[this];rfl
theorem X4(a:jA)(l:Str)(g:Bool):((zu (g&&(l.length:Int)==1) (geti l 0) (0:UInt8)).bind fun y=>zu (g&&(l.length:Int)==1) (qE (y.toNat:Int)) (default:Bool))=some (bif g&&(l.length:Int)==1 then delS l else default):=
 one_byte l Vh default qE a g
theorem nX(l:Str):(((l.length:Int)==1)&&delS l)=delS l:=by
 cases l with
 |nil=>rfl
 |cons b r=>
  cases r with
  |nil=>rfl
  |cons c r=> have:(((b::c::r).length:Int)==1)=false:=Fa.2 (by grind);rw[this];rfl
theorem zoZ(C:jA){x:zb}(v:x.text.length<=big)(h2:x.unit.length<=big):dx x=some (Gg x):=by
 have n:=X4 C x.text true;simp only[Sb]at n;have q:((zu ((x.text.length:Int)==1) (geti x.text 0) (0:UInt8)).bind fun o=>(zu ((x.text.length:Int)==1) (qE (o.toNat:Int)) (default:Bool)).bind fun D=>some (bif bif (x.text.length:Int)==1 then D else false then x.kind==x.kind&&(([]:Str)==[]&&(x.num==0&&(x.unit==[]&&(x.flag==false&&true))))else false))=some (delS x.text&&(x.num==0&&(x.unit==[]&& !x.flag))):=by
  have e: ∀(k:Bool->Option Bool),((zu ((x.text.length:Int)==1) (geti x.text 0) (0:UInt8)).bind fun o=>(zu ((x.text.length:Int)==1) (qE (o.toNat:Int)) (default:Bool)).bind k)=(((zu ((x.text.length:Int)==1) (geti x.text 0) (0:UInt8)).bind fun y=>zu ((x.text.length:Int)==1) (qE (y.toNat:Int)) (default:Bool))).bind k:=by intro k;rw[Option.bind_assoc]
  rw[e,n,Aa,<-nX x.text];simp only[beq_self_eq_true];cases (x.text.length:Int)==1<;>cases delS x.text<;>cases x.flag<;>rfl
 unfold dx;simp only[ze,jT v,jT h2,zoY,Hl,Aa,ge_iff_le];unfold Gg rngS;by_cases B:x.kind=9
 ·simp_all
 clear n q;have E:=Fa.2 B;generalize delS x.text=J;generalize Zm x.text=p;generalize Zm x.unit=M;generalize Dj x.text=H;generalize c:(x.text==[])=i;generalize d:(x.unit==[])=j;generalize a:(x.num==0)=m;generalize b:x.flag=l;generalize decide (-1000000000000<=x.num)=N;generalize decide (x.num<=1000000000000)=L;generalize (Int.tmod x.num 1000==0)=z;by_cases r:x.kind=1
 ·simp only[r,zh,Ea,Ha,c,d,a,b,Int.reduceBEq];cases p<;>cases i<;>cases j<;>cases m<;>cases l<;>rfl
 by_cases s:x.kind=2
 ·simp only[s,zh,Ea,Ha,c,d,a,b,Int.reduceBEq];cases p<;>cases i<;>cases j<;>cases m<;>cases l<;>rfl
 by_cases t:x.kind=3
 ·simp only[t,zh,Ea,Ha,c,d,a,b,Int.reduceBEq];cases p<;>cases i<;>cases j<;>cases m<;>cases l<;>rfl
 by_cases u:x.kind=4
 ·simp only[u,zh,Ea,Ha,c,d,a,b,Int.reduceBEq]
  grind
 by_cases G:x.kind=5
 ·simp_all
 by_cases F:x.kind=7
 ·simp_all
 by_cases g:x.kind=10
 ·simp only[g,zh,Ea,Ha,c,d,a,b,Int.reduceBEq]
  grind
 by_cases h:x.kind=11
 ·simp only[h,zh,Ea,Ha,c,d,a,b,Int.reduceBEq]
  grind
 by_cases f:x.kind=12
 ·simp only[f,zh,Ea,Ha,c,d,a,b,Int.reduceBEq]
  grind
 simp only[E,Fa.2 r,Fa.2 s,Fa.2 t,Fa.2 u,Fa.2 G,Fa.2 F,Fa.2 g,Fa.2 h,Fa.2 f,zh,Ea,Ha,c,d,a,b,beq_self_eq_true,Bool.or_self];by_cases w:x.kind=6
 ·simp_all
 by_cases A:x.kind=8
 ·simp_all
 simp only[Fa.2 w,Fa.2 A,zh,Ea,Ha];have e:(decide (1<=x.kind)&&decide (x.kind<=24))=(decide (13<=x.kind)&&decide (x.kind<=24)):=by
  by_cases K:13<=x.kind
  ·grind
  ·grind
 rw[<-e];cases decide (1<=x.kind)<;>cases decide (x.kind<=24)<;>cases i<;>cases j<;>cases m<;>cases l<;>rfl
abbrev gu:Str:=[32,9,10,12,13,34,39,58,59,44,91,93,40,41,123,125]
theorem rC: ∀(m:Str) (c:UInt8),Lib.index m [c]=Lib.indexByte m c
 |[],c=>rfl
 |b::l,c=>by
  have h:List.isPrefixOf [c] (b::l)=(b==c):=by
   show(c==b&&List.isPrefixOf [] l)=_;rw[List.isPrefixOf,Jc];by_cases e:b=c
   ·subst e;rfl
   ·grind
  rw[Lib.index,Lib.indexByte,h,rC l c]
theorem contains_one(m:Str)(c:UInt8)(a:short m=true:=by decide):strings_Contains (m,[c])=some (m.any fun b=>b==c):=by unfold strings_Contains;simp only[Xk,a,qA,ze,Aa,rC,YF]
theorem zmo(c:UInt8):strings_Contains ([32,9,10,12,13,34,39,58,59,44,91,93,40,41,123,125],[c])=some (gu.any fun b=>b==c):=contains_one gu c
theorem Y4: ∀n:Nat,n<256->((bif bif !(UInt8.ofNat n==0)then !namN n else false then true else UInt8.ofNat n==45)&&(!(gu.any fun b=>b==UInt8.ofNat n)))=Vh n:=by decide+kernel
theorem mX(b:UInt8):((bif bif !(b==0)then !namN b.toNat else false then true else b==45)&&(!(gu.any fun c=>c==b)))=Vh b.toNat:=by have:=Y4 b.toNat (Fb b);simp_all
theorem P9(a b:Str):Zm (a++b)=(Zm a&&Zm b):=by unfold Zm;grind
theorem zBV(n:Int):decide (n<0)= !decide (n>=0):=by
 grind
theorem Gv: ∀(l:Str) (n:Nat),valG n l=n*10 ^ l.length+valG 0 l
 |[],n=>by simp[valG]
 |c::l,n=>by
  show valG (decN n c) l=n*10 ^ (l.length+1)+valG (decN 0 c) l;rw[Gv l (decN n c),Gv l (decN 0 c),Nat.pow_succ];unfold decN
  grind
theorem gX(l:Str)(i:Nat):valG 0 (l.take i)<=valG 0 l:=by
 have h:valG 0 l=valG (valG 0 (l.take i)) (l.drop i):=by rw[<-AB,df]
 rw[h,Gv (l.drop i)];have:=De (valG 0 (l.take i)) (Jg (n:=(l.drop i).length) (show 0<10 by omega));omega
theorem Ns{b:UInt8}(h:digB b=true):48<=b.toNat/\b.toNat<=57:=by unfold digB at h;simpa using h
theorem RX {R:Type} {step:Int×Int->Option (LO (Int×Int) Int R)} {l:Str} (b:l.all digB=true) (g:l.length<=100000) (j:valG 0 l<=1000000000000)
  (a: ∀(v:Int) (i:Nat) (hi:i<l.length),step (v,(i:Int))=some (.again (if 1000000000000<w64 (w64 (10*v)+w64 (wu8 ((l[i].toNat:Int) - 48)))then 1000000000000 else w64 (w64 (10*v)+w64 (wu8 ((l[i].toNat:Int) - 48))),w64 ((i:Int)+1))))
  (h2: ∀v:Int,step (v,(l.length:Int))=some (.out v)):Tg step (0,0)=some (.out ((valG 0 l:Nat):Int)):=by
 refine Qf (fun s=> ∃i:Nat,i<=l.length/\s=(((valG 0 (l.take i):Nat):Int),(i:Int))) (fun s=>l.length - s.2.toNat) _ ?_ ⟨0,by omega,rfl⟩;rintro _ ⟨i,hi,rfl⟩;rcases Lc i l.length with h|h
 ·refine .inl ⟨_,a _ i h,⟨i+1,by omega,?_⟩,by simp only;rw[zW (by omega) (by omega)];omega⟩;have e:=Ns (Ta.1 b _ (Sd h));have d:valG 0 (l.take (i+1))=decN (valG 0 (l.take i)) l[i]:=by rw[ve h,AB];rfl
  have f:=gX l (i+1);have c:wu8 ((l[i].toNat:Int) - 48)=((l[i].toNat - 48:Nat):Int):=by show IntKind.u8.wrap _=_;rw[IntKind.wrap_u8];omega
  unfold decN at d;rw[c,zW (n:=10*_) (by omega) (by omega),zW (n:=((l[i].toNat - 48:Nat):Int)) (by omega) (by omega),zW (n:=(i:Int)+1) (by omega) (by omega),zW (by omega) (by omega),Ga (by omega)];refine Prod.ext ?_ ?_
  ·grind
  ·grind
 grind
theorem nZ {R:Type} {step:Int×Int->Option (LO (Int×Int) Int R)} {v p:Nat} (g:p<=100) (i:v*10 ^ p<=1000000000000)
  (h: ∀(a b:Int),step (a,b)=bif bif bif decide (a>0)then decide (b>0)else false then decide (b<1000000000000)else false then some (.again (w64 (a - 1),if 1000000000000<w64 (10*b)then 1000000000000 else w64 (10*b)))else some (.out b)):
  Tg step ((p:Int),(v:Int))=some (.out ((v*10 ^ p:Nat):Int)):=by
 refine Qf (fun s=> ∃a b:Nat,s=((a:Int),(b:Int))/\a<=100/\b*10 ^ a=v*10 ^ p) (fun s=>s.1.toNat) _ ?_ ⟨p,v,rfl,g,rfl⟩;rintro _ ⟨a,b,rfl,j,d⟩;rw[h];cases a with
 |zero=>
  grind
 |succ a=>
  rw[Ma (show((a+1:Nat):Int)>0 by omega),Ea];rw[Nat.pow_succ,<-Nat.mul_assoc]at d;have c:0<10 ^ a:=Jg (by omega);cases Nat.eq_zero_or_pos b with
  |inl e=> subst e;refine .inr (.inl ⟨0,rfl,?_⟩);rw[<-d];simp
  |inr e=>
   rw[Ma (show((b:Nat):Int)>0 by omega),Ea];have f:b<=b*10 ^ a:=De b c;rw[Ma (show((b:Nat):Int)<1000000000000 by omega),Ea];refine .inl ⟨_,rfl,⟨a,10*b,?_,by omega,?_⟩,by simp only;rw[zW (by omega) (by omega)];omega⟩
   ·rw[zW (by omega) (by omega),zW (by omega) (by omega),Ga (by omega)];refine Prod.ext ?_ ?_
    ·show((a+1:Nat):Int) - 1=(a:Int);omega
    ·show 10*(b:Int)=((10*b:Nat):Int);omega
   ·rw[<-d,Nat.mul_comm 10 b,Nat.mul_assoc,Nat.mul_assoc,Nat.mul_comm 10 (10 ^ a)]
theorem aF: ∀(q:Str),q.all digB=true->Lib.indexByte q 46= -1
 |[],_=>rfl
 |c::q,h=>by
  rw[Jd,Ca]at h;have a:=Ns h.1;have b:(c==46)=false:=by refine Fa.2 (fun e=> ?_);subst e;revert a;decide
  rw[Lib.indexByte,b,aF q h.2];rfl
theorem bF: ∀(q g:Str),q.all digB=true->Lib.indexByte (q++46::g) 46=(q.length:Int)
 |[],g,_=>by rw[Mc,Lib.indexByte];rfl
 |c::q,g,h=>by
  rw[Jd,Ca]at h;have hd:=Ns h.1;have hc:(c==46)=false:=by refine Fa.2 (fun e=> ?_);subst e;revert hd;decide
  rw[ma,Lib.indexByte,hc,bF q g h.2];have:((q.length:Int)== -1)=false:=Fa.2 (by omega);rw[this,Sa];simp
theorem vF: ∀(l:Str),(l.all fun b=>digB b||b==46)=true->Lib.indexAny l [101,69]= -1
 |[],_=>rfl
 |c::l,h=>by
  rw[Jd,Ca]at h;have hc:List.contains [101,69] c=false:=by
   have: ∀n:Nat,n<256->(digB (UInt8.ofNat n)||UInt8.ofNat n==46)=true->List.contains [101,69] (UInt8.ofNat n)=false:=by decide+kernel
   have:=this c.toNat (Fb c);rw[Ud]at this;exact this h.1
  rw[Lib.indexAny,hc,vF l h.2];rfl
end Go.Lv.VT
