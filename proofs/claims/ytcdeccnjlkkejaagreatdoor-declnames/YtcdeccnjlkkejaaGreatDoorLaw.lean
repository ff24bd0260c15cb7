/- The reading of tokens: what the program's text and the reference's come to. -/
import Derived.Test.YtcdeccnjlkkejaaGreatDoorTy
import Derived.Test.YtcdeccnjlkkejaaGreatDoorMo
import Derived.Test.YtcdeccnjlkkejaaGreatDoorTx
set_option linter.unusedSimpArgs false
set_option linter.unusedVariables false
namespace Go.Lv.VT
def atS(l:Str)(n:Nat):UInt8:=l.getD n 0
def digB(b:UInt8):Bool:=decide (48<=b.toNat)&&decide (b.toNat<=57)
def spB(b:UInt8):Bool:=b==10||b==9||b==32
def alB(b:UInt8):Bool:=decide (65<=b.toNat)&&decide (b.toNat<=90)||decide (97<=b.toNat)&&decide (b.toNat<=122)
def fstB(b:UInt8):Bool:=alB b||b==95||decide (128<=b.toNat)
def letB(b:UInt8):Bool:=fstB b||digB b||b==45
def hexN(b:UInt8):Nat:=
 if digB b then b.toNat - 48 else if 97<=b.toNat/\b.toNat<=102 then b.toNat - 87 else if 65<=b.toNat/\b.toNat<=70 then b.toNat - 55 else 16
def qY(b:UInt8):Bool:=decide (hexN b<16)
def escS(l:Str):Bool:=atS l 0==92&& !(atS l 1==10)
def nmS(l:Str):Bool:=if atS l 0==45 then fstB (atS l 1)||atS l 1==45||escS (l.drop 1)else fstB (atS l 0)||escS l
def Jf(b:UInt8):Bool:=b==43||b==45
def unsign(l:Str):Str:=if Jf (atS l 0)then l.drop 1 else l
def undot(l:Str):Str:=if atS l 0==46 then l.drop 1 else l
def nbS(l:Str):Bool:=digB (atS (undot (unsign l)) 0)
def Rj:Str:=[239,191,189]
def Cg(n:Nat):Str:=
 if n=0\/(55296<=n/\n<=57343)\/1114111<n then Rj
 else if n<128 then [UInt8.ofNat n]
 else if n<2048 then [UInt8.ofNat (192+n / 64),UInt8.ofNat (128+n%64)]
 else if n<65536 then [UInt8.ofNat (224+n / 4096),UInt8.ofNat (128+n / 64%64),UInt8.ofNat (128+n%64)]
 else [UInt8.ofNat (240+n / 262144),UInt8.ofNat (128+n / 4096%64),UInt8.ofNat (128+n / 64%64),UInt8.ofNat (128+n%64)]
def hexes:Nat->Nat->Str->Nat×Str
 |0,n,l=>(n,l)
 |_+1,n,[]=>(n,[])
 |k+1,n,c::r=>if qY c then hexes k (16*n+hexN c) r else(n,c::r)
def unsp:Str->Str
 |[]=>[]
 |c::r=>if spB c then r else c::r
def zo:Str->Str×Str
 |[]=>(Rj,[])
 |c::r=>if qY c then(Cg (hexes 6 0 (c::r)).1,unsp (hexes 6 0 (c::r)).2)else([c],r)
theorem Et: ∀(k n:Nat) (l:Str),(hexes k n l).2<:+l
 |0,n,l=>Oe l
 |k+1,n,[]=>Oe _
 |k+1,n,c::r=>by
  unfold hexes;split
  ·exact(Et k _ r).trans (Td c r)
  grind
theorem GJ(l:Str):unsp l<:+l:=by
 cases l with
 |nil=>exact Oe _
 |cons c r=>
  show(if spB c then r else c::r)<:+c::r
  grind
theorem Z0(l:Str):(zo l).2<:+l:=by
 cases l with
 |nil=>exact Oe _
 |cons c r=>
  show(if qY c then(Cg (hexes 6 0 (c::r)).1,unsp (hexes 6 0 (c::r)).2)else([c],r)).2<:+c::r;split
  ·exact(GJ _).trans (Et 6 0 _)
  grind
theorem zX(l:Str):(zo l).2.length<=l.length:=(Z0 l).length_le
def zm:Str->Str×Str
 |[]=>([],[])
 |c::r=>
  if letB c then((c::(zm r).1),(zm r).2)
  else if escS (c::r)then((zo r).1++(zm (zo r).2).1,(zm (zo r).2).2)
  else([],c::r)
termination_by l=>l.length
decreasing_by
 all_goals first|(have:=zX r;simp only[Ka];omega)|(simp only[Ka];omega)
def past(p:UInt8->Bool):Str->Str
 |[]=>[]
 |c::r=>if p c then past p r else c::r
theorem Pk(p:UInt8->Bool): ∀l:Str,past p l<:+l
 |[]=>Oe _
 |c::r=>by
  unfold past;split
  ·exact(Pk p r).trans (Td c r)
  grind
def Za(l:Str):Str×Bool:=
 if atS l 0==46&&digB (atS l 1)then(past digB (l.drop 1),false)else(l,true)
def expS(l:Str):Option Str:=
 if atS l 0==101||atS l 0==69 then(if digB (atS (unsign (l.drop 1)) 0)then some (past digB (unsign (l.drop 1)))else none)else none
def zI(l:Str):Str×Bool:=
 let x:=Za (past digB (unsign l))
 match expS x.1 with
 |some r=>(r,false)
 |none=>x
def decN(n:Nat)(b:UInt8):Nat:=10*n+(b.toNat - 48)
def zV(m:UInt8):Str->Option Str×Str
 |[]=>(some [],[])
 |c::r=>
  if c==m then(some [],r)
  else if c==10 then(none,c::r)
  else if c==92 then
   (if r.isEmpty then(some [],[])
   else if atS r 0==10 then zV m (r.drop 1)
   else((zV m (zo r).2).1.map ((zo r).1++ ·),(zV m (zo r).2).2))
  else((zV m r).1.map (c:: ·),(zV m r).2)
termination_by l=>l.length
decreasing_by
 all_goals first|(have:=zX r;simp only[Ka];omega)|(simp only[Ka,Pb];omega)
def badS:Str->Str
 |[]=>[]
 |c::r=>if c==41 then r else if escS (c::r)then badS (zo r).2 else badS r
termination_by l=>l.length
decreasing_by
 all_goals first|(have:=zX r;simp only[Ka];omega)|(simp only[Ka];omega)
def unB(b:UInt8):Bool:=decide (b.toNat<=8)||b==11||decide (14<=b.toNat)&&decide (b.toNat<=31)||b==127
def urlS:Str->Option Str×Str
 |[]=>(some [],[])
 |c::r=>
  if c==41 then(some [],r)
  else if spB c then(match past spB r with
   |[]=>(some [],[])
   |d::a=>if d==41 then(some [],a)else(none,badS (d::a)))
  else if c==34||c==39||c==40||unB c||c==92&& !escS (c::r)then(none,badS (c::r))
  else if c==92 then((urlS (zo r).2).1.map ((zo r).1++ ·),(urlS (zo r).2).2)
  else((urlS r).1.map (c:: ·),(urlS r).2)
termination_by l=>l.length
decreasing_by
 all_goals first|(have:=zX r;simp only[Ka];omega)|(simp only[Ka];omega)
def jf(b:UInt8):Int:=
 if b==58 then 16 else if b==59 then 17 else if b==44 then 18 else if b==91 then 19 else if b==93 then 20 else if b==40 then 21 else if b==41 then 22 else if b==123 then 23 else if b==125 then 24 else 0
def uf(k:Int):ze:=⟨k,[],0,[],false⟩
def mg:Nat:=1000000000000
def Jh:Nat->Nat->Nat
 |0,n=>n
 |k+1,n=>if n=0\/mg<=n then n else Jh k (min mg (10*n))
set_option maxRecDepth 100000
abbrev sc(s:Str)(k:Nat):za:=⟨s,(k:Int)⟩
def pk(l:Str)(n:Nat):Int:=match l[n]? with|some b=>(b.toNat:Int)|none=> -1
def beh(s r:Str):Nat:=s.length - r.length
theorem Zd{n:Int}(a: -9223372036854775808<=n)(h2:n<=9223372036854775807):w64 n=n:=Qg a h2
theorem Vo{s r:Str}(h:r<:+s):s.drop (beh s r)=r:=by obtain⟨t,rfl⟩:=h;unfold beh;simp_all
theorem ji(s r:Str):beh s r<=s.length:=by unfold beh;omega
theorem KV{s:Str}{k:Nat}(h:k<=s.length):beh s (s.drop k)=k:=by unfold beh;grind
theorem Wv{s:Str}{k n:Nat}(c:s.length<=big)(g:k<=s.length)(f:n<=8):zf ((n:Int),sc s k)=some (pk (s.drop k) n):=by
 have d:big=4194304:=rfl;have e:w64 ((k:Int)+(n:Int))=((k+n:Nat):Int):=by rw[Zd (by omega) (by omega)];omega
 unfold zf pk;simp only[e];rw[Tc];by_cases h:k+n<s.length
 ·rw[Ga (by omega),Ea];have b:geti s ((k+n:Nat):Int)=some s[k+n]:=qI h;have a:=Bb s[k+n];simp only[zg,b,Aa,Sa h];rw[Zd (by omega) (by omega)]
 ·grind
theorem Cq{s:Str}{k:Nat}(b:s.length<=big)(a:k<=s.length):zf (0,sc s k)=some (pk (s.drop k) 0):=Wv (n:=0) b a (by omega)
theorem Tz{s:Str}{k:Nat}(b:s.length<=big)(a:k<=s.length):zf (1,sc s k)=some (pk (s.drop k) 1):=Wv (n:=1) b a (by omega)
theorem G9{s:Str}{k:Nat}(b:s.length<=big)(a:k<=s.length):zf (2,sc s k)=some (pk (s.drop k) 2):=Wv (n:=2) b a (by omega)
theorem Hq{a:Type}{f:Int->Option a}{p:UInt8->a}(h: ∀b:UInt8,f (b.toNat:Int)=some (p b))(c:f (-1)=some (p 0))(l:Str)(n:Nat):f (pk l n)=some (p (atS l n)):=by
 unfold pk atS
 grind
theorem of_n{a:Type}{f:Int->Option a}{p:UInt8->a}(h: ∀n:Nat,n<256->f (n:Int)=some (p (UInt8.ofNat n)))(b:UInt8):f (b.toNat:Int)=some (p b):=by have:=h b.toNat (Bb b);simp_all
theorem Hr(l:Str)(n:Nat):Zr (pk l n)=some (spB (atS l n)):=Hq (of_n (by decide+kernel)) (by decide+kernel) l n
theorem Ik(l:Str)(n:Nat):Zg (pk l n)=some (digB (atS l n)):=Hq (of_n (by decide+kernel)) (by decide+kernel) l n
theorem jQ(l:Str)(n:Nat):Tm (pk l n)=some (fstB (atS l n)):=Hq (of_n (by decide+kernel)) (by decide+kernel) l n
theorem NJ(l:Str)(n:Nat):Qk (pk l n)=some (letB (atS l n)):=Hq (of_n (by decide+kernel)) (by decide+kernel) l n
def hexI(b:UInt8):Int:=if qY b then(hexN b:Int)else -1
theorem Ou(l:Str)(n:Nat):Qz (pk l n)=some (hexI (atS l n)):=Hq (of_n (by decide+kernel)) (by decide+kernel) l n
theorem Ah(l:Str)(n:Nat)(c:UInt8)(h:c≠0):(pk l n==(c.toNat:Int))=(atS l n==c):=by
 unfold pk atS;rw[xe];cases l[n]? with
 |none=>
  grind
 |some b=>
  show((b.toNat:Int)==(c.toNat:Int))=(b==c);by_cases e:b=c
  ·grind
  ·have:b.toNat≠c.toNat:=fun h=>e (Pe.1 h)
   grind
theorem Pz(l:Str)(n:Nat):(pk l n==10)=(atS l n==10):=Ah l n 10 (by decide)
theorem RG(l:Str)(n:Nat):(pk l n==34)=(atS l n==34):=Ah l n 34 (by decide)
theorem F9(l:Str)(n:Nat):(pk l n==35)=(atS l n==35):=Ah l n 35 (by decide)
theorem E9(l:Str)(n:Nat):(pk l n==37)=(atS l n==37):=Ah l n 37 (by decide)
theorem PG(l:Str)(n:Nat):(pk l n==39)=(atS l n==39):=Ah l n 39 (by decide)
theorem D9(l:Str)(n:Nat):(pk l n==40)=(atS l n==40):=Ah l n 40 (by decide)
theorem Oz(l:Str)(n:Nat):(pk l n==41)=(atS l n==41):=Ah l n 41 (by decide)
theorem wy(l:Str)(n:Nat):(pk l n==43)=(atS l n==43):=Ah l n 43 (by decide)
theorem Bq(l:Str)(n:Nat):(pk l n==45)=(atS l n==45):=Ah l n 45 (by decide)
theorem uy(l:Str)(n:Nat):(pk l n==46)=(atS l n==46):=Ah l n 46 (by decide)
theorem C9(l:Str)(n:Nat):(pk l n==64)=(atS l n==64):=Ah l n 64 (by decide)
theorem A9(l:Str)(n:Nat):(pk l n==69)=(atS l n==69):=Ah l n 69 (by decide)
theorem OG(l:Str)(n:Nat):(pk l n==92)=(atS l n==92):=Ah l n 92 (by decide)
theorem PQ(l:Str)(n:Nat):(pk l n==101)=(atS l n==101):=Ah l n 101 (by decide)
theorem Il(l:Str):(pk l 0== -1)=l.isEmpty:=by
 cases l with
 |nil=>rfl
 |cons b r=>
  show((b.toNat:Int)== -1)=false
  grind
theorem Ql(l:Str)(k n:Nat):atS (l.drop k) n=atS l (k+n):=by
 unfold atS
 grind
theorem cK {R:Type} {step:za->Option (LO za za R)} {s:Str} (p:UInt8->Bool) (h0:p 0=false)
  (h: ∀k,k<=s.length->step (sc s k)=some (bif p (atS (s.drop k) 0)then .again (sc s (k+1))else .out (sc s k))) {k:Nat} (hk:k<=s.length):
  Dg step (sc s k)=some (.out (sc s (beh s (past p (s.drop k))))):=by
 refine ZT (fun z=> ∃j,z=sc s j/\j<=s.length/\past p (s.drop j)=past p (s.drop k)) (fun z=>s.length - z.at_.toNat) _ ?_ ⟨k,rfl,hk,rfl⟩;rintro _ ⟨j,rfl,hj,he⟩;rw[h j hj];cases hd:s.drop j with
 |nil=>
  rw[show atS ([]:Str) 0=0 from rfl,h0,Da];refine .inr (.inl ⟨_,rfl,?_⟩);rw[<-he,hd];have:j=s.length:=by have:=Yd.1 hd;omega
  subst this;show LX.out (sc s (beh s []))=_;unfold beh;rw[Jb,Nat.sub_zero]
 |cons c r=>
  have hlt:j<s.length:=by
   rcases Yc j s.length with h'|h'
   ·exact h'
   ·grind
  have hr:s.drop (j+1)=r:=by have:=ma hlt;rw[hd]at this;injection this with _ h2;exact h2.symm
  rw[show atS (c::r) 0=c from rfl];cases hp:p c with
  |true=> refine .inl ⟨_,rfl,⟨j+1,rfl,by omega,?_⟩,by grind⟩;rw[hr,<-he,hd,past,hp];rfl
  |false=> refine .inr (.inl ⟨_,rfl,?_⟩);rw[<-he,hd,past,hp,Fa (by decide),<-hd,KV hj]
theorem BI{s:Str}{k:Nat}(b:s.length<=big)(a:k<=s.length):w64 ((k:Int)+1)=((k+1:Nat):Int):=by have c:big=4194304:=rfl;rw[Zd (by omega) (by omega)];omega
theorem XT{s:Str}{k:Nat}(a:s.length<=big)(c:k<=s.length):zQ (sc s k)=some (sc s (beh s (past spB (s.drop k)))):=by
 unfold zQ;rw[qD (cK spB rfl (fun j b=> ?_) c)];simp only[zg,Cq a b,Aa,Hr,BI a b]
 grind
theorem WV{s:Str}{k:Nat}(a:s.length<=big)(c:k<=s.length):zO (sc s k)=some (sc s (beh s (past digB (s.drop k)))):=by
 unfold zO;rw[qD (cK digB rfl (fun j b=> ?_) c)];simp only[zg,Cq a b,Aa,Ik,BI a b]
 grind
theorem number_eq{s:Str}{k:Nat}(a:s.length<=big)(c:k<=s.length):Zl (sc s k)=some (nbS (s.drop k)):=by
 unfold Zl nbS unsign undot Jf;simp only[zg,Cq a c,Aa,wy,Bq];have d: ∀(b:Bool),(zY (X:=Int) (bif b then some (LX.out 1)else some (LX.out 0)) fun e=>
   zY (X:=Int) ((zf (e,sc s k)).bind fun f=>bif f==46 then some (LX.out (w64 (e+1)))else some (LX.out e)) fun g=>
   (zf (g,sc s k)).bind fun i=>(Zg i).bind fun j=>some j)=some (digB (atS (if atS (if b then(s.drop k).drop 1 else s.drop k) 0==46 then(if b then(s.drop k).drop 1 else s.drop k).drop 1 else(if b then(s.drop k).drop 1 else s.drop k)) 0)):=by
  intro b;cases b with
  |false=>
   simp only[Da,zh,Cq a c,Aa,uy,Ob,Ld];cases h:atS (s.drop k) 0==46 with
   |false=>simp only[Da,zh,Cq a c,Aa,Ik,Ob,Ld]
   |true=> simp only[Ea,zh,jd];rw[show w64 (0+1)=1 from rfl,Tz a c];simp only[Aa,Ik];rw[Ql (s.drop k) 1 0]
  |true=>
   simp only[Ea,zh,Tz a c,Aa,uy,jd];rw[Ql (s.drop k) 1 0];cases h:atS (s.drop k) (1+0)==46 with
   |false=> simp only[ic]at h;simp only[h,Da,zh,Tz a c,Aa,Ik,Ob,Ld];rw[Ql (s.drop k) 1 0]
   |true=> simp only[ic]at h;simp only[h,Ea,zh,jd];rw[show w64 (1+1)=2 from rfl,G9 a c];simp only[Aa,Ik];rw[Ve,Ql (s.drop k) (1+1) 0]
 have:=d (atS (s.drop k) 0==43||atS (s.drop k) 0==45)
 grind
abbrev sr(s r:Str):za:=sc s (beh s r)
theorem sr_0(s:Str):(⟨s,0⟩:za)=sr s s:=by show sc s 0=sc s (beh s s);unfold beh;rw[Nat.sub_self]
theorem vk{s r:Str}{n:Nat}(b:s.length<=big)(c:r<:+s)(a:n<=8):zf ((n:Int),sr s r)=some (pk r n):=by rw[Wv b (ji s r) a,Vo c]
theorem Ig{s r:Str}(a:s.length<=big)(b:r<:+s):zf (0,sr s r)=some (pk r 0):=vk (n:=0) a b (by omega)
theorem Xq{s r:Str}(a:s.length<=big)(b:r<:+s):zf (1,sr s r)=some (pk r 1):=vk (n:=1) a b (by omega)
theorem RQ{s r:Str}(a:s.length<=big)(b:r<:+s):zf (2,sr s r)=some (pk r 2):=vk (n:=2) a b (by omega)
theorem lu{s r:Str}(a:s.length<=big)(b:r<:+s):zQ (sr s r)=some (sr s (past spB r)):=by rw[XT a (ji s r),Vo b]
theorem bv{s r:Str}(a:s.length<=big)(b:r<:+s):zO (sr s r)=some (sr s (past digB r)):=by rw[WV a (ji s r),Vo b]
theorem bS{s r:Str}(a:s.length<=big)(b:r<:+s):Zl (sr s r)=some (nbS r):=by rw[number_eq a (ji s r),Vo b]
theorem lI{s r:Str}{n:Nat}(a:r<:+s)(b:n<=r.length):beh s r+n=beh s (r.drop n):=by
 have:=a.length_le;unfold beh
 grind
theorem Lu{s r:Str}{n:Nat}(c:s.length<=big)(a:r<:+s)(b:n<=r.length):(⟨s,w64 ((beh s r:Int)+(n:Int))⟩:za)=sr s (r.drop n):=by have d:big=4194304:=rfl;have:=ji s r;have e:=a.length_le;rw[Zd (by omega) (by omega),show(beh s r:Int)+(n:Int)=((beh s r+n:Nat):Int) by omega,lI a b]
theorem Tq{l:Str}{n:Nat}(h:atS l n≠0):n<l.length:=by
 rcases Yc n l.length with a|a
 ·exact a
 ·exact absurd (by unfold atS;grind) h
theorem Nq{s r:Str}(a:s.length<=big)(b:r<:+s)(h:atS r 0≠0):(⟨s,w64 ((beh s r:Int)+1)⟩:za)=sr s (r.drop 1):=Lu (n:=1) a b (Tq h)
theorem Dj{s r:Str}(a:r<:+s)(n:Nat):r.drop n<:+s:=(Fe n r).trans a
theorem ul{s r:Str}(p:UInt8->Bool)(a:r<:+s):past p r<:+s:=(Pk p r).trans a
theorem jD{s r:Str}(a:r<:+s):unsign r<:+s:=by
 unfold unsign;split
 ·exact Dj a 1
 ·exact a
theorem wH{b:UInt8}(h:Jf b=true):b≠0:=by rintro rfl;revert h;decide
theorem Dz(a b:Bool):(bif a then true else b)=(a||b):=by cases a<;>rfl
theorem MH(a b:Bool):(bif a then b else false)=(a&&b):=by cases a<;>rfl
theorem DL{s r:Str}(a:r<:+s):(Za r).1<:+s:=by
 unfold Za;split
 ·exact ul _ (Dj a 1)
 ·exact a
theorem BJ{s r q:Str}(a:r<:+s)(h:expS r=some q):q<:+s:=by
 unfold expS at h;split at h
 ·split at h
  ·cases h;exact ul _ (jD (Dj a 1))
  ·cases h
 ·cases h
theorem aY{s r:Str}(b:r<:+s):(zI r).1<:+s:=by
 unfold zI;have a:=DL (ul digB (jD b));simp only;cases h:expS (Za (past digB (unsign r))).1 with
 |some q=>exact BJ a h
 |none=>exact a
theorem fV{s l:Str}(hs:s.length<=big)(hl:l<:+s):Zq (sr s l)=some ((zI l).2,sr s (zI l).1):=by
 unfold Zq;simp only[zg,Ig hs hl,Aa,wy,Bq,Dz];have e1:(bif (atS l 0==43||atS l 0==45)then some (LX.out (⟨s,w64 ((beh s l:Int)+1)⟩:za))else some (LX.out (sr s l)))=(some (LX.out (sr s (unsign l))):Option (LX za (Bool×za))):=by
  unfold unsign;cases h:Jf (atS l 0)with
  |true=> have h':(atS l 0==43||atS l 0==45)=true:=h;rw[h',Ea,Ia rfl,Nq hs hl (wH h)]
  |false=>
   have h':(atS l 0==43||atS l 0==45)=false:=h
   grind
 rw[e1,zh];have hu:=jD hl;rw[bv hs hu];simp only[Aa];have hp:=ul digB hu;unfold zI;generalize past digB (unsign l)=q at hp ⊢;have e2:zY (X:=Bool×za) (R:=Bool×za) ((zf (0,sr s q)).bind fun y4=>
   (zx (y4==46) (zf (1,sr s q)) (default:Int)).bind fun y5=>
   (zx (y4==46) (Zg y5) (default:Bool)).bind fun y6=>
   bif bif y4==46 then y6 else false then(zO (⟨s,w64 ((beh s q:Int)+1)⟩:za)).bind fun y7=>some (LX.out (false,y7))else some (LX.out (true,sr s q)))=zY (some (LX.out ((Za q).2,sr s (Za q).1))):=by
  congr 1;unfold Za;simp only[Ig hs hp,Xq hs hp,Aa,uy];cases h:atS q 0==46 with
  |false=>simp_all
  |true=>
   simp only[zS,Aa,Ea,Ik,Ab];cases h2:digB (atS q 1)with
   |false=>grind
   |true=> rw[Ea,Ia rfl,Nq hs hp (by grind),bv hs (Dj hp 1)];rfl
 rw[e2,zh];have hw:=DL hp;generalize Za q=W at hw ⊢;obtain⟨w,i⟩:=W;simp only at hw ⊢;have e3:((zf (0,sr s w)).bind fun y9=>
   (zx (!(y9==101)) (zf (0,sr s w)) (default:Int)).bind fun y10=>
   bif bif y9==101 then true else y10==69 then
    zY (X:=(Bool×Int)×za) ((zf (1,sr s w)).bind fun y11=>bif bif y11==43 then true else y11==45 then some (LX.out ((i,2),sr s w))else some (LX.out ((i,1),sr s w))) fun j12=>
    (zf (j12.1.2,j12.2)).bind fun y13=>(Zg y13).bind fun y14=>
    bif y14 then(zO (⟨j12.2.s,w64 (j12.2.at_+j12.1.2)⟩:za)).bind fun y15=>some (LX.out (false,y15))else some (LX.out (j12.1.1,j12.2))
   else some (LX.out (i,sr s w)))=(some (LX.out (match expS w with|some r=>(false,sr s r)|none=>(i,sr s w))):Option (LX (Bool×za) (Bool×za))):=by
  simp only[Ig hs hw,Aa,PQ];have e4:((zx (!(atS w 0==101)) (some (pk w 0)) (default:Int)).bind fun y10=>(some (bif atS w 0==101 then true else y10==69):Option Bool))=some (atS w 0==101||atS w 0==69):=by
   cases h:atS w 0==101 with
   |true=>rfl
   |false=>simp only[Xa,zS,Aa,Da,A9,xc]
  have e5: ∀(f:Bool->Option (LX (Bool×za) (Bool×za))),((zx (!(atS w 0==101)) (some (pk w 0)) (default:Int)).bind fun y10=>f (bif atS w 0==101 then true else y10==69))=f (atS w 0==101||atS w 0==69):=by intro f;have:=congrArg (fun o=>Option.bind o f) e4;simpa [Option.bind_assoc] using this
  refine(e5 (fun b=>bif b then _ else _)).trans ?_;unfold expS;cases h:(atS w 0==101||atS w 0==69)with
  |false=>rfl
  |true=>
   have hne:atS w 0≠0:=by intro e;rw[e]at h;revert h;decide
   simp only[Ea,jd,Xq hs hw,Aa,wy,Bq,Dz];unfold unsign;have hd:atS (w.drop 1) 0=atS w 1:=by rw[Ql w 1 0]
   rw[hd];cases hg:(atS w 1==43||atS w 1==45)with
   |true=>
    have hg':Jf (atS w 1)=true:=hg;have hl2:=Tq (wH hg');simp only[Ea,zh,RQ hs hw,Aa,Ik,hg',jd,Ve];rw[show atS (w.drop (1+1)) 0=atS w 2 by rw[Ql w 2 0]];cases hq:digB (atS w 2)with
    |false=>rfl
    |true=> rw[Ea,Ia rfl,show(2:Int)=((2:Nat):Int)from rfl,Lu hs hw (by omega),bv hs (Dj hw 2)];rfl
   |false=>
    have hg':Jf (atS w 1)=false:=hg;simp only[Da,zh,Xq hs hw,Aa,Ik,hg',Ob,Ld];rw[hd];cases hq:digB (atS w 1)with
    |false=>rfl
    |true=> rw[Ea,Ia rfl,Nq hs hw hne,bv hs (Dj hw 1)];rfl
 refine(congrArg (fun o=>zY o _) e3).trans ?_;rw[zh];cases expS w<;>rfl
def valG(n:Nat)(l:Str):Nat:=l.foldl decN n
theorem Pw(n:Nat)(a b:Str):valG n (a++b)=valG (valG n a) b:=List.foldl_append
theorem nJ{k:Nat}(h:k<10):digB (UInt8.ofNat (48+k))=true/\(UInt8.ofNat (48+k)).toNat=48+k:=by
 have:(UInt8.ofNat (48+k)).toNat=48+k:=by rw[UInt8.toNat_ofNat'];omega
 refine⟨?_,this⟩;unfold digB
 grind
theorem Jo: ∀(u:Nat),(Lib.decDigits u).all digB=true/\valG 0 (Lib.decDigits u)=u/\Lib.decDigits u≠[]:=by
 intro u
 induction u using Nat.strongRecOn with
 |_ u e=>
  rw[Lib.decDigits];by_cases h:u<10
  ·rw[dif_pos h];obtain⟨f,d⟩:=nJ h;refine⟨by grind,?_,by simp⟩;show decN 0 _=u;unfold decN;rw[d];omega
  ·rw[dif_neg h];obtain⟨a,b,c⟩:=e (u / 10) (by omega);obtain⟨f,d⟩:=nJ (k:=u%10) (by omega);refine⟨by grind,?_,by simp⟩;rw[Pw,b];show decN _ _=u;unfold decN;rw[d];omega
theorem lw: ∀(q t:Str),q.all digB=true->past digB (q++t)=past digB t
 |[],t,_=>rfl
 |c::q,t,h=>by rw[Nc,Ca]at h;rw[Ta,past,Ia h.1,lw q t h.2]
def d48(k:Nat):UInt8:=UInt8.ofNat (48+k)
def Gh(r:Nat):Str:=Lib.trimRightB [d48 (r / 100),d48 (r / 10%10),d48 (r%10)] 48
theorem oV{r:Nat}(h:r<1000):Lib.decDigits (1000+r)=49::[d48 (r / 100),d48 (r / 10%10),d48 (r%10)]:=by rw[Lib.decDigits,dif_neg (by omega),Lib.decDigits,dif_neg (by omega),Lib.decDigits,dif_neg (by omega),Lib.decDigits,dif_pos (by omega)];rw[show(1000+r) / 10 / 10 / 10=1 by omega,show(1000+r) / 10 / 10%10=r / 100 by omega,show(1000+r) / 10%10=r / 10%10 by omega,show(1000+r)%10=r%10 by omega];rfl
def pu(r:Nat):Bool:=(Gh r).all digB&&decide ((Gh r).length<=3)&&decide (valG 0 (Gh r)*10 ^ (3 - (Gh r).length)=r)&&((Gh r).isEmpty==(r==0))&& !((Gh r).getLast? ==some 48)
theorem yC: ∀r,r<1000->pu r=true:=by decide+kernel
def Nj(r:Nat)(p:Bool):Str:=bif (Gh r).isEmpty then(bif p then [46,48]else [])else 46::Gh r
def Xf(m:Nat)(p:Bool):Str:=Lib.decDigits (m / 1000)++Nj (m%1000) p
def numT(n:Int)(p:Bool):Str:=(if n<0 then [45]else [])++Xf n.natAbs p
theorem XD{u:Nat}(h:u<18446744073709551616):(Lib.decDigits u).length<=20:=by
 rw[Lib.decDigits_length];by_cases h1:u=0
 ·subst h1;rw[Lib.nDigits_small (by omega)];omega
 ·have:=Lib.numDigits_eq u (by omega) h;split at this<;>omega
theorem bU{r:Nat}(h:r<1000)(p:Bool):(Nj r p).length<=4:=by
 have:=yC r h;simp only[pu,Ca,Eb]at this;unfold Nj
 grind
theorem Dx{m:Nat}(h:m<=1000000000000)(p:Bool):(Xf m p).length<=24:=by unfold Xf;rw[Ha];have:=XD (u:=m / 1000) (by omega);have:=bU (r:=m%1000) (by omega) p;omega
theorem Vi{n m b:Nat}(h:n+m<=100000)(a:b<=100):zD n m b=true:=by unfold zD;refine Ga ?_;have:=Nat.mul_le_mul h a;omega
theorem kX(l:Str):(l==[])=l.isEmpty:=by cases l<;>rfl
def ou(n:Nat):Nat:=if 65<=n/\n<=90 then n+32 else n
def Yj(b:UInt8):UInt8:=UInt8.ofNat (ou b.toNat)
theorem wP: ∀n:Nat,n<256->(bif decide (65<=(n:Int))then decide ((n:Int)<=90)else false)=true->qf (ibOr IntKind.u8 (n:Int) 32)=some (UInt8.ofNat (ou n)):=by decide+kernel
def lowS(l:Str):Str:=l.map Yj
theorem XK{α:Type}{l:List α}{i:Nat}(h:i<l.length)(f:α->α):((l.take i).map f++l.drop i).set i (f l[i])=(l.take (i+1)).map f++l.drop (i+1):=by
 apply List.ext_getElem
 ·simp;omega
 grind
theorem uS{α:Type}{l:List α}{i:Nat}(h:i<l.length)(f:α->α):((l.take i).map f++l.drop i)[i]? =some l[i]:=by
 grind
theorem sS{α:Type}{l:List α}{i:Nat}(h:i<=l.length)(f:α->α):((l.take i).map f++l.drop i).length=l.length:=by simp;omega
theorem KU{α:Type}{l:List α}{i:Nat}(h:i<l.length)(f:α->α)(e:f l[i]=l[i]):(l.take i).map f++l.drop i=(l.take (i+1)).map f++l.drop (i+1):=by
 rw[<-XK h f,e];apply List.ext_getElem?
 grind
theorem jG(i:Nat):decide ((0:Int)<=(i:Int))=true:=Ga (by omega)
theorem ax{l:Str}(h:l.length<=big):Z5 l=some (lowS l):=by
 unfold Z5;rw[zA (Ga (by unfold big at h;unfold maxLen;omega))];have d: ∀(k i:Nat),i+k=l.length-> ∃n,Qo (X:=List UInt8) (R:=Str) (fun(a:Int×List UInt8)=>
   bif decide (a.1<(l.length:Int))then
    zY (X:=Int×List UInt8) (
      need (decide (0<=a.1)&&decide (a.1<(a.2.length:Int)))<|
      zg a.2[a.1.toNat]? fun j=>
      bif bif decide (65<=(j.toNat:Int))then decide ((j.toNat:Int)<=90)else false then
       need (decide (0<=a.1)&&decide (a.1<(a.2.length:Int)))<|
       zg a.2[a.1.toNat]? fun o=>
       need (decide (0<=a.1)&&decide (a.1<(a.2.length:Int)))<|
       zg a.2[a.1.toNat]? fun t=>
       zg (qf (ibOr IntKind.u8 (o.toNat:Int) 32)) fun q=>
       some (LX.out (a.1,List.set a.2 a.1.toNat q))
      else
       some (LX.out (a.1,a.2))) fun m=>
    some (LO.again (w64 (m.1+1),m.2))
   else
    some (LO.out a.2)) n ((i:Int),(l.take i).map Yj++l.drop i)=some (.out (lowS l)):=by
  intro k
  induction k with
  |zero=>
   intro i f;have f:i=l.length:=by omega
   subst f;refine⟨1,?_⟩;simp only[Qo,uj,Da];simp[lowS]
  |succ k r=>
   intro i f;have b:i<l.length:=by omega
   obtain⟨n,c⟩:=r (i+1) (by omega);refine⟨n+1,?_⟩;have p:=Bb l[i];simp only[Qo,sS (Nat.le_of_lt b),Dh b,Ea,jG,Sb,zR,Va,uS b,zg,Aa];cases g:(bif decide (65<=(l[i].toNat:Int))then decide ((l[i].toNat:Int)<=90)else false)with
   |true=> have e:=wP _ p g;simp only[e,Ea,Aa,zh,QK b h];rw[show UInt8.ofNat (ou l[i].toNat)=Yj l[i]from rfl,XK b];exact c
   |false=>
    have e:Yj l[i]=l[i]:=by unfold Yj ou;rw[Fa,Md];rintro⟨s,u⟩;rw[Ga (by omega),Ea,Ga (by omega)]at g;cases g
    simp only[Da,zh,QK b h];rw[KU b Yj e];exact c
 obtain⟨n,c⟩:=d l.length 0 (by omega);replace c:=Am c;simp only[List.take_zero,List.map_nil,Xb,List.drop_zero]at c;exact(Bi c).trans rfl
def Zt(l:Str):Bool:=l.all fun b=> !(b==0)
theorem AB(c:UInt8): ∀l:Str,decide (Lib.indexByte l c>=0)=l.any fun b=>b==c
 |[]=>rfl
 |b::l=>by
  have d:=AB c l;have a:=Lib.indexByte_ge l c;rw[List.any_cons,Lib.indexByte]
  grind
theorem jS(l:Str):(l.any fun b=>b==0)= !Zt l:=by
 unfold Zt
 grind
theorem Xp(l:Str)(n:Int):strings_IndexByte (l,n)=some (Lib.indexByte l n.toNat.toUInt8):=rfl
theorem yA(l:Str):decide (Lib.indexByte l (0:Int).toNat.toUInt8>=0)= !Zt l:=(AB 0 l).trans (jS l)
theorem rG(n m:Nat):decide ((n:Int)>(m:Int))= !decide (n<=m):=by
 grind
theorem lX(a b:Str):(a==b)=(b==a):=by
 grind
theorem fJ{f:Option Int}{p:Bool}{i:Int}(h:f=some i)(a:decide (i>=0)=p):(zg f fun y=>some (decide (y>=0)))=some p:=by
 grind
theorem qR(l m:Str):strings_HasPrefix (l,m)=some (m.isPrefixOf l):=by
 have a: ∀m l:Str,m.isPrefixOf l=(decide (m.length<=l.length)&&l.take m.length==m):=by
  intro m l;rw[Bool.eq_iff_iff];simp only[Mg,Ca,Eb,Db];constructor
  ·rintro⟨t,rfl⟩
   grind
  ·grind
 unfold strings_HasPrefix stringslite_HasPrefix;simp_all
theorem O4(l m:Str):strings_TrimPrefix (l,m)=some (bif m.isPrefixOf l then l.drop m.length else l):=by
 have h:stringslite_HasPrefix (l,m)=some (m.isPrefixOf l):=by
  have:=qR l m;unfold strings_HasPrefix at this;cases hh:stringslite_HasPrefix (l,m)with
  |none=>grind
  |some b=>grind
 unfold strings_TrimPrefix stringslite_TrimPrefix;simp only[h,zg,Aa];cases hp:m.isPrefixOf l with
 |false=>rfl
 |true=> have hl:=(Mg.1 hp).length_le;simp_all
theorem dx{a b:Str}(c:a.length<=big)(h2:b.length<=big):qi (a,b)=some (lowS a==lowS b):=by unfold qi;simp only[ax c,ax h2,zg,Aa]
def Wh(n:Nat):Bool:=
 !(n==0||n==9||n==10||n==12||n==13||n==32||n==34||n==39||n==40||n==41||n==44||n==58||n==59||n==91||n==93||n==95||n==123||n==125)&&
  (decide (n<128)&& !((decide (48<=n)&&decide (n<=57))||(decide (65<=n)&&decide (n<=90))||(decide (97<=n)&&decide (n<=122))))
def digN(n:Nat):Bool:=decide (48<=n)&&decide (n<=57)
theorem Y1: ∀n:Nat,n<256->ZL (n:Int)=some (digN n):=by decide+kernel
theorem AO(b:UInt8):ZL (b.toNat:Int)=some (digN b.toNat):=(Y1 _ (Bb b))
def namN(n:Nat):Bool:=digN n||(decide (65<=n)&&decide (n<=90))||(decide (97<=n)&&decide (n<=122))||n==95||n==45||decide (128<=n)
theorem O1: ∀n:Nat,n<256->qM (n:Int)=some (namN n):=by decide+kernel
theorem yN(b:UInt8):qM (b.toNat:Int)=some (namN b.toNat):=(O1 _ (Bb b))
def El:Str->Bool
 |[]=>false
 |b::r=>digN b.toNat||(b==45&&(r==[]||digN (r.headD 0).toNat))
theorem fB(b c:UInt8):((b.toNat:Int)==(c.toNat:Int))=(b==c):=by
 by_cases h:b=c
 ·subst h;simp
 ·have a:b.toNat≠c.toNat:=fun e=>h (Pe.1 e)
  grind
def numS:Str->Bool
 |[]=>false
 |b::r=>bif b==45 then !(r==[])&&digN (r.headD 0).toNat else digN b.toNat
theorem sO(l:Str):Qj l=some (numS l):=by
 unfold Qj;simp only[O4,zg,Aa];have a: ∀m:Str,((zx (!(m==[])) (geti m 0) 0).bind fun c=>(zx (!(m==[])) (ZL (c.toNat:Int)) (default:Bool)).bind fun d=>some (bif !(m==[])then d else false))=some (!(m==[])&&digN (m.headD 0).toNat):=by
  intro m;cases m with
  |nil=>rfl
  |cons b r=> have f:geti (b::r) 0=some b:=rfl;have g:(b::r==([]:Str))=false:=rfl;simp only[g,Xa,zS,f,Aa,AO,Ea,List.headD_cons,Ab]
 rw[a];cases l with
 |nil=>rfl
 |cons b r=>
  have e:List.isPrefixOf [45] (b::r)=(b==45):=by
   show((45==b)&&true)=_;rw[Sb];cases h:(b==45)with
   |true=>grind
   |false=>grind
  rw[e];show _=some (bif b==45 then !(r==[])&&digN (r.headD 0).toNat else digN b.toNat)
  grind
theorem CU(l:Str):((numS l&& !(List.isPrefixOf [45,45] l))||l==[45])=El l:=by
 cases l with
 |nil=>rfl
 |cons b r=>
  cases a:(b==45)with
  |false=>
   have e:List.isPrefixOf [45,45] (b::r)=false:=by show((45==b)&&_)=_;rw[Ja]at a;rw[Ja.2 (Ne.symm a)];rfl
   have c:((b::r:Str)==[45])=false:=by show((b==45)&&_)=_;rw[a];rfl
   rw[e,c];unfold numS El;simp[a]
  |true=>
   rw[Db]at a;subst a;cases r with
   |nil=>rfl
   |cons d r=>
    have c:((45::d::r:Str)==[45])=false:=rfl;rw[c];unfold numS El;have e:List.isPrefixOf [45,45] (45::d::r)=(45==d):=by show((45==(45:UInt8))&&((45==d)&&true))=_;rw[Sb];rfl
    rw[e];simp only[List.headD_cons];have f:digN 45=false:=by decide
    cases h:(45==d)with
    |false=>simp[f]
    |true=>rw[Db]at h;subst h;rfl
def delS(l:Str):Bool:=match l with
 |[b]=>Wh b.toNat
 |_=>false
def rngS(x:ze):Bool:=decide (-1000000000000<=x.num)&&(decide (x.num<=1000000000000)&&(!x.flag||Int.tmod x.num 1000==0))
def yf(x:ze):Bool:=
 bif x.kind==1||x.kind==2||x.kind==3 then !(x.text==[])&&(Zt x.text&&(x.num==0&&(x.unit==[]&& !x.flag)))
 else bif x.kind==4 then !(x.text==[])&&(Zt x.text&&((x.flag||El x.text)&&(x.num==0&&x.unit==[])))
 else bif x.kind==5||x.kind==7 then Zt x.text&&(x.num==0&&(x.unit==[]&& !x.flag))
 else bif x.kind==9 then delS x.text&&(x.num==0&&(x.unit==[]&& !x.flag))
 else bif x.kind==10||x.kind==11||x.kind==12 then rngS x&&((!(x.unit==[])==(x.kind==12))&&(Zt x.unit&&((!(x.kind==11)|| !x.flag)&&x.text==[])))
 else(decide (13<=x.kind)&&decide (x.kind<=24))&&(x.text==[]&&(x.num==0&&(x.unit==[]&& !x.flag)))
abbrev tq:Str:=[32,9,10,12,13,34,39,58,59,44,91,93,40,41,123,125]
theorem yx: ∀(m:Str) (c:UInt8),Lib.index m [c]=Lib.indexByte m c
 |[],c=>rfl
 |b::l,c=>by
  have h:List.isPrefixOf [c] (b::l)=(b==c):=by
   show(c==b&&List.isPrefixOf [] l)=_;rw[List.isPrefixOf,Sb];by_cases e:b=c
   ·subst e;rfl
   ·grind
  rw[Lib.index,Lib.indexByte,h,yx l c]
theorem contains_one(m:Str)(c:UInt8)(a:short m=true:=by decide):strings_Contains (m,[c])=some (m.any fun b=>b==c):=by unfold strings_Contains;simp only[Ji,a,zR,zg,Aa,yx,AB]
theorem X5(c:UInt8):strings_Contains ([32,9,10,12,13,34,39,58,59,44,91,93,40,41,123,125],[c])=some (tq.any fun b=>b==c):=contains_one tq c
theorem NY: ∀n:Nat,n<256->((bif bif !(UInt8.ofNat n==0)then !namN n else false then true else UInt8.ofNat n==45)&&(!(tq.any fun b=>b==UInt8.ofNat n)))=Wh n:=by decide+kernel
theorem kV(b:UInt8):((bif bif !(b==0)then !namN b.toNat else false then true else b==45)&&(!(tq.any fun c=>c==b)))=Wh b.toNat:=by have:=NY b.toNat (Bb b);simp_all
theorem mZ(a b:Str):Zt (a++b)=(Zt a&&Zt b):=by unfold Zt;grind
theorem nS(n:Int):decide (n<0)= !decide (n>=0):=by
 grind
theorem Dr: ∀(l:Str) (n:Nat),valG n l=n*10 ^ l.length+valG 0 l
 |[],n=>by simp[valG]
 |c::l,n=>by
  show valG (decN n c) l=n*10 ^ (l.length+1)+valG (decN 0 c) l;rw[Dr l (decN n c),Dr l (decN 0 c),Nat.pow_succ];unfold decN
  grind
theorem XV(l:Str)(i:Nat):valG 0 (l.take i)<=valG 0 l:=by
 have h:valG 0 l=valG (valG 0 (l.take i)) (l.drop i):=by rw[<-Pw,List.take_append_drop]
 rw[h,Dr (l.drop i)];have:=Xd (valG 0 (l.take i)) (Yf (n:=(l.drop i).length) (show 0<10 by omega));omega
theorem yo{b:UInt8}(h:digB b=true):48<=b.toNat/\b.toNat<=57:=by unfold digB at h;simpa using h
theorem dU {R:Type} {step:Int×Int->Option (LO (Int×Int) Int R)} {l:Str} (b:l.all digB=true) (g:l.length<=100000) (j:valG 0 l<=1000000000000)
  (a: ∀(v:Int) (i:Nat) (hi:i<l.length),step (v,(i:Int))=some (.again (if 1000000000000<w64 (w64 (10*v)+w64 (wu8 ((l[i].toNat:Int) - 48)))then 1000000000000 else w64 (w64 (10*v)+w64 (wu8 ((l[i].toNat:Int) - 48))),w64 ((i:Int)+1))))
  (h2: ∀v:Int,step (v,(l.length:Int))=some (.out v)):Dg step (0,0)=some (.out ((valG 0 l:Nat):Int)):=by
 refine ZT (fun s=> ∃i:Nat,i<=l.length/\s=(((valG 0 (l.take i):Nat):Int),(i:Int))) (fun s=>l.length - s.2.toNat) _ ?_ ⟨0,by omega,rfl⟩;rintro _ ⟨i,hi,rfl⟩;rcases Yc i l.length with h|h
 ·refine .inl ⟨_,a _ i h,⟨i+1,by omega,?_⟩,by simp only;rw[Zd (by omega) (by omega)];omega⟩;have e:=yo (Rb.1 b _ (Gd h));have d:valG 0 (l.take (i+1))=decN (valG 0 (l.take i)) l[i]:=by rw[Gc h,Pw];rfl
  have f:=XV l (i+1);have c:wu8 ((l[i].toNat:Int) - 48)=((l[i].toNat - 48:Nat):Int):=by show IntKind.u8.wrap _=_;rw[IntKind.wrap_u8];omega
  unfold decN at d;rw[c,Zd (n:=10*_) (by omega) (by omega),Zd (n:=((l[i].toNat - 48:Nat):Int)) (by omega) (by omega),Zd (n:=(i:Int)+1) (by omega) (by omega),Zd (by omega) (by omega),Fa (by omega)];refine Prod.ext ?_ ?_
  ·grind
  ·grind
 grind
theorem yY {R:Type} {step:Int×Int->Option (LO (Int×Int) Int R)} {v p:Nat} (g:p<=100) (i:v*10 ^ p<=1000000000000)
  (h: ∀(a b:Int),step (a,b)=bif bif bif decide (a>0)then decide (b>0)else false then decide (b<1000000000000)else false then some (.again (w64 (a - 1),if 1000000000000<w64 (10*b)then 1000000000000 else w64 (10*b)))else some (.out b)):
  Dg step ((p:Int),(v:Int))=some (.out ((v*10 ^ p:Nat):Int)):=by
 refine ZT (fun s=> ∃a b:Nat,s=((a:Int),(b:Int))/\a<=100/\b*10 ^ a=v*10 ^ p) (fun s=>s.1.toNat) _ ?_ ⟨p,v,rfl,g,rfl⟩;rintro _ ⟨a,b,rfl,j,d⟩;rw[h];cases a with
 |zero=>
  grind
 |succ a=>
  rw[Ga (show((a+1:Nat):Int)>0 by omega),Ea];rw[Nat.pow_succ,<-Nat.mul_assoc]at d;have c:0<10 ^ a:=Yf (by omega);cases Lg b with
  |inl e=> subst e;refine .inr (.inl ⟨0,rfl,?_⟩);rw[<-d];simp
  |inr e=>
   rw[Ga (show((b:Nat):Int)>0 by omega),Ea];have f:b<=b*10 ^ a:=Xd b c;rw[Ga (show((b:Nat):Int)<1000000000000 by omega),Ea];refine .inl ⟨_,rfl,⟨a,10*b,?_,by omega,?_⟩,by simp only;rw[Zd (by omega) (by omega)];omega⟩
   ·rw[Zd (by omega) (by omega),Zd (by omega) (by omega),Fa (by omega)];refine Prod.ext ?_ ?_
    ·show((a+1:Nat):Int) - 1=(a:Int);omega
    ·show 10*(b:Int)=((10*b:Nat):Int);omega
   ·rw[<-d,Nat.mul_comm 10 b,Nat.mul_assoc,Nat.mul_assoc,Nat.mul_comm 10 (10 ^ a)]
theorem BB: ∀(q:Str),q.all digB=true->Lib.indexByte q 46= -1
 |[],_=>rfl
 |c::q,h=>by
  rw[Nc,Ca]at h;have a:=yo h.1;have b:(c==46)=false:=by refine Ja.2 (fun e=> ?_);subst e;revert a;decide
  rw[Lib.indexByte,b,BB q h.2];rfl
theorem CB: ∀(q g:Str),q.all digB=true->Lib.indexByte (q++46::g) 46=(q.length:Int)
 |[],g,_=>by rw[Xb,Lib.indexByte];rfl
 |c::q,g,h=>by
  rw[Nc,Ca]at h;have hd:=yo h.1;have hc:(c==46)=false:=by refine Ja.2 (fun e=> ?_);subst e;revert hd;decide
  rw[Ta,Lib.indexByte,hc,CB q g h.2];have:((q.length:Int)== -1)=false:=Ja.2 (by omega);rw[this,Ka];simp
theorem iB: ∀(l:Str),(l.all fun b=>digB b||b==46)=true->Lib.indexAny l [101,69]= -1
 |[],_=>rfl
 |c::l,h=>by
  rw[Nc,Ca]at h;have hc:List.contains [101,69] c=false:=by
   have: ∀n:Nat,n<256->(digB (UInt8.ofNat n)||UInt8.ofNat n==46)=true->List.contains [101,69] (UInt8.ofNat n)=false:=by decide+kernel
   have:=this c.toNat (Bb c);rw[Md]at this;exact this h.1
  rw[Lib.indexAny,hc,iB l h.2];rfl
end Go.Lv.VT
