/- The reading of tokens: what the program's text and the reference's come to. -/
import Derived.Test.YtoiadnecjabbeaaGreatDoorTy
import Derived.Test.YtoiadnecjabbeaaGreatDoorMo
import Derived.Test.YtoiadnecjabbeaaGreatDoorTx
set_option linter.unusedSimpArgs false
set_option linter.unusedVariables false
namespace Go.Lv.VT
def atS(l:Str)(n:Nat):UInt8:=l.getD n 0
def digB(b:UInt8):Bool:=decide (48<=b.toNat)&&decide (b.toNat<=57)
def spB(b:UInt8):Bool:=b==10||b==9||b==32
def alB(b:UInt8):Bool:=decide (65<=b.toNat)&&decide (b.toNat<=90)||decide (97<=b.toNat)&&decide (b.toNat<=122)
def fstB(b:UInt8):Bool:=alB b||b==95||decide (128<=b.toNat)
def letB(b:UInt8):Bool:=fstB b||digB b||b==45
def hexN(b:UInt8):Nat:=
 if digB b then b.toNat - 48 else if 97<=b.toNat/\b.toNat<=102 then b.toNat - 87 else if 65<=b.toNat/\b.toNat<=70 then b.toNat - 55 else 16
def Vf(b:UInt8):Bool:=decide (hexN b<16)
def escS(l:Str):Bool:=atS l 0==92&& !(atS l 1==10)
def nmS(l:Str):Bool:=if atS l 0==45 then fstB (atS l 1)||atS l 1==45||escS (l.drop 1)else fstB (atS l 0)||escS l
def Yh(b:UInt8):Bool:=b==43||b==45
def unsign(l:Str):Str:=if Yh (atS l 0)then l.drop 1 else l
def undot(l:Str):Str:=if atS l 0==46 then l.drop 1 else l
def nbS(l:Str):Bool:=digB (atS (undot (unsign l)) 0)
def Fq:Str:=[239,191,189]
def Ci(n:Nat):Str:=
 if n=0\/(55296<=n/\n<=57343)\/1114111<n then Fq
 else if n<128 then [UInt8.ofNat n]
 else if n<2048 then [UInt8.ofNat (192+n / 64),UInt8.ofNat (128+n%64)]
 else if n<65536 then [UInt8.ofNat (224+n / 4096),UInt8.ofNat (128+n / 64%64),UInt8.ofNat (128+n%64)]
 else [UInt8.ofNat (240+n / 262144),UInt8.ofNat (128+n / 4096%64),UInt8.ofNat (128+n / 64%64),UInt8.ofNat (128+n%64)]
def hexes:Nat->Nat->Str->Nat×Str
 |0,n,l=>(n,l)
 |_+1,n,[]=>(n,[])
 |k+1,n,c::r=>if Vf c then hexes k (16*n+hexN c) r else(n,c::r)
def unsp:Str->Str
 |[]=>[]
 |c::r=>if spB c then r else c::r
def zN:Str->Str×Str
 |[]=>(Fq,[])
 |c::r=>if Vf c then(Ci (hexes 6 0 (c::r)).1,unsp (hexes 6 0 (c::r)).2)else([c],r)
theorem Yw: ∀(k n:Nat) (l:Str),(hexes k n l).2<:+l
 |0,n,l=>Ce l
 |k+1,n,[]=>Ce _
 |k+1,n,c::r=>by
  unfold hexes;split
  ·exact(Yw k _ r).trans (Gd c r)
  grind
theorem NM(l:Str):unsp l<:+l:=by
 cases l with
 |nil=>exact Ce _
 |cons c r=>
  show(if spB c then r else c::r)<:+c::r
  grind
theorem qM(l:Str):(zN l).2<:+l:=by
 cases l with
 |nil=>exact Ce _
 |cons c r=>
  show(if Vf c then(Ci (hexes 6 0 (c::r)).1,unsp (hexes 6 0 (c::r)).2)else([c],r)).2<:+c::r;split
  ·exact(NM _).trans (Yw 6 0 _)
  grind
theorem ZA(l:Str):(zN l).2.length<=l.length:=(qM l).length_le
def Zg:Str->Str×Str
 |[]=>([],[])
 |c::r=>
  if letB c then((c::(Zg r).1),(Zg r).2)
  else if escS (c::r)then((zN r).1++(Zg (zN r).2).1,(Zg (zN r).2).2)
  else([],c::r)
termination_by l=>l.length
decreasing_by
 all_goals first|(have:=ZA r;simp only[Ea];omega)|(simp only[Ea];omega)
def past(p:UInt8->Bool):Str->Str
 |[]=>[]
 |c::r=>if p c then past p r else c::r
theorem Jl(p:UInt8->Bool): ∀l:Str,past p l<:+l
 |[]=>Ce _
 |c::r=>by
  unfold past;split
  ·exact(Jl p r).trans (Gd c r)
  grind
def qp(l:Str):Str×Bool:=
 if atS l 0==46&&digB (atS l 1)then(past digB (l.drop 1),false)else(l,true)
def expS(l:Str):Option Str:=
 if atS l 0==101||atS l 0==69 then(if digB (atS (unsign (l.drop 1)) 0)then some (past digB (unsign (l.drop 1)))else none)else none
def ZG(l:Str):Str×Bool:=
 let x:=qp (past digB (unsign l))
 match expS x.1 with
 |some r=>(r,false)
 |none=>x
def decN(n:Nat)(b:UInt8):Nat:=10*n+(b.toNat - 48)
def Zz(m:UInt8):Str->Option Str×Str
 |[]=>(some [],[])
 |c::r=>
  if c==m then(some [],r)
  else if c==10 then(none,c::r)
  else if c==92 then
   (if r.isEmpty then(some [],[])
   else if atS r 0==10 then Zz m (r.drop 1)
   else((Zz m (zN r).2).1.map ((zN r).1++ ·),(Zz m (zN r).2).2))
  else((Zz m r).1.map (c:: ·),(Zz m r).2)
termination_by l=>l.length
decreasing_by
 all_goals first|(have:=ZA r;simp only[Ea];omega)|(simp only[Ea,Vb];omega)
def badS:Str->Str
 |[]=>[]
 |c::r=>if c==41 then r else if escS (c::r)then badS (zN r).2 else badS r
termination_by l=>l.length
decreasing_by
 all_goals first|(have:=ZA r;simp only[Ea];omega)|(simp only[Ea];omega)
def unB(b:UInt8):Bool:=decide (b.toNat<=8)||b==11||decide (14<=b.toNat)&&decide (b.toNat<=31)||b==127
def urlS:Str->Option Str×Str
 |[]=>(some [],[])
 |c::r=>
  if c==41 then(some [],r)
  else if spB c then(match past spB r with
   |[]=>(some [],[])
   |d::a=>if d==41 then(some [],a)else(none,badS (d::a)))
  else if c==34||c==39||c==40||unB c||c==92&& !escS (c::r)then(none,badS (c::r))
  else if c==92 then((urlS (zN r).2).1.map ((zN r).1++ ·),(urlS (zN r).2).2)
  else((urlS r).1.map (c:: ·),(urlS r).2)
termination_by l=>l.length
decreasing_by
 all_goals first|(have:=ZA r;simp only[Ea];omega)|(simp only[Ea];omega)
def Cg(b:UInt8):Int:=
 if b==58 then 16 else if b==59 then 17 else if b==44 then 18 else if b==91 then 19 else if b==93 then 20 else if b==40 then 21 else if b==41 then 22 else if b==123 then 23 else if b==125 then 24 else 0
def Sg(k:Int):zk:=⟨k,[],0,[],false⟩
def Gi:Nat:=1000000000000
def Vj:Nat->Nat->Nat
 |0,n=>n
 |k+1,n=>if n=0\/Gi<=n then n else Vj k (min Gi (10*n))
set_option maxRecDepth 100000
abbrev sc(s:Str)(k:Nat):zb:=⟨s,(k:Int)⟩
def pk(l:Str)(n:Nat):Int:=match l[n]? with|some b=>(b.toNat:Int)|none=> -1
def beh(s r:Str):Nat:=s.length - r.length
theorem Ql{n:Int}(a: -9223372036854775808<=n)(h2:n<=9223372036854775807):w64 n=n:=Qf a h2
theorem Gs{s r:Str}(h:r<:+s):s.drop (beh s r)=r:=by obtain⟨t,rfl⟩:=h;unfold beh;simp_all
theorem ek(s r:Str):beh s r<=s.length:=by unfold beh;omega
theorem zBT{s:Str}{k:Nat}(h:k<=s.length):beh s (s.drop k)=k:=by unfold beh;grind
theorem gz{s:Str}{k n:Nat}(c:s.length<=big)(g:k<=s.length)(f:n<=8):zo ((n:Int),sc s k)=some (pk (s.drop k) n):=by
 have d:big=4194304:=rfl;have e:w64 ((k:Int)+(n:Int))=((k+n:Nat):Int):=by rw[Ql (by omega) (by omega)];omega
 unfold zo pk;simp only[e];rw[xc];by_cases h:k+n<s.length
 ·rw[Ha (by omega),Da];have b:geti s ((k+n:Nat):Int)=some s[k+n]:=Zy h;have a:=Uc s[k+n];simp only[ze,b,Aa,Sa h];rw[Ql (by omega) (by omega)]
 ·grind
theorem gy{s:Str}{k:Nat}(b:s.length<=big)(a:k<=s.length):zo (0,sc s k)=some (pk (s.drop k) 0):=gz (n:=0) b a (by omega)
theorem TJ{s:Str}{k:Nat}(b:s.length<=big)(a:k<=s.length):zo (1,sc s k)=some (pk (s.drop k) 1):=gz (n:=1) b a (by omega)
theorem zId{s:Str}{k:Nat}(b:s.length<=big)(a:k<=s.length):zo (2,sc s k)=some (pk (s.drop k) 2):=gz (n:=2) b a (by omega)
theorem Ty{a:Type}{f:Int->Option a}{p:UInt8->a}(h: ∀b:UInt8,f (b.toNat:Int)=some (p b))(c:f (-1)=some (p 0))(l:Str)(n:Nat):f (pk l n)=some (p (atS l n)):=by
 unfold pk atS
 grind
theorem of_n{a:Type}{f:Int->Option a}{p:UInt8->a}(h: ∀n:Nat,n<256->f (n:Int)=some (p (UInt8.ofNat n)))(b:UInt8):f (b.toNat:Int)=some (p b):=by have:=h b.toNat (Uc b);simp_all
theorem Uv(l:Str)(n:Nat):Gp (pk l n)=some (spB (atS l n)):=Ty (of_n (by decide+kernel)) (by decide+kernel) l n
theorem Im(l:Str)(n:Nat):Qy (pk l n)=some (digB (atS l n)):=Ty (of_n (by decide+kernel)) (by decide+kernel) l n
theorem zF9(l:Str)(n:Nat):Lx (pk l n)=some (fstB (atS l n)):=Ty (of_n (by decide+kernel)) (by decide+kernel) l n
theorem TM(l:Str)(n:Nat):oC (pk l n)=some (letB (atS l n)):=Ty (of_n (by decide+kernel)) (by decide+kernel) l n
def hexI(b:UInt8):Int:=if Vf b then(hexN b:Int)else -1
theorem gD(l:Str)(n:Nat):Ms (pk l n)=some (hexI (atS l n)):=Ty (of_n (by decide+kernel)) (by decide+kernel) l n
theorem ah(l:Str)(n:Nat)(c:UInt8)(h:c≠0):(pk l n==(c.toNat:Int))=(atS l n==c):=by
 unfold pk atS;rw[List.getD_eq_getElem?_getD];cases l[n]? with
 |none=>
  grind
 |some b=>
  show((b.toNat:Int)==(c.toNat:Int))=(b==c);by_cases e:b=c
  ·grind
  ·have:b.toNat≠c.toNat:=fun h=>e (Hf.1 h)
   grind
theorem OJ(l:Str)(n:Nat):(pk l n==10)=(atS l n==10):=ah l n 10 (by decide)
theorem iR(l:Str)(n:Nat):(pk l n==34)=(atS l n==34):=ah l n 34 (by decide)
theorem zIe(l:Str)(n:Nat):(pk l n==35)=(atS l n==35):=ah l n 35 (by decide)
theorem zIf(l:Str)(n:Nat):(pk l n==37)=(atS l n==37):=ah l n 37 (by decide)
theorem dR(l:Str)(n:Nat):(pk l n==39)=(atS l n==39):=ah l n 39 (by decide)
theorem zIg(l:Str)(n:Nat):(pk l n==40)=(atS l n==40):=ah l n 40 (by decide)
theorem NJ(l:Str)(n:Nat):(pk l n==41)=(atS l n==41):=ah l n 41 (by decide)
theorem MJ(l:Str)(n:Nat):(pk l n==43)=(atS l n==43):=ah l n 43 (by decide)
theorem ay(l:Str)(n:Nat):(pk l n==45)=(atS l n==45):=ah l n 45 (by decide)
theorem LJ(l:Str)(n:Nat):(pk l n==46)=(atS l n==46):=ah l n 46 (by decide)
theorem zIh(l:Str)(n:Nat):(pk l n==64)=(atS l n==64):=ah l n 64 (by decide)
theorem zIi(l:Str)(n:Nat):(pk l n==69)=(atS l n==69):=ah l n 69 (by decide)
theorem bR(l:Str)(n:Nat):(pk l n==92)=(atS l n==92):=ah l n 92 (by decide)
theorem zHt(l:Str)(n:Nat):(pk l n==101)=(atS l n==101):=ah l n 101 (by decide)
theorem bn(l:Str):(pk l 0== -1)=l.isEmpty:=by
 cases l with
 |nil=>rfl
 |cons b r=>
  show((b.toNat:Int)== -1)=false
  grind
theorem si(l:Str)(k n:Nat):atS (l.drop k) n=atS l (k+n):=by
 unfold atS
 grind
theorem tL {R:Type} {step:zb->Option (LO zb zb R)} {s:Str} (p:UInt8->Bool) (h0:p 0=false)
  (h: ∀k,k<=s.length->step (sc s k)=some (bif p (atS (s.drop k) 0)then .again (sc s (k+1))else .out (sc s k))) {k:Nat} (hk:k<=s.length):
  bg step (sc s k)=some (.out (sc s (beh s (past p (s.drop k))))):=by
 refine Qq (fun z=> ∃j,z=sc s j/\j<=s.length/\past p (s.drop j)=past p (s.drop k)) (fun z=>s.length - z.at_.toNat) _ ?_ ⟨k,rfl,hk,rfl⟩;rintro _ ⟨j,rfl,hj,he⟩;rw[h j hj];cases hd:s.drop j with
 |nil=>
  rw[show atS ([]:Str) 0=0 from rfl,h0,Ca];refine .inr (.inl ⟨_,rfl,?_⟩);rw[<-he,hd];have:j=s.length:=by have:=Yc.1 hd;omega
  subst this;show LX.out (sc s (beh s []))=_;unfold beh;rw[Xa,Nat.sub_zero]
 |cons c r=>
  have hlt:j<s.length:=by
   rcases Wd j s.length with h'|h'
   ·exact h'
   ·grind
  have hr:s.drop (j+1)=r:=by have:=Cb hlt;rw[hd]at this;injection this with _ h2;exact h2.symm
  rw[show atS (c::r) 0=c from rfl];cases hp:p c with
  |true=> refine .inl ⟨_,rfl,⟨j+1,rfl,by omega,?_⟩,by grind⟩;rw[hr,<-he,hd,past,hp];rfl
  |false=> refine .inr (.inl ⟨_,rfl,?_⟩);rw[<-he,hd,past,hp,Ia (by decide),<-hd,zBT hj]
theorem uU{s:Str}{k:Nat}(b:s.length<=big)(a:k<=s.length):w64 ((k:Int)+1)=((k+1:Nat):Int):=by have c:big=4194304:=rfl;rw[Ql (by omega) (by omega)];omega
theorem zDE{s:Str}{k:Nat}(a:s.length<=big)(c:k<=s.length):Z5 (sc s k)=some (sc s (beh s (past spB (s.drop k)))):=by
 unfold Z5;rw[Tm (tL spB rfl (fun j b=> ?_) c)];simp only[ze,gy a b,Aa,Uv,uU a b]
 grind
theorem zBJ{s:Str}{k:Nat}(a:s.length<=big)(c:k<=s.length):ZH (sc s k)=some (sc s (beh s (past digB (s.drop k)))):=by
 unfold ZH;rw[Tm (tL digB rfl (fun j b=> ?_) c)];simp only[ze,gy a b,Aa,Im,uU a b]
 grind
theorem number_eq{s:Str}{k:Nat}(a:s.length<=big)(c:k<=s.length):qF (sc s k)=some (nbS (s.drop k)):=by
 unfold qF nbS unsign undot Yh;simp only[ze,gy a c,Aa,MJ,ay];have d: ∀(b:Bool),(Zv (X:=Int) (bif b then some (LX.out 1)else some (LX.out 0)) fun e=>
   Zv (X:=Int) ((zo (e,sc s k)).bind fun f=>bif f==46 then some (LX.out (w64 (e+1)))else some (LX.out e)) fun g=>
   (zo (g,sc s k)).bind fun i=>(Qy i).bind fun j=>some j)=some (digB (atS (if atS (if b then(s.drop k).drop 1 else s.drop k) 0==46 then(if b then(s.drop k).drop 1 else s.drop k).drop 1 else(if b then(s.drop k).drop 1 else s.drop k)) 0)):=by
  intro b;cases b with
  |false=>
   simp only[Ca,zJ,gy a c,Aa,LJ,Rb,Sd];cases h:atS (s.drop k) 0==46 with
   |false=>simp only[Ca,zJ,gy a c,Aa,Im,Rb,Sd]
   |true=> simp only[Da,zJ,Yd];rw[show w64 (0+1)=1 from rfl,TJ a c];simp only[Aa,Im];rw[si (s.drop k) 1 0]
  |true=>
   simp only[Da,zJ,TJ a c,Aa,LJ,Yd];rw[si (s.drop k) 1 0];cases h:atS (s.drop k) (1+0)==46 with
   |false=> simp only[Jc]at h;simp only[h,Ca,zJ,TJ a c,Aa,Im,Rb,Sd];rw[si (s.drop k) 1 0]
   |true=> simp only[Jc]at h;simp only[h,Da,zJ,Yd];rw[show w64 (1+1)=2 from rfl,zId a c];simp only[Aa,Im];rw[Cf,si (s.drop k) (1+1) 0]
 have:=d (atS (s.drop k) 0==43||atS (s.drop k) 0==45)
 grind
abbrev sr(s r:Str):zb:=sc s (beh s r)
theorem sr_0(s:Str):(⟨s,0⟩:zb)=sr s s:=by show sc s 0=sc s (beh s s);unfold beh;rw[Nat.sub_self]
theorem Gn{s r:Str}{n:Nat}(b:s.length<=big)(c:r<:+s)(a:n<=8):zo ((n:Int),sr s r)=some (pk r n):=by rw[gz b (ek s r) a,Gs c]
theorem jg{s r:Str}(a:s.length<=big)(b:r<:+s):zo (0,sr s r)=some (pk r 0):=Gn (n:=0) a b (by omega)
theorem uu{s r:Str}(a:s.length<=big)(b:r<:+s):zo (1,sr s r)=some (pk r 1):=Gn (n:=1) a b (by omega)
theorem zHs{s r:Str}(a:s.length<=big)(b:r<:+s):zo (2,sr s r)=some (pk r 2):=Gn (n:=2) a b (by omega)
theorem Fz{s r:Str}(a:s.length<=big)(b:r<:+s):Z5 (sr s r)=some (sr s (past spB r)):=by rw[zDE a (ek s r),Gs b]
theorem Jz{s r:Str}(a:s.length<=big)(b:r<:+s):ZH (sr s r)=some (sr s (past digB r)):=by rw[zBJ a (ek s r),Gs b]
theorem zFC{s r:Str}(a:s.length<=big)(b:r<:+s):qF (sr s r)=some (nbS r):=by rw[number_eq a (ek s r),Gs b]
theorem jK{s r:Str}{n:Nat}(a:r<:+s)(b:n<=r.length):beh s r+n=beh s (r.drop n):=by
 have:=a.length_le;unfold beh
 grind
theorem rD{s r:Str}{n:Nat}(c:s.length<=big)(a:r<:+s)(b:n<=r.length):(⟨s,w64 ((beh s r:Int)+(n:Int))⟩:zb)=sr s (r.drop n):=by have d:big=4194304:=rfl;have:=ek s r;have e:=a.length_le;rw[Ql (by omega) (by omega),show(beh s r:Int)+(n:Int)=((beh s r+n:Nat):Int) by omega,jK a b]
theorem Lu{l:Str}{n:Nat}(h:atS l n≠0):n<l.length:=by
 rcases Wd n l.length with a|a
 ·exact a
 ·exact absurd (by unfold atS;grind) h
theorem Xy{s r:Str}(a:s.length<=big)(b:r<:+s)(h:atS r 0≠0):(⟨s,w64 ((beh s r:Int)+1)⟩:zb)=sr s (r.drop 1):=rD (n:=1) a b (Lu h)
theorem Il{s r:Str}(a:r<:+s)(n:Nat):r.drop n<:+s:=(De n r).trans a
theorem Vo{s r:Str}(p:UInt8->Bool)(a:r<:+s):past p r<:+s:=(Jl p r).trans a
theorem VH{s r:Str}(a:r<:+s):unsign r<:+s:=by
 unfold unsign;split
 ·exact Il a 1
 ·exact a
theorem TU{b:UInt8}(h:Yh b=true):b≠0:=by rintro rfl;revert h;decide
theorem UJ(a b:Bool):(bif a then true else b)=(a||b):=by cases a<;>rfl
theorem vT(a b:Bool):(bif a then b else false)=(a&&b):=by cases a<;>rfl
theorem wM{s r:Str}(a:r<:+s):(qp r).1<:+s:=by
 unfold qp;split
 ·exact Vo _ (Il a 1)
 ·exact a
theorem SK{s r q:Str}(a:r<:+s)(h:expS r=some q):q<:+s:=by
 unfold expS at h;split at h
 ·split at h
  ·cases h;exact Vo _ (VH (Il a 1))
  ·cases h
 ·cases h
theorem OX{s r:Str}(b:r<:+s):(ZG r).1<:+s:=by
 unfold ZG;have a:=wM (Vo digB (VH b));simp only;cases h:expS (qp (past digB (unsign r))).1 with
 |some q=>exact SK a h
 |none=>exact a
theorem zCu{s l:Str}(hs:s.length<=big)(hl:l<:+s):QL (sr s l)=some ((ZG l).2,sr s (ZG l).1):=by
 unfold QL;simp only[ze,jg hs hl,Aa,MJ,ay,UJ];have e1:(bif (atS l 0==43||atS l 0==45)then some (LX.out (⟨s,w64 ((beh s l:Int)+1)⟩:zb))else some (LX.out (sr s l)))=(some (LX.out (sr s (unsign l))):Option (LX zb (Bool×zb))):=by
  unfold unsign;cases h:Yh (atS l 0)with
  |true=> have h':(atS l 0==43||atS l 0==45)=true:=h;rw[h',Da,Ka rfl,Xy hs hl (TU h)]
  |false=>
   have h':(atS l 0==43||atS l 0==45)=false:=h
   grind
 rw[e1,zJ];have hu:=VH hl;rw[Jz hs hu];simp only[Aa];have hp:=Vo digB hu;unfold ZG;generalize past digB (unsign l)=q at hp ⊢;have e2:Zv (X:=Bool×zb) (R:=Bool×zb) ((zo (0,sr s q)).bind fun y4=>
   (zK (y4==46) (zo (1,sr s q)) (default:Int)).bind fun y5=>
   (zK (y4==46) (Qy y5) (default:Bool)).bind fun y6=>
   bif bif y4==46 then y6 else false then(ZH (⟨s,w64 ((beh s q:Int)+1)⟩:zb)).bind fun y7=>some (LX.out (false,y7))else some (LX.out (true,sr s q)))=Zv (some (LX.out ((qp q).2,sr s (qp q).1))):=by
  congr 1;unfold qp;simp only[jg hs hp,uu hs hp,Aa,LJ];cases h:atS q 0==46 with
  |false=>simp_all
  |true=>
   simp only[Zl,Aa,Da,Im,Kb];cases h2:digB (atS q 1)with
   |false=>grind
   |true=> rw[Da,Ka rfl,Xy hs hp (by grind),Jz hs (Il hp 1)];rfl
 rw[e2,zJ];have hw:=wM hp;generalize qp q=W at hw ⊢;obtain⟨w,i⟩:=W;simp only at hw ⊢;have e3:((zo (0,sr s w)).bind fun y9=>
   (zK (!(y9==101)) (zo (0,sr s w)) (default:Int)).bind fun y10=>
   bif bif y9==101 then true else y10==69 then
    Zv (X:=(Bool×Int)×zb) ((zo (1,sr s w)).bind fun y11=>bif bif y11==43 then true else y11==45 then some (LX.out ((i,2),sr s w))else some (LX.out ((i,1),sr s w))) fun j12=>
    (zo (j12.1.2,j12.2)).bind fun y13=>(Qy y13).bind fun y14=>
    bif y14 then(ZH (⟨j12.2.s,w64 (j12.2.at_+j12.1.2)⟩:zb)).bind fun y15=>some (LX.out (false,y15))else some (LX.out (j12.1.1,j12.2))
   else some (LX.out (i,sr s w)))=(some (LX.out (match expS w with|some r=>(false,sr s r)|none=>(i,sr s w))):Option (LX (Bool×zb) (Bool×zb))):=by
  simp only[jg hs hw,Aa,zHt];have e4:((zK (!(atS w 0==101)) (some (pk w 0)) (default:Int)).bind fun y10=>(some (bif atS w 0==101 then true else y10==69):Option Bool))=some (atS w 0==101||atS w 0==69):=by
   cases h:atS w 0==101 with
   |true=>rfl
   |false=>simp only[Ua,Zl,Aa,Ca,zIi,Bg]
  have e5: ∀(f:Bool->Option (LX (Bool×zb) (Bool×zb))),((zK (!(atS w 0==101)) (some (pk w 0)) (default:Int)).bind fun y10=>f (bif atS w 0==101 then true else y10==69))=f (atS w 0==101||atS w 0==69):=by intro f;have:=congrArg (fun o=>Option.bind o f) e4;simpa [Option.bind_assoc] using this
  refine(e5 (fun b=>bif b then _ else _)).trans ?_;unfold expS;cases h:(atS w 0==101||atS w 0==69)with
  |false=>rfl
  |true=>
   have hne:atS w 0≠0:=by intro e;rw[e]at h;revert h;decide
   simp only[Da,Yd,uu hs hw,Aa,MJ,ay,UJ];unfold unsign;have hd:atS (w.drop 1) 0=atS w 1:=by rw[si w 1 0]
   rw[hd];cases hg:(atS w 1==43||atS w 1==45)with
   |true=>
    have hg':Yh (atS w 1)=true:=hg;have hl2:=Lu (TU hg');simp only[Da,zJ,zHs hs hw,Aa,Im,hg',Yd,Cf];rw[show atS (w.drop (1+1)) 0=atS w 2 by rw[si w 2 0]];cases hq:digB (atS w 2)with
    |false=>rfl
    |true=> rw[Da,Ka rfl,show(2:Int)=((2:Nat):Int)from rfl,rD hs hw (by omega),Jz hs (Il hw 2)];rfl
   |false=>
    have hg':Yh (atS w 1)=false:=hg;simp only[Ca,zJ,uu hs hw,Aa,Im,hg',Rb,Sd];rw[hd];cases hq:digB (atS w 1)with
    |false=>rfl
    |true=> rw[Da,Ka rfl,Xy hs hw hne,Jz hs (Il hw 1)];rfl
 refine(congrArg (fun o=>Zv o _) e3).trans ?_;rw[zJ];cases expS w<;>rfl
def valG(n:Nat)(l:Str):Nat:=l.foldl decN n
def d48(k:Nat):UInt8:=UInt8.ofNat (48+k)
def Fj(r:Nat):Str:=Lib.trimRightB [d48 (r / 100),d48 (r / 10%10),d48 (r%10)] 48
def jT(r:Nat):Bool:=(Fj r).all digB&&decide ((Fj r).length<=3)&&decide (valG 0 (Fj r)*10 ^ (3 - (Fj r).length)=r)&&((Fj r).isEmpty==(r==0))&& !((Fj r).getLast? ==some 48)
theorem zCy: ∀r,r<1000->jT r=true:=by decide+kernel
def yI(r:Nat)(p:Bool):Str:=bif (Fj r).isEmpty then(bif p then [46,48]else [])else 46::Fj r
def zH5(m:Nat)(p:Bool):Str:=Lib.decDigits (m / 1000)++yI (m%1000) p
def numT(n:Int)(p:Bool):Str:=(if n<0 then [45]else [])++zH5 n.natAbs p
def xy(n:Nat):Nat:=if 65<=n/\n<=90 then n+32 else n
def Yq(b:UInt8):UInt8:=UInt8.ofNat (xy b.toNat)
theorem zG4: ∀n:Nat,n<256->(bif decide (65<=(n:Int))then decide ((n:Int)<=90)else false)=true->Ef (ibOr IntKind.u8 (n:Int) 32)=some (UInt8.ofNat (xy n)):=by decide+kernel
def lowS(l:Str):Str:=l.map Yq
theorem lL{α:Type}{l:List α}{i:Nat}(h:i<l.length)(f:α->α):((l.take i).map f++l.drop i).set i (f l[i])=(l.take (i+1)).map f++l.drop (i+1):=by
 apply List.ext_getElem
 ·simp;omega
 ·intro j h1 h2;rw[List.getElem_set];split
  ·rename_i hij;subst hij;rw[List.getElem_append_left (by simp;omega)];simp
  ·rename_i hij;simp only[List.getElem_append,ma,Tc,List.getElem_map,List.getElem_take,List.getElem_drop];split
   ·rename_i hlt;rw[dif_pos (by omega)]
   ·rename_i hlt;rw[dif_neg (by omega)];congr 1;omega
theorem kU{α:Type}{l:List α}{i:Nat}(h:i<l.length)(f:α->α):((l.take i).map f++l.drop i)[i]? =some l[i]:=by rw[pg (by simp;omega)];simp[h,Nat.min_eq_left (Nat.le_of_lt h)]
theorem jU{α:Type}{l:List α}{i:Nat}(h:i<=l.length)(f:α->α):((l.take i).map f++l.drop i).length=l.length:=by simp;omega
theorem zCT{α:Type}{l:List α}{i:Nat}(h:i<l.length)(f:α->α)(e:f l[i]=l[i]):(l.take i).map f++l.drop i=(l.take (i+1)).map f++l.drop (i+1):=by
 rw[<-lL h f,e];apply List.ext_getElem?;intro j;rw[List.getElem?_set];split
 ·rename_i hij;subst hij;rw[kU h,jU (Nat.le_of_lt h),Ka h]
 ·rfl
theorem Dz(i:Nat):decide ((0:Int)<=(i:Int))=true:=Ha (by omega)
theorem Wm{l:Str}(h:l.length<=big):ZL l=some (lowS l):=by
 unfold ZL;rw[ZO (Ha (by unfold big at h;unfold maxLen;omega))];have key: ∀(k i:Nat),i+k=l.length-> ∃n,qd (X:=List UInt8) (R:=Str) (fun(s1:Int×List UInt8)=>
   bif decide (s1.1<(l.length:Int))then
    Zv (X:=Int×List UInt8) (
      need (decide (0<=s1.1)&&decide (s1.1<(s1.2.length:Int)))<|
      ze s1.2[s1.1.toNat]? fun y2=>
      bif bif decide (65<=(y2.toNat:Int))then decide ((y2.toNat:Int)<=90)else false then
       need (decide (0<=s1.1)&&decide (s1.1<(s1.2.length:Int)))<|
       ze s1.2[s1.1.toNat]? fun y3=>
       need (decide (0<=s1.1)&&decide (s1.1<(s1.2.length:Int)))<|
       ze s1.2[s1.1.toNat]? fun y4=>
       ze (Ef (ibOr IntKind.u8 (y3.toNat:Int) 32)) fun y5=>
       some (LX.out (s1.1,List.set s1.2 s1.1.toNat y5))
      else
       some (LX.out (s1.1,s1.2))) fun j6=>
    some (LO.again (w64 (j6.1+1),j6.2))
   else
    some (LO.out s1.2)) n ((i:Int),(l.take i).map Yq++l.drop i)=some (.out (lowS l)):=by
  intro k
  induction k with
  |zero=>
   intro i hi;have hi:i=l.length:=by omega
   subst hi;refine⟨1,?_⟩;simp only[qd,ZU,Ca];simp[lowS]
  |succ k ih=>
   intro i hi;have hlt:i<l.length:=by omega
   obtain⟨n,hn⟩:=ih (i+1) (by omega);refine⟨n+1,?_⟩;have hb:=Uc l[i];simp only[qd,jU (Nat.le_of_lt hlt),qa hlt,Da,Dz,Gc,ZF,Lb,kU hlt,ze,Aa];cases hc:(bif decide (65<=(l[i].toNat:Int))then decide ((l[i].toNat:Int)<=90)else false)with
   |true=> have e:=zG4 _ hb hc;simp only[e,Da,Aa,zJ,ZI hlt h];rw[show UInt8.ofNat (xy l[i].toNat)=Yq l[i]from rfl,lL hlt];exact hn
   |false=>
    have e:Yq l[i]=l[i]:=by unfold Yq xy;rw[Ia,Te];rintro⟨h1,h2⟩;rw[Ha (by omega),Da,Ha (by omega)]at hc;cases hc
    simp only[Ca,zJ,ZI hlt h];rw[zCT hlt Yq e];exact hn
 obtain⟨n,hn⟩:=key l.length 0 (by omega);replace hn:=xh hn;simp only[List.take_zero,List.map_nil,Mc,List.drop_zero]at hn;exact(qY hn).trans rfl
def Q9(l:Str):Bool:=l.all fun b=> !(b==0)
theorem JF(c:UInt8): ∀l:Str,decide (Lib.indexByte l c>=0)=l.any fun b=>b==c
 |[]=>rfl
 |b::l=>by
  have ih:=JF c l;have hg:=Lib.indexByte_ge l c;rw[List.any_cons,Lib.indexByte];cases hb:(b==c)with
  |true=>rfl
  |false=>
   rw[Bg,<-ih,Ia (by simp)];by_cases h:Lib.indexByte l c= -1
   ·rw[Ka (by rw[h];rfl),h]
   ·rw[Ia (by simpa using h)];rw[Ha (by omega),Ha (by omega)]
theorem zFx(l:Str):(l.any fun b=>b==0)= !Q9 l:=by
 unfold Q9
 induction l with
 |nil=>rfl
 |cons b l ih=>rw[List.any_cons,Oe,ih];cases (b==0)<;>simp
theorem ut(l:Str)(n:Int):strings_IndexByte (l,n)=some (Lib.indexByte l n.toNat.toUInt8):=rfl
theorem Yv(l:Str):decide (Lib.indexByte l (0:Int).toNat.toUInt8>=0)= !Q9 l:=(JF 0 l).trans (zFx l)
def Pk(l:Str):Bool:= !(l==[])&&(decide (l.length<=64)&&Q9 l)
theorem jk(n m:Nat):decide ((n:Int)>(m:Int))= !decide (n<=m):=by
 by_cases h:n<=m
 ·rw[Ha h,Ta (by omega)];rfl
 ·rw[Ta h,Ha (by omega)];rfl
def Br(l:Str):Bool:=Pk l&&lowS l==l
theorem kV(a b:Str):(a==b)=(b==a):=by
 cases h:(a==b)with
 |true=>rw[Ob]at h;subst h;exact(Be a).symm
 |false=>rw[Ga]at h;exact(Ga.2 (Ne.symm h)).symm
theorem PE(n m:Nat):decide ((n:Int)<=(m:Int))=decide (n<=m):=by
 by_cases h:n<=m
 ·rw[Ha h,Ha (by omega)]
 ·rw[Ta h,Ta (by omega)]
theorem Fs{f:Option Int}{p:Bool}{i:Int}(h:f=some i)(hp:decide (i>=0)=p):(ze f fun y=>some (decide (y>=0)))=some p:=by rw[h];exact congrArg some hp
theorem lK{α:Type}(p:α->Bool)(l:List α):(l.any fun v=> !p v)= !l.all p:=by
 induction l with
 |nil=>rfl
 |cons v l ih=>rw[List.any_cons,Oe,ih];cases p v<;>rfl
theorem ym(l m:Str):strings_HasPrefix (l,m)=some (m.isPrefixOf l):=by
 have key: ∀m l:Str,m.isPrefixOf l=(decide (m.length<=l.length)&&l.take m.length==m):=by
  intro m l;rw[Bool.eq_iff_iff];simp only[List.isPrefixOf_iff_prefix,Fa,Va,Ob];constructor
  ·rintro⟨t,rfl⟩;exact⟨by simp,by simp⟩
  ·rintro⟨h1,h2⟩;exact⟨l.drop m.length,by rw[<-h2,Tc,Nat.min_eq_left h1,Yf]⟩
 unfold strings_HasPrefix stringslite_HasPrefix;have e1:decide ((l.length:Int)>=(m.length:Int))=decide (m.length<=l.length):=PE _ _;have e2:decide ((m.length:Int)<=(l.length:Int))=decide (m.length<=l.length):=PE _ _;simp only[e1,e2,Dz,Kb,key];cases decide (m.length<=l.length)<;>rfl
theorem AZ(l m:Str):strings_TrimPrefix (l,m)=some (bif m.isPrefixOf l then l.drop m.length else l):=by
 have h:stringslite_HasPrefix (l,m)=some (m.isPrefixOf l):=by
  have:=ym l m;unfold strings_HasPrefix at this;cases hh:stringslite_HasPrefix (l,m)with
  |none=>simp only[hh]at this;cases this
  |some b=>simp only[hh]at this;exact this
 unfold strings_TrimPrefix stringslite_TrimPrefix;simp only[h,ze,Aa];cases hp:m.isPrefixOf l with
 |false=>rfl
 |true=> have hl:=(List.isPrefixOf_iff_prefix.1 hp).length_le;simp only[Da,Dz,Kb];rw[ZO (Ha (by omega))];rfl
theorem Xm{a b:Str}(h1:a.length<=big)(h2:b.length<=big):ZZ (a,b)=some (lowS a==lowS b):=by unfold ZZ;simp only[Wm h1,Wm h2,ze,Aa]
def ku(n:Nat):Bool:=
 !(n==0||n==9||n==10||n==12||n==13||n==32||n==34||n==39||n==40||n==41||n==44||n==58||n==59||n==91||n==93||n==95||n==123||n==125)&&
  (decide (n<128)&& !((decide (48<=n)&&decide (n<=57))||(decide (65<=n)&&decide (n<=90))||(decide (97<=n)&&decide (n<=122))))
def digN(n:Nat):Bool:=decide (48<=n)&&decide (n<=57)
theorem gY: ∀n:Nat,n<256->Nt (n:Int)=some (digN n):=by decide+kernel
theorem kZ(b:UInt8):Nt (b.toNat:Int)=some (digN b.toNat):=(gY _ (Uc b))
def namN(n:Nat):Bool:=digN n||(decide (65<=n)&&decide (n<=90))||(decide (97<=n)&&decide (n<=122))||n==95||n==45||decide (128<=n)
theorem dY: ∀n:Nat,n<256->dB (n:Int)=some (namN n):=by decide+kernel
theorem jZ(b:UInt8):dB (b.toNat:Int)=some (namN b.toNat):=(dY _ (Uc b))
def Ku:Str->Bool
 |[]=>false
 |b::r=>digN b.toNat||(b==45&&(r==[]||digN (r.headD 0).toNat))
theorem oF(b c:UInt8):((b.toNat:Int)==(c.toNat:Int))=(b==c):=by
 by_cases h:b=c
 ·subst h;simp
 ·have h2:b.toNat≠c.toNat:=fun e=>h (Hf.1 e);rw[Ga.2 h,Ga.2 (by omega)]
def numS:Str->Bool
 |[]=>false
 |b::r=>bif b==45 then !(r==[])&&digN (r.headD 0).toNat else digN b.toNat
theorem L8(l:Str):YC l=some (numS l):=by
 unfold YC;simp only[AZ,ze,Aa];have key: ∀m:Str,((zK (!(m==[])) (geti m 0) 0).bind fun y2=>(zK (!(m==[])) (Nt (y2.toNat:Int)) (default:Bool)).bind fun y3=>some (bif !(m==[])then y3 else false))=some (!(m==[])&&digN (m.headD 0).toNat):=by
  intro m;cases m with
  |nil=>rfl
  |cons b r=> have h0:geti (b::r) 0=some b:=rfl;have hn:(b::r==([]:Str))=false:=rfl;simp only[hn,Ua,Zl,h0,Aa,kZ,Da,List.headD_cons,Kb]
 rw[key];cases l with
 |nil=>rfl
 |cons b r=>
  have e:List.isPrefixOf [45] (b::r)=(b==45):=by
   show((45==b)&&true)=_;rw[Gc];cases hb:(b==45)with
   |true=>rw[Ob]at hb;subst hb;rfl
   |false=>rw[Ga]at hb;exact Ga.2 (Ne.symm hb)
  rw[e];show _=some (bif b==45 then !(r==[])&&digN (r.headD 0).toNat else digN b.toNat);cases b==45<;>rfl
theorem zC1(l:Str):((numS l&& !(List.isPrefixOf [45,45] l))||l==[45])=Ku l:=by
 cases l with
 |nil=>rfl
 |cons b r=>
  cases hb:(b==45)with
  |false=>
   have e1:List.isPrefixOf [45,45] (b::r)=false:=by show((45==b)&&_)=_;rw[Ga]at hb;rw[Ga.2 (Ne.symm hb)];rfl
   have e2:((b::r:Str)==[45])=false:=by show((b==45)&&_)=_;rw[hb];rfl
   rw[e1,e2];unfold numS Ku;simp[hb]
  |true=>
   rw[Ob]at hb;subst hb;cases r with
   |nil=>rfl
   |cons d r=>
    have e2:((45::d::r:Str)==[45])=false:=rfl;rw[e2];unfold numS Ku;have e1:List.isPrefixOf [45,45] (45::d::r)=(45==d):=by show((45==(45:UInt8))&&((45==d)&&true))=_;rw[Gc];rfl
    rw[e1];simp only[List.headD_cons];have hd:digN 45=false:=by decide
    cases h:(45==d)with
    |false=>simp[hd]
    |true=>rw[Ob]at h;subst h;rfl
def delS(l:Str):Bool:=match l with
 |[b]=>ku b.toNat
 |_=>false
def rngS(x:zk):Bool:=decide (-1000000000000<=x.num)&&(decide (x.num<=1000000000000)&&(!x.flag||Int.tmod x.num 1000==0))
def fJ(x:zk):Bool:=
 bif x.kind==1||x.kind==2||x.kind==3 then !(x.text==[])&&(Q9 x.text&&(x.num==0&&(x.unit==[]&& !x.flag)))
 else bif x.kind==4 then !(x.text==[])&&(Q9 x.text&&((x.flag||Ku x.text)&&(x.num==0&&x.unit==[])))
 else bif x.kind==5||x.kind==7 then Q9 x.text&&(x.num==0&&(x.unit==[]&& !x.flag))
 else bif x.kind==9 then delS x.text&&(x.num==0&&(x.unit==[]&& !x.flag))
 else bif x.kind==10||x.kind==11||x.kind==12 then rngS x&&((!(x.unit==[])==(x.kind==12))&&(Q9 x.unit&&((!(x.kind==11)|| !x.flag)&&x.text==[])))
 else(decide (13<=x.kind)&&decide (x.kind<=24))&&(x.text==[]&&(x.num==0&&(x.unit==[]&& !x.flag)))
abbrev su:Str:=[32,9,10,12,13,34,39,58,59,44,91,93,40,41,123,125]
theorem fH: ∀(m:Str) (c:UInt8),Lib.index m [c]=Lib.indexByte m c
 |[],c=>rfl
 |b::l,c=>by
  have h:List.isPrefixOf [c] (b::l)=(b==c):=by
   show(c==b&&List.isPrefixOf [] l)=_;rw[List.isPrefixOf,Gc];by_cases e:b=c
   ·subst e;rfl
   ·rw[Ga.2 e,Ga.2 (fun h=>e h.symm)]
  rw[Lib.index,Lib.indexByte,h,fH l c]
theorem contains_one(m:Str)(c:UInt8)(hm:short m=true:=by decide):strings_Contains (m,[c])=some (m.any fun b=>b==c):=by unfold strings_Contains;simp only[ik,hm,ZF,ze,Aa,fH,JF]
theorem I8(c:UInt8):strings_Contains ([32,9,10,12,13,34,39,58,59,44,91,93,40,41,123,125],[c])=some (su.any fun b=>b==c):=contains_one su c
theorem jW: ∀n:Nat,n<256->((bif bif !(UInt8.ofNat n==0)then !namN n else false then true else UInt8.ofNat n==45)&&(!(su.any fun b=>b==UInt8.ofNat n)))=ku n:=by decide+kernel
theorem zCn(b:UInt8):((bif bif !(b==0)then !namN b.toNat else false then true else b==45)&&(!(su.any fun c=>c==b)))=ku b.toNat:=by
 have:=jW b.toNat (Uc b)
 rwa [Te]at this
theorem wY(a b:Str):Q9 (a++b)=(Q9 a&&Q9 b):=by unfold Q9;rw[List.all_append]
theorem fU(n:Int):decide (n<0)= !decide (n>=0):=by
 by_cases h:n<0
 ·rw[Ha h,Ta (by omega)];rfl
 ·rw[Ta h,Ha (by omega)];rfl
theorem Uw{b:UInt8}(h:digB b=true):48<=b.toNat/\b.toNat<=57:=by unfold digB at h;simpa using h
theorem bK: ∀(q:Str),q.all digB=true->Lib.indexByte q 46= -1
 |[],_=>rfl
 |c::q,h=>by
  rw[Oe,Fa]at h;have a:=Uw h.1;have b:(c==46)=false:=by refine Ga.2 (fun e=> ?_);subst e;revert a;decide
  rw[Lib.indexByte,b,bK q h.2];rfl
theorem cK: ∀(q g:Str),q.all digB=true->Lib.indexByte (q++46::g) 46=(q.length:Int)
 |[],g,_=>by rw[Mc,Lib.indexByte];rfl
 |c::q,g,h=>by
  rw[Oe,Fa]at h;have hd:=Uw h.1;have hc:(c==46)=false:=by refine Ga.2 (fun e=> ?_);subst e;revert hd;decide
  rw[Db,Lib.indexByte,hc,cK q g h.2];have:((q.length:Int)== -1)=false:=Ga.2 (by omega);rw[this,Ea];simp
theorem mK: ∀(l:Str),(l.all fun b=>digB b||b==46)=true->Lib.indexAny l [101,69]= -1
 |[],_=>rfl
 |c::l,h=>by
  rw[Oe,Fa]at h;have hc:List.contains [101,69] c=false:=by
   have: ∀n:Nat,n<256->(digB (UInt8.ofNat n)||UInt8.ofNat n==46)=true->List.contains [101,69] (UInt8.ofNat n)=false:=by decide+kernel
   have:=this c.toNat (Uc c);rw[Te]at this;exact this h.1
  rw[Lib.indexAny,hc,mK l h.2];rfl
theorem zG9(g d:Bool)(b c:UInt8):(bif g then namN (bif g then b else c).toNat else d)=bif g then namN b.toNat else d:=by cases g<;>rfl
theorem eY{x:zk}(h1:x.text.length<=big)(h2:x.unit.length<=big):IB x=some (fJ x):=by
 unfold IB;rw[ZO (Sw.2 (by grind))];simp only[ze,ut,Aa];have hn:decide (Lib.indexByte (x.text++x.unit) (0:Int).toNat.toUInt8<0)=(Q9 x.text&&Q9 x.unit):=by rw[fU,Yv,wY,Bool.not_not]
 simp only[hn,L8,ym,ZJ,Aa,ge_iff_le,bne];have hb:=zC1 x.text;unfold fJ rngS;by_cases k9:x.kind=9
 ·simp only[k9,Int.reduceBEq,Da,Ca,zJ,Gf,Bg];cases ht:x.text with
  |nil=>
   have:Q9 ([]:Str)=true:=rfl;simp only[this,Kb];cases Q9 x.unit<;>rfl
  |cons b r=>
   cases r with
   |nil=>
    have hd:=zCn b;have e1:((([b]:Str).length:Int)==1)=true:=rfl;have e2:geti [b] 0=some b:=rfl;have e3:(([b]:Str)==[45])=(b==45):=by show((b==45)&&true)=_;rw[Gc]
    have e4:Q9 [b]= !(b==0):=by show((!(b==0))&&true)=_;rw[Gc]
    have e5:delS [b]=ku b.toNat:=rfl;simp only[e1,e2,e3,e4,e5,I8,jZ,ZJ,Aa,zG9,<-hd];cases hu:x.unit with
    |nil=>
     have:Q9 ([]:Str)=true:=rfl;simp only[this,Gc];generalize (su.any fun c=>c==b)=a1;cases namN b.toNat<;>cases (b==0)<;>cases (b==45)<;>cases a1<;>cases (x.num==0)<;>cases x.flag<;>rfl
    |cons c s=> simp_all
   |cons c r=>
    have e1:(((b::c::r:Str).length:Int)==1)=false:=Ga.2 (by grind);have e3:((b::c::r:Str)==[45])=false:=by show((b==45)&&false)=_;rw[Md]
    have e5:delS (b::c::r)=false:=rfl;simp only[e1,e3,e5];simp_all
 have b9:=Ga.2 k9;have hu:(x.unit==[])=true->Q9 x.unit=true:=fun h=>by rw[Ob]at h;rw[h];rfl
 have htx:(x.text==[])=true->Q9 x.text=true:=fun h=>by rw[Ob]at h;rw[h];rfl
 rw[<-hb];generalize hl45:(x.text==[45])=a11 at*;generalize (List.isPrefixOf [45,45] x.text)=a12 at*;generalize numS x.text=a3 at*;generalize Q9 x.text=a1 at*;generalize Q9 x.unit=a2 at*;generalize (x.text==[])=a4 at*;generalize (x.unit==[])=a5 at*;generalize (x.num==0)=a6 at*;generalize x.flag=a7 at*;generalize decide (-1000000000000<=x.num)=a8 at*;generalize decide (x.num<=1000000000000)=a9 at*;generalize (Int.tmod x.num 1000==0)=a10 at*;clear hb hn hl45;have K: ∀k:Int,k∈[1,2,3,4,5,7,10,11,12]->x.kind=k->True:=fun _ _ _=>trivial;clear K;by_cases k1:x.kind=1
 ·simp only[k1,zJ,Da,Ca,Int.reduceBEq]
  grind
 by_cases k2:x.kind=2
 ·simp only[k2,zJ,Da,Ca,Int.reduceBEq]
  grind
 by_cases k3:x.kind=3
 ·simp only[k3,zJ,Da,Ca,Int.reduceBEq]
  grind
 by_cases k4:x.kind=4
 ·simp only[k4,zJ,Da,Ca,Int.reduceBEq]
  grind
 by_cases k5:x.kind=5
 ·simp only[k5,zJ,Da,Ca,Int.reduceBEq]
  grind
 by_cases k7:x.kind=7
 ·simp only[k7,zJ,Da,Ca,Int.reduceBEq]
  grind
 by_cases k10:x.kind=10
 ·simp only[k10,zJ,Da,Ca,Int.reduceBEq]
  grind
 by_cases k11:x.kind=11
 ·simp only[k11,zJ,Da,Ca,Int.reduceBEq]
  grind
 by_cases k12:x.kind=12
 ·simp only[k12,zJ,Da,Ca,Int.reduceBEq]
  grind
 simp only[b9,Ga.2 k1,Ga.2 k2,Ga.2 k3,Ga.2 k4,Ga.2 k5,Ga.2 k7,Ga.2 k10,Ga.2 k11,Ga.2 k12,zJ,Da,Ca,Bool.or_self];cases decide (13<=x.kind)<;>cases decide (x.kind<=24)<;>cases a4<;>cases a5<;>cases a6<;>cases a7<;>rfl
theorem kX {R:Type} {step:Int->Option (LO Int Unit R)} {k:Unit->Option R} (n:Nat) (p:Nat->Bool) (r:R)
  (c: ∀(i:Nat),i<n->step (i:Int)=some (bif p i then .again ((i+1:Nat):Int)else .ret r)) (a:step (n:Int)=some (.out ())):
  Zp step 0 k=bif (List.range n).all p then k ()else some r:=by
 have e:=bB (k:=k) (List.range n) (fun i=>bif p i then none else some r) () (fun i b=> ?_) (by simpa using a)
 ·rw[e,Mw]
  grind
 grind
def wI:List zk->Bool
 |[]=>false
 |s::r=>bif s.kind==13 then(match r with|u::_=>u.kind==5|[]=>false)else s.kind==5
def zHd:List zk->Bool
 |[]=>false
 |s::_=>s.kind==13
def nJ(t:zk):Bool:=t.kind==2&&lowS t.text==[117,114,108]
def okAt:List zk->Bool
 |[]=>true
 |t::r=>(!(t.kind==9&&t.text==[92])||zHd r)&&(!(nJ t)||wI r)
def VJ(l:List zk)(i:Nat):Bool:=fJ (l.getD i default)&&okAt (l.drop i)
def gluS(l:List zk):Int:=bif decide (l.length<=1500)then(bif (List.range l.length).all (VJ l)then 0 else 8)else 4
theorem kF(l:List zk)(i:Nat)(k:Int):Bn (((i:Int),k),l)=some (match l[i]? with|some t=>t.kind==k|none=>false):=by
 unfold Bn;by_cases h:i<l.length
 ·simp only[qa h,Zl,Zy h,ze,Aa,Da,Sa h]
 ·have e:decide ((i:Int)<(l.length:Int))=false:=Ta (by omega);simp only[e,qK,ze,Aa,Ca,df (Nat.le_of_not_lt h)]
theorem dK:lowS [117,114,108]=[117,114,108]:=by decide
theorem iZ{t:zk}{r:List zk}(h:t.text.length<=big): ∃n:Int,cB (t::r)=some n/\(n==0)= !okAt (t::r):=by
 have e0:geti (t::r) 0=some t:=rfl;have p1:=kF (t::r) 1 13;have p15:=kF (t::r) 1 5;have p25:=kF (t::r) 2 5;unfold cB;simp only[e0,ze,Aa,Xm h (show([117,114,108]:Str).length<=big by decide),dK,ZJ];simp only[Int.natCast_one]at p1 p15;replace p25:Bn ((2,5),t::r)=_:=p25;rw[p1];unfold okAt nJ;cases hd:(t.kind==9&&t.text==[92])with
 |true=>
  have hk:t.kind=9:=by rw[Fa,Ob]at hd;exact hd.1
  have ht:(t.text==[92])=true:=by rw[Fa]at hd;exact hd.2
  simp only[hk,ht,Int.reduceBEq,Da,Ca,Aa];cases r with
  |nil=>exact⟨_,rfl,rfl⟩
  |cons s r=>
   show∃n:Int,(bif !(s.kind==13)then some 0 else some 2)=some n/\(n==0)= !((!true||s.kind==13)&&_);cases s.kind==13
   ·simp_all
   simp_all
 |false=>
  have hc:(bif t.kind==9 then t.text==[92]else false)=false:=by
   cases h9:t.kind==9
   ·rfl
   ·grind
  simp only[hc,hd,Ca,Ua,Bool.true_or,Kb];cases hu:(t.kind==2&&lowS t.text==[117,114,108])with
  |false=>
   have:(bif t.kind==2 then bif t.kind==2 then lowS t.text==[117,114,108]else default else false)=false:=by
    cases h2:t.kind==2
    ·rfl
    ·grind
   rw[this]
   grind
  |true=>
   rw[Fa]at hu;rw[hu.1,hu.2];simp only[Da,Aa];cases r with
   |nil=>exact⟨0,by simp[p15],rfl⟩
   |cons s r=>
    cases hs:s.kind==13 with
    |false=>
     have e1:(match(t::s::r)[1]? with|some t=>t.kind==13|none=>false)=false:=hs;have e5:Bn ((1,5),t::s::r)=some (s.kind==5):=p15;simp only[e1,Ca,zJ,e5,Aa,wI,hs];cases s.kind==5
     ·grind
     ·exact⟨2,by rfl,rfl⟩
    |true=>
     have e1:(match(t::s::r)[1]? with|some t=>t.kind==13|none=>false)=true:=hs;simp only[e1,Da,zJ,p25,Aa,wI,hs];cases r with
     |nil=>grind
     |cons u r=>
      show∃n:Int,(bif !(u.kind==5)then some 0 else some (w64 (2+1)))=some n/\(n==0)= !(!true||u.kind==5);cases u.kind==5
      ·grind
      ·exact⟨3,rfl,rfl⟩
theorem dW(l:List zk):decide ((l.length:Int)>1500)= !decide (l.length<=1500):=jk _ 1500
theorem lZ{l:List zk}(h: ∀t∈l,t.text.length<=big/\t.unit.length<=big):ow l=some (gluS l):=by
 unfold ow gluS;rw[dW];cases e:decide (l.length<=1500)with
 |false=>rfl
 |true=>
  have e:=Sb e;simp only[Eb,Ca,Da];refine(kX l.length (VJ l) 8 (fun i a=> ?_) ?_).trans ?_
  ·obtain⟨d,j⟩:=h _ (Pb a);have b:l.getD i default=l[i]:=by simp[a]
   have c:=Cb a;obtain⟨n,f,k⟩:=iZ (t:=l[i]) (r:=l.drop (i+1)) d;rw[<-c]at f k;have g:decide ((i:Int)<=(l.length:Int))=true:=Ha (by omega);unfold VJ;simp only[qa a,Da,Zy a,ze,Aa,eY d j,Dz,g,Kb,Bool.true_or,ZF,Lb,f,ZJ,ZI a (show l.length<=big by unfold big;omega),b]
   grind
  ·grind
  grind
def partT(r:Nat)(p:Bool):Str:=bif (Fj r).isEmpty then(bif p then [48]else [])else Fj r
theorem pU{r:Nat}(h:r<1000)(p:Bool):(partT r p).all digB=true/\(partT r p).length<=3/\valG 0 (partT r p)*10 ^ (3 - (partT r p).length)=r/\yI r p=(bif (partT r p).isEmpty then []else 46::partT r p)/\((partT r p).isEmpty=((r==0)&& !p)):=by
 have f:=zCy r h;simp only[jT,Fa,Va,Ob]at f;obtain⟨⟨⟨⟨a,b⟩,c⟩,d⟩,e⟩:=f;unfold partT yI;cases g:(Fj r).isEmpty with
 |true=>
  have i:r=0:=by rw[g]at d;exact Ob.1 d.symm
  subst i;cases p<;>refine⟨by decide,by decide,by decide,rfl,rfl⟩
 |false=>
  grind
theorem zEn{l:Str}(h:(l.all fun b=>digB b||b==46)=true):kg l=true:=by
 unfold kg;rw[Ec]at h ⊢;intro b hb;have:=h b hb;refine Ha ?_;rw[Fe]at this;rcases this with h1|h1
 ·have:=Uw h1;omega
 simp_all
theorem yK{c:UInt8}(h:digB c=true):c≠45/\c≠43/\c≠46/\c≠0/\List.contains [43,45] c=false:=by
 have: ∀n:Nat,n<256->digB (UInt8.ofNat n)=true->UInt8.ofNat n≠45/\UInt8.ofNat n≠43/\UInt8.ofNat n≠46/\UInt8.ofNat n≠0/\List.contains [43,45] (UInt8.ofNat n)=false:=by decide+kernel
 have:=this c.toNat (Uc c);simp_all
end Go.Lv.VT
