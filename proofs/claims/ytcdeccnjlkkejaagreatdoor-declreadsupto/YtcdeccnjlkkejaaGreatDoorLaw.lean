/- The reading of tokens: what the program's text and the reference's come to. -/
import Derived.Test.YtcdeccnjlkkejaaGreatDoorTy
import Derived.Test.YtcdeccnjlkkejaaGreatDoorMo
import Derived.Test.YtcdeccnjlkkejaaGreatDoorTx
set_option linter.unusedSimpArgs false
set_option linter.unusedVariables false
namespace Go.Lv.VT
def atS(l:Str)(n:Nat):UInt8:=l.getD n 0
def digB(b:UInt8):Bool:=decide (48<=b.toNat)&&decide (b.toNat<=57)
def spB(b:UInt8):Bool:=b==10||b==9||b==32
def alB(b:UInt8):Bool:=decide (65<=b.toNat)&&decide (b.toNat<=90)||decide (97<=b.toNat)&&decide (b.toNat<=122)
def fstB(b:UInt8):Bool:=alB b||b==95||decide (128<=b.toNat)
def letB(b:UInt8):Bool:=fstB b||digB b||b==45
def hexN(b:UInt8):Nat:=
 if digB b then b.toNat - 48 else if 97<=b.toNat/\b.toNat<=102 then b.toNat - 87 else if 65<=b.toNat/\b.toNat<=70 then b.toNat - 55 else 16
def Hg(b:UInt8):Bool:=decide (hexN b<16)
def escS(l:Str):Bool:=atS l 0==92&& !(atS l 1==10)
def nmS(l:Str):Bool:=if atS l 0==45 then fstB (atS l 1)||atS l 1==45||escS (l.drop 1)else fstB (atS l 0)||escS l
def Nj(b:UInt8):Bool:=b==43||b==45
def unsign(l:Str):Str:=if Nj (atS l 0)then l.drop 1 else l
def undot(l:Str):Str:=if atS l 0==46 then l.drop 1 else l
def nbS(l:Str):Bool:=digB (atS (undot (unsign l)) 0)
def Pm:Str:=[239,191,189]
def Ti(n:Nat):Str:=
 if n=0\/(55296<=n/\n<=57343)\/1114111<n then Pm
 else if n<128 then [UInt8.ofNat n]
 else if n<2048 then [UInt8.ofNat (192+n / 64),UInt8.ofNat (128+n%64)]
 else if n<65536 then [UInt8.ofNat (224+n / 4096),UInt8.ofNat (128+n / 64%64),UInt8.ofNat (128+n%64)]
 else [UInt8.ofNat (240+n / 262144),UInt8.ofNat (128+n / 4096%64),UInt8.ofNat (128+n / 64%64),UInt8.ofNat (128+n%64)]
def hexes:Nat->Nat->Str->Nat×Str
 |0,n,l=>(n,l)
 |_+1,n,[]=>(n,[])
 |k+1,n,c::r=>if Hg c then hexes k (16*n+hexN c) r else(n,c::r)
def unsp:Str->Str
 |[]=>[]
 |c::r=>if spB c then r else c::r
def zu:Str->Str×Str
 |[]=>(Pm,[])
 |c::r=>if Hg c then(Ti (hexes 6 0 (c::r)).1,unsp (hexes 6 0 (c::r)).2)else([c],r)
theorem Lx: ∀(k n:Nat) (l:Str),(hexes k n l).2<:+l
 |0,n,l=>Hd l
 |k+1,n,[]=>Hd _
 |k+1,n,c::r=>by
  unfold hexes;split
  ·exact(Lx k _ r).trans (Pe c r)
  grind
theorem lW(l:Str):unsp l<:+l:=by
 cases l with
 |nil=>exact Hd _
 |cons c r=>
  show(if spB c then r else c::r)<:+c::r
  grind
theorem Zd(l:Str):(zu l).2<:+l:=by
 cases l with
 |nil=>exact Hd _
 |cons c r=>
  show(if Hg c then(Ti (hexes 6 0 (c::r)).1,unsp (hexes 6 0 (c::r)).2)else([c],r)).2<:+c::r;split
  ·exact(lW _).trans (Lx 6 0 _)
  grind
theorem zJ(l:Str):(zu l).2.length<=l.length:=(Zd l).length_le
def zG:Str->Str×Str
 |[]=>([],[])
 |c::r=>
  if letB c then((c::(zG r).1),(zG r).2)
  else if escS (c::r)then((zu r).1++(zG (zu r).2).1,(zG (zu r).2).2)
  else([],c::r)
termination_by l=>l.length
decreasing_by
 all_goals first|(have:=zJ r;simp only[Ca];omega)|(simp only[Ca];omega)
def past(p:UInt8->Bool):Str->Str
 |[]=>[]
 |c::r=>if p c then past p r else c::r
theorem xm(p:UInt8->Bool): ∀l:Str,past p l<:+l
 |[]=>Hd _
 |c::r=>by
  unfold past;split
  ·exact(xm p r).trans (Pe c r)
  grind
def QI(l:Str):Str×Bool:=
 if atS l 0==46&&digB (atS l 1)then(past digB (l.drop 1),false)else(l,true)
def expS(l:Str):Option Str:=
 if atS l 0==101||atS l 0==69 then(if digB (atS (unsign (l.drop 1)) 0)then some (past digB (unsign (l.drop 1)))else none)else none
def Zc(l:Str):Str×Bool:=
 let x:=QI (past digB (unsign l))
 match expS x.1 with
 |some r=>(r,false)
 |none=>x
def decN(n:Nat)(b:UInt8):Nat:=10*n+(b.toNat - 48)
def upto(l r:Str):Str:=l.take (l.length - r.length)
def zS(m:UInt8):Str->Option Str×Str
 |[]=>(some [],[])
 |c::r=>
  if c==m then(some [],r)
  else if c==10 then(none,c::r)
  else if c==92 then
   (if r.isEmpty then(some [],[])
   else if atS r 0==10 then zS m (r.drop 1)
   else((zS m (zu r).2).1.map ((zu r).1++ ·),(zS m (zu r).2).2))
  else((zS m r).1.map (c:: ·),(zS m r).2)
termination_by l=>l.length
decreasing_by
 all_goals first|(have:=zJ r;simp only[Ca];omega)|(simp only[Ca,Ac];omega)
def badS:Str->Str
 |[]=>[]
 |c::r=>if c==41 then r else if escS (c::r)then badS (zu r).2 else badS r
termination_by l=>l.length
decreasing_by
 all_goals first|(have:=zJ r;simp only[Ca];omega)|(simp only[Ca];omega)
def unB(b:UInt8):Bool:=decide (b.toNat<=8)||b==11||decide (14<=b.toNat)&&decide (b.toNat<=31)||b==127
def urlS:Str->Option Str×Str
 |[]=>(some [],[])
 |c::r=>
  if c==41 then(some [],r)
  else if spB c then(match past spB r with
   |[]=>(some [],[])
   |d::r'=>if d==41 then(some [],r')else(none,badS (d::r')))
  else if c==34||c==39||c==40||unB c||c==92&& !escS (c::r)then(none,badS (c::r))
  else if c==92 then((urlS (zu r).2).1.map ((zu r).1++ ·),(urlS (zu r).2).2)
  else((urlS r).1.map (c:: ·),(urlS r).2)
termination_by l=>l.length
decreasing_by
 all_goals first|(have:=zJ r;simp only[Ca];omega)|(simp only[Ca];omega)
def xh(b:UInt8):Int:=
 if b==58 then 16 else if b==59 then 17 else if b==44 then 18 else if b==91 then 19 else if b==93 then 20 else if b==40 then 21 else if b==41 then 22 else if b==123 then 23 else if b==125 then 24 else 0
def xg(k:Int):zf:=⟨k,[],0,[],false⟩
def Og:Nat:=1000000000000
def jh:Nat->Nat->Nat
 |0,n=>n
 |k+1,n=>if n=0\/Og<=n then n else jh k (min Og (10*n))
set_option maxRecDepth 100000
abbrev sc(s:Str)(k:Nat):za:=⟨s,(k:Int)⟩
def pk(l:Str)(n:Nat):Int:=match l[n]? with|some b=>(b.toNat:Int)|none=> -1
def beh(s r:Str):Nat:=s.length - r.length
theorem Zg{n:Int}(h1: -9223372036854775808<=n)(h2:n<=9223372036854775807):w64 n=n:=ZV h1 h2
theorem Dp{s r:Str}(h:r<:+s):s.drop (beh s r)=r:=by obtain⟨t,rfl⟩:=h;unfold beh;rw[Ga,show t.length+r.length - r.length=t.length by omega,List.drop_left]
theorem ah(s r:Str):beh s r<=s.length:=by unfold beh;omega
theorem WX{s:Str}{k:Nat}(h:k<=s.length):beh s (s.drop k)=k:=by unfold beh;rw[Ac];omega
theorem JB{s:Str}{k n:Nat}(hs:s.length<=big)(hk:k<=s.length)(hn:n<=8):zg ((n:Int),sc s k)=some (pk (s.drop k) n):=by
 have hb:big=4194304:=rfl;have e:w64 ((k:Int)+(n:Int))=((k+n:Nat):Int):=by rw[Zg (by omega) (by omega)];omega
 unfold zg pk;simp only[e];rw[Md];by_cases h:k+n<s.length
 ·rw[Ia (by omega),Da];have hg:geti s ((k+n:Nat):Int)=some s[k+n]:=Zw h;have hlt:=Sd s[k+n];simp only[ze,hg,Aa,Ma h];rw[Zg (by omega) (by omega)]
 ·rw[Sa (by omega),Ba,Tg (by omega)]
theorem au{s:Str}{k:Nat}(hs:s.length<=big)(hk:k<=s.length):zg (0,sc s k)=some (pk (s.drop k) 0):=JB (n:=0) hs hk (by omega)
theorem JK{s:Str}{k:Nat}(hs:s.length<=big)(hk:k<=s.length):zg (1,sc s k)=some (pk (s.drop k) 1):=JB (n:=1) hs hk (by omega)
theorem zDm{s:Str}{k:Nat}(hs:s.length<=big)(hk:k<=s.length):zg (2,sc s k)=some (pk (s.drop k) 2):=JB (n:=2) hs hk (by omega)
theorem Su{β:Type}{f:Int->Option β}{p:UInt8->β}(h: ∀b:UInt8,f (b.toNat:Int)=some (p b))(h0:f (-1)=some (p 0))(l:Str)(n:Nat):f (pk l n)=some (p (atS l n)):=by
 unfold pk atS;rw[yc];cases l[n]? with
 |none=>exact h0
 |some b=>exact h b
theorem of_n{β:Type}{f:Int->Option β}{p:UInt8->β}(h: ∀n:Nat,n<256->f (n:Int)=some (p (UInt8.ofNat n)))(b:UInt8):f (b.toNat:Int)=some (p b):=by
 have:=h b.toNat (Sd b)
 rwa [Hf]at this
theorem Bw(l:Str)(n:Nat):qz (pk l n)=some (spB (atS l n)):=Su (of_n (by decide+kernel)) (by decide+kernel) l n
theorem om(l:Str)(n:Nat):Zz (pk l n)=some (digB (atS l n)):=Su (of_n (by decide+kernel)) (by decide+kernel) l n
theorem zBI(l:Str)(n:Nat):Kq (pk l n)=some (fstB (atS l n)):=Su (of_n (by decide+kernel)) (by decide+kernel) l n
theorem aM(l:Str)(n:Nat):Bu (pk l n)=some (letB (atS l n)):=Su (of_n (by decide+kernel)) (by decide+kernel) l n
def hexI(b:UInt8):Int:=if Hg b then(hexN b:Int)else -1
theorem gz(l:Str)(n:Nat):En (pk l n)=some (hexI (atS l n)):=Su (of_n (by decide+kernel)) (by decide+kernel) l n
theorem Pi(l:Str)(n:Nat)(c:UInt8)(h:c≠0):(pk l n==(c.toNat:Int))=(atS l n==c):=by
 unfold pk atS;rw[yc];cases l[n]? with
 |none=> have h1:((-1:Int)==(c.toNat:Int))=false:=Ja.2 (by omega);have h2:((none:Option UInt8).getD 0==c)=false:=Ja.2 (fun e=>h e.symm);rw[h2];exact h1
 |some b=>
  show((b.toNat:Int)==(c.toNat:Int))=(b==c);by_cases e:b=c
  ·subst e;rw[Vd,Vd]
  ·have:b.toNat≠c.toNat:=fun h=>e (mf.1 h);rw[Ja.2 e,Ja.2 (by omega)]
theorem IK(l:Str)(n:Nat):(pk l n==10)=(atS l n==10):=Pi l n 10 (by decide)
theorem KU(l:Str)(n:Nat):(pk l n==34)=(atS l n==34):=Pi l n 34 (by decide)
theorem zDn(l:Str)(n:Nat):(pk l n==35)=(atS l n==35):=Pi l n 35 (by decide)
theorem zDo(l:Str)(n:Nat):(pk l n==37)=(atS l n==37):=Pi l n 37 (by decide)
theorem JU(l:Str)(n:Nat):(pk l n==39)=(atS l n==39):=Pi l n 39 (by decide)
theorem zDp(l:Str)(n:Nat):(pk l n==40)=(atS l n==40):=Pi l n 40 (by decide)
theorem GK(l:Str)(n:Nat):(pk l n==41)=(atS l n==41):=Pi l n 41 (by decide)
theorem EK(l:Str)(n:Nat):(pk l n==43)=(atS l n==43):=Pi l n 43 (by decide)
theorem Yu(l:Str)(n:Nat):(pk l n==45)=(atS l n==45):=Pi l n 45 (by decide)
theorem DK(l:Str)(n:Nat):(pk l n==46)=(atS l n==46):=Pi l n 46 (by decide)
theorem zDq(l:Str)(n:Nat):(pk l n==64)=(atS l n==64):=Pi l n 64 (by decide)
theorem zDr(l:Str)(n:Nat):(pk l n==69)=(atS l n==69):=Pi l n 69 (by decide)
theorem IU(l:Str)(n:Nat):(pk l n==92)=(atS l n==92):=Pi l n 92 (by decide)
theorem zCr(l:Str)(n:Nat):(pk l n==101)=(atS l n==101):=Pi l n 101 (by decide)
theorem Jo(l:Str):(pk l 0== -1)=l.isEmpty:=by
 cases l with
 |nil=>rfl
 |cons b r=> show((b.toNat:Int)== -1)=false;exact Ja.2 (by omega)
theorem Uj(l:Str)(k n:Nat):atS (l.drop k) n=atS l (k+n):=by unfold atS;rw[yc,yc,Md]
theorem dM {R:Type} {step:za->Option (LO za za R)} {s:Str} (p:UInt8->Bool) (h0:p 0=false)
  (h: ∀k,k<=s.length->step (sc s k)=some (bif p (atS (s.drop k) 0)then .again (sc s (k+1))else .out (sc s k))) {k:Nat} (hk:k<=s.length):
  Fh step (sc s k)=some (.out (sc s (beh s (past p (s.drop k))))):=by
 refine ZM (fun z=> ∃j,z=sc s j/\j<=s.length/\past p (s.drop j)=past p (s.drop k)) (fun z=>s.length - z.at_.toNat) _ ?_ ⟨k,rfl,hk,rfl⟩;rintro _ ⟨j,rfl,hj,he⟩;rw[h j hj];cases hd:s.drop j with
 |nil=>
  rw[show atS ([]:Str) 0=0 from rfl,h0,Ba];refine .inr (.inl ⟨_,rfl,?_⟩);rw[<-he,hd];have:j=s.length:=by have:=We.1 hd;omega
  subst this;show LX.out (sc s (beh s []))=_;unfold beh;rw[Db,Nat.sub_zero]
 |cons c r=>
  have hlt:j<s.length:=by
   rcases Mc j s.length with h'|h'
   ·exact h'
   ·rw[Lf h']at hd;cases hd
  have hr:s.drop (j+1)=r:=by have:=Yb hlt;rw[hd]at this;injection this with _ h2;exact h2.symm
  rw[show atS (c::r) 0=c from rfl];cases hp:p c with
  |true=> refine .inl ⟨_,rfl,⟨j+1,rfl,by omega,?_⟩,by simp only[Va];omega⟩;rw[hr,<-he,hd,past,hp];rfl
  |false=> refine .inr (.inl ⟨_,rfl,?_⟩);rw[<-he,hd,past,hp,Ka (by decide),<-hd,WX hj]
theorem oK{s:Str}{k:Nat}(hs:s.length<=big)(hk:k<=s.length):w64 ((k:Int)+1)=((k+1:Nat):Int):=by have hb:big=4194304:=rfl;rw[Zg (by omega) (by omega)];omega
theorem dW{s:Str}{k:Nat}(hs:s.length<=big)(hk:k<=s.length):zV (sc s k)=some (sc s (beh s (past spB (s.drop k)))):=by unfold zV;rw[qC (dM spB rfl (fun j hj=> ?_) hk)];simp only[ze,au hs hj,Aa,Bw,oK hs hj];cases spB (atS (s.drop j) 0)<;>rfl
theorem pW{s:Str}{k:Nat}(hs:s.length<=big)(hk:k<=s.length):zR (sc s k)=some (sc s (beh s (past digB (s.drop k)))):=by unfold zR;rw[qC (dM digB rfl (fun j hj=> ?_) hk)];simp only[ze,au hs hj,Aa,om,oK hs hj];cases digB (atS (s.drop j) 0)<;>rfl
theorem number_eq{s:Str}{k:Nat}(hs:s.length<=big)(hk:k<=s.length):ZA (sc s k)=some (nbS (s.drop k)):=by
 unfold ZA nbS unsign undot Nj;simp only[ze,au hs hk,Aa,EK,Yu];have key: ∀(b:Bool),(zT (X:=Int) (bif b then some (LX.out 1)else some (LX.out 0)) fun j2=>
   zT (X:=Int) ((zg (j2,sc s k)).bind fun y3=>bif y3==46 then some (LX.out (w64 (j2+1)))else some (LX.out j2)) fun j4=>
   (zg (j4,sc s k)).bind fun y5=>(Zz y5).bind fun y6=>some y6)=some (digB (atS (if atS (if b then(s.drop k).drop 1 else s.drop k) 0==46 then(if b then(s.drop k).drop 1 else s.drop k).drop 1 else(if b then(s.drop k).drop 1 else s.drop k)) 0)):=by
  intro b;cases b with
  |false=>
   simp only[Ba,zh,au hs hk,Aa,DK,Yd,Nf];cases h:atS (s.drop k) 0==46 with
   |false=>simp only[Ba,zh,au hs hk,Aa,om,Yd,Nf]
   |true=> simp only[Da,zh,Ae];rw[show w64 (0+1)=1 from rfl,JK hs hk];simp only[Aa,om];rw[Uj (s.drop k) 1 0]
  |true=>
   simp only[Da,zh,JK hs hk,Aa,DK,Ae];rw[Uj (s.drop k) 1 0];cases h:atS (s.drop k) (1+0)==46 with
   |false=> simp only[Td]at h;simp only[h,Ba,zh,JK hs hk,Aa,om,Yd,Nf];rw[Uj (s.drop k) 1 0]
   |true=> simp only[Td]at h;simp only[h,Da,zh,Ae];rw[show w64 (1+1)=2 from rfl,zDm hs hk];simp only[Aa,om];rw[Bg,Uj (s.drop k) (1+1) 0]
 have:=key (atS (s.drop k) 0==43||atS (s.drop k) 0==45);rw[show(bif atS (s.drop k) 0==43 then true else atS (s.drop k) 0==45)=(atS (s.drop k) 0==43||atS (s.drop k) 0==45)from by cases (atS (s.drop k) 0==43)<;>rfl];exact this
abbrev sr(s r:Str):za:=sc s (beh s r)
theorem sr_0(s:Str):(⟨s,0⟩:za)=sr s s:=by show sc s 0=sc s (beh s s);unfold beh;rw[Nat.sub_self]
theorem Tn{s r:Str}{n:Nat}(hs:s.length<=big)(hr:r<:+s)(hn:n<=8):zg ((n:Int),sr s r)=some (pk r n):=by rw[JB hs (ah s r) hn,Dp hr]
theorem Kh{s r:Str}(hs:s.length<=big)(hr:r<:+s):zg (0,sr s r)=some (pk r 0):=Tn (n:=0) hs hr (by omega)
theorem Jv{s r:Str}(hs:s.length<=big)(hr:r<:+s):zg (1,sr s r)=some (pk r 1):=Tn (n:=1) hs hr (by omega)
theorem zCq{s r:Str}(hs:s.length<=big)(hr:r<:+s):zg (2,sr s r)=some (pk r 2):=Tn (n:=2) hs hr (by omega)
theorem GA{s r:Str}(hs:s.length<=big)(hr:r<:+s):zV (sr s r)=some (sr s (past spB r)):=by rw[dW hs (ah s r),Dp hr]
theorem jA{s r:Str}(hs:s.length<=big)(hr:r<:+s):zR (sr s r)=some (sr s (past digB r)):=by rw[pW hs (ah s r),Dp hr]
theorem zBq{s r:Str}(hs:s.length<=big)(hr:r<:+s):ZA (sr s r)=some (nbS r):=by rw[number_eq hs (ah s r),Dp hr]
theorem pF{s r:Str}{n:Nat}(hr:r<:+s)(hn:n<=r.length):beh s r+n=beh s (r.drop n):=by have:=hr.length_le;unfold beh;rw[Ac];omega
theorem bz{s r:Str}{n:Nat}(hs:s.length<=big)(hr:r<:+s)(hn:n<=r.length):(⟨s,w64 ((beh s r:Int)+(n:Int))⟩:za)=sr s (r.drop n):=by have hb:big=4194304:=rfl;have:=ah s r;have h2:=hr.length_le;rw[Zg (by omega) (by omega),show(beh s r:Int)+(n:Int)=((beh s r+n:Nat):Int) by omega,pF hr hn]
theorem pq{l:Str}{n:Nat}(h:atS l n≠0):n<l.length:=by
 rcases Mc n l.length with h'|h'
 ·exact h'
 ·exact absurd (by unfold atS;rw[yc,Tg h'];rfl) h
theorem Vu{s r:Str}(hs:s.length<=big)(hr:r<:+s)(h:atS r 0≠0):(⟨s,w64 ((beh s r:Int)+1)⟩:za)=sr s (r.drop 1):=bz (n:=1) hs hr (pq h)
theorem Kk{s r:Str}(hr:r<:+s)(n:Nat):r.drop n<:+s:=(Mf n r).trans hr
theorem Jk{s r:Str}(p:UInt8->Bool)(hr:r<:+s):past p r<:+s:=(xm p r).trans hr
theorem Ut{s r:Str}(hr:r<:+s):unsign r<:+s:=by
 unfold unsign;split
 ·exact Kk hr 1
 ·exact hr
theorem nK{b:UInt8}(h:Nj b=true):b≠0:=by rintro rfl;revert h;decide
theorem Sq(a b:Bool):(bif a then true else b)=(a||b):=by cases a<;>rfl
theorem KV(a b:Bool):(bif a then b else false)=(a&&b):=by cases a<;>rfl
theorem oG{s r:Str}(hr:r<:+s):(QI r).1<:+s:=by
 unfold QI;split
 ·exact Jk _ (Kk hr 1)
 ·exact hr
theorem zA0{s r q:Str}(hr:r<:+s)(h:expS r=some q):q<:+s:=by
 unfold expS at h;split at h
 ·split at h
  ·cases h;exact Jk _ (Ut (Kk hr 1))
  ·cases h
 ·cases h
theorem sO{s r:Str}(hr:r<:+s):(Zc r).1<:+s:=by
 unfold Zc;have h1:=oG (Jk digB (Ut hr));simp only;cases h:expS (QI (past digB (unsign r))).1 with
 |some q=>exact zA0 h1 h
 |none=>exact h1
theorem lX{s l:Str}(hs:s.length<=big)(hl:l<:+s):qj (sr s l)=some ((Zc l).2,sr s (Zc l).1):=by
 unfold qj;simp only[ze,Kh hs hl,Aa,EK,Yu,Sq];have e1:(bif (atS l 0==43||atS l 0==45)then some (LX.out (⟨s,w64 ((beh s l:Int)+1)⟩:za))else some (LX.out (sr s l)))=(some (LX.out (sr s (unsign l))):Option (LX za (Bool×za))):=by
  unfold unsign;cases h:Nj (atS l 0)with
  |true=> have h':(atS l 0==43||atS l 0==45)=true:=h;rw[h',Da,La rfl,Vu hs hl (nK h)]
  |false=> have h':(atS l 0==43||atS l 0==45)=false:=h;rw[h',Ba,Ka (by decide)]
 rw[e1,zh];have hu:=Ut hl;rw[jA hs hu];simp only[Aa];have hp:=Jk digB hu;unfold Zc;generalize past digB (unsign l)=q at hp ⊢;have e2:zT (X:=Bool×za) (R:=Bool×za) ((zg (0,sr s q)).bind fun y4=>
   (zo (y4==46) (zg (1,sr s q)) (default:Int)).bind fun y5=>
   (zo (y4==46) (Zz y5) (default:Bool)).bind fun y6=>
   bif bif y4==46 then y6 else false then(zR (⟨s,w64 ((beh s q:Int)+1)⟩:za)).bind fun y7=>some (LX.out (false,y7))else some (LX.out (true,sr s q)))=zT (some (LX.out ((QI q).2,sr s (QI q).1))):=by
  congr 1;unfold QI;simp only[Kh hs hp,Jv hs hp,Aa,DK];cases h:atS q 0==46 with
  |false=>simp only[zC,Aa,Ba,Sc,Yd,Nf]
  |true=>
   simp only[zn,Aa,Da,om,Rb];cases h2:digB (atS q 1)with
   |false=>simp only[Ba,Yd,Nf]
   |true=> rw[Da,La rfl,Vu hs hp (by rw[Lc.1 h];decide),jA hs (Kk hp 1)];rfl
 rw[e2,zh];have hw:=oG hp;generalize QI q=W at hw ⊢;obtain⟨w,i⟩:=W;simp only at hw ⊢;have e3:((zg (0,sr s w)).bind fun y9=>
   (zo (!(y9==101)) (zg (0,sr s w)) (default:Int)).bind fun y10=>
   bif bif y9==101 then true else y10==69 then
    zT (X:=(Bool×Int)×za) ((zg (1,sr s w)).bind fun y11=>bif bif y11==43 then true else y11==45 then some (LX.out ((i,2),sr s w))else some (LX.out ((i,1),sr s w))) fun j12=>
    (zg (j12.1.2,j12.2)).bind fun y13=>(Zz y13).bind fun y14=>
    bif y14 then(zR (⟨j12.2.s,w64 (j12.2.at_+j12.1.2)⟩:za)).bind fun y15=>some (LX.out (false,y15))else some (LX.out (j12.1.1,j12.2))
   else some (LX.out (i,sr s w)))=(some (LX.out (match expS w with|some r=>(false,sr s r)|none=>(i,sr s w))):Option (LX (Bool×za) (Bool×za))):=by
  simp only[Kh hs hw,Aa,zCr];have e4:((zo (!(atS w 0==101)) (some (pk w 0)) (default:Int)).bind fun y10=>(some (bif atS w 0==101 then true else y10==69):Option Bool))=some (atS w 0==101||atS w 0==69):=by
   cases h:atS w 0==101 with
   |true=>rfl
   |false=>simp only[Ya,zn,Aa,Ba,zDr,Xe]
  have e5: ∀(f:Bool->Option (LX (Bool×za) (Bool×za))),((zo (!(atS w 0==101)) (some (pk w 0)) (default:Int)).bind fun y10=>f (bif atS w 0==101 then true else y10==69))=f (atS w 0==101||atS w 0==69):=by intro f;have:=congrArg (fun o=>Option.bind o f) e4;simpa [Option.bind_assoc] using this
  refine(e5 (fun b=>bif b then _ else _)).trans ?_;unfold expS;cases h:(atS w 0==101||atS w 0==69)with
  |false=>rfl
  |true=>
   have hne:atS w 0≠0:=by intro e;rw[e]at h;revert h;decide
   simp only[Da,Ae,Jv hs hw,Aa,EK,Yu,Sq];unfold unsign;have hd:atS (w.drop 1) 0=atS w 1:=by rw[Uj w 1 0]
   rw[hd];cases hg:(atS w 1==43||atS w 1==45)with
   |true=>
    have hg':Nj (atS w 1)=true:=hg;have hl2:=pq (nK hg');simp only[Da,zh,zCq hs hw,Aa,om,hg',Ae,Bg];rw[show atS (w.drop (1+1)) 0=atS w 2 by rw[Uj w 2 0]];cases hq:digB (atS w 2)with
    |false=>rfl
    |true=> rw[Da,La rfl,show(2:Int)=((2:Nat):Int)from rfl,bz hs hw (by omega),jA hs (Kk hw 2)];rfl
   |false=>
    have hg':Nj (atS w 1)=false:=hg;simp only[Ba,zh,Jv hs hw,Aa,om,hg',Yd,Nf];rw[hd];cases hq:digB (atS w 1)with
    |false=>rfl
    |true=> rw[Da,La rfl,Vu hs hw hne,jA hs (Kk hw 1)];rfl
 refine(congrArg (fun o=>zT o _) e3).trans ?_;rw[zh];cases expS w<;>rfl
def valG(n:Nat)(l:Str):Nat:=l.foldl decN n
theorem vL: ∀(q t:Str),q.all digB=true->past digB (q++t)=past digB t
 |[],t,_=>rfl
 |c::q,t,h=>by rw[Ff,Ha]at h;rw[Tc,past,La h.1,vL q t h.2]
def d48(k:Nat):UInt8:=UInt8.ofNat (48+k)
def PU(r:Nat):Str:=Lib.trimRightB [d48 (r / 100),d48 (r / 10%10),d48 (r%10)] 48
def zDB(r:Nat)(p:Bool):Str:=bif (PU r).isEmpty then(bif p then [46,48]else [])else 46::PU r
def zC1(m:Nat)(p:Bool):Str:=Lib.decDigits (m / 1000)++zDB (m%1000) p
def numT(n:Int)(p:Bool):Str:=(if n<0 then [45]else [])++zC1 n.natAbs p
theorem zCZ{n m b:Nat}(h:n+m<=100000)(hb:b<=100):Zr n m b=true:=by unfold Zr;refine Ia ?_;have:=Nat.mul_le_mul h hb;omega
def Xm(n:Nat):Nat:=if 65<=n/\n<=90 then n+32 else n
def Xl(b:UInt8):UInt8:=UInt8.ofNat (Xm b.toNat)
theorem AX{n:Nat}(h:n<256):Xm n<256:=by unfold Xm;split<;>omega
theorem uZ(b:UInt8):(Xl b).toNat=Xm b.toNat:=by unfold Xl;rw[UInt8.toNat_ofNat'];exact af (AX (Sd b))
theorem YY: ∀n:Nat,n<256->Qu (n:Int)=some ((Xm n:Nat):Int):=by decide+kernel
theorem zCj: ∀n:Nat,n<256->(bif decide (65<=(n:Int))then decide ((n:Int)<=90)else false)=true->Z4 (ibOr IntKind.u8 (n:Int) 32)=some (UInt8.ofNat (Xm n)):=by decide+kernel
def lowS(l:Str):Str:=l.map Xl
theorem LG{α:Type}{l:List α}{i:Nat}(h:i<l.length)(f:α->α):((l.take i).map f++l.drop i).set i (f l[i])=(l.take (i+1)).map f++l.drop (i+1):=by
 apply List.ext_getElem
 ·simp;omega
 ·intro j h1 h2;rw[List.getElem_set];split
  ·rename_i hij;subst hij;rw[List.getElem_append_left (by simp;omega)];simp
  ·rename_i hij;simp only[List.getElem_append,Oa,Ld,List.getElem_map,List.getElem_take,List.getElem_drop];split
   ·rename_i hlt;rw[dif_pos (by omega)]
   ·rename_i hlt;rw[dif_neg (by omega)];congr 1;omega
theorem YF{α:Type}{l:List α}{i:Nat}(h:i<l.length)(f:α->α):((l.take i).map f++l.drop i)[i]? =some l[i]:=by rw[Ic (by simp;omega)];simp[h,og (Nat.le_of_lt h)]
theorem rA{α:Type}{l:List α}{i:Nat}(h:i<=l.length)(f:α->α):((l.take i).map f++l.drop i).length=l.length:=by simp;omega
theorem lV{α:Type}{l:List α}{i:Nat}(h:i<l.length)(f:α->α)(e:f l[i]=l[i]):(l.take i).map f++l.drop i=(l.take (i+1)).map f++l.drop (i+1):=by
 rw[<-LG h f,e];apply Mi;intro j;rw[List.getElem?_set];split
 ·rename_i hij;subst hij;rw[YF h,rA (Nat.le_of_lt h),La h]
 ·rfl
theorem Gv(i:Nat):decide ((0:Int)<=(i:Int))=true:=Ia (by omega)
theorem iC{l:Str}(h:l.length<=big):ZR l=some (lowS l):=by
 unfold ZR;rw[zD (Ia (by unfold big at h;unfold maxLen;omega))];have key: ∀(k i:Nat),i+k=l.length-> ∃n,qp (X:=List UInt8) (R:=Str) (fun(s1:Int×List UInt8)=>
   bif decide (s1.1<(s1.2.length:Int))then
    need (decide (0<=s1.1)&&decide (s1.1<(s1.2.length:Int)))<|
    ze s1.2[s1.1.toNat]? fun y2=>
    ze (Qu (y2.toNat:Int)) fun y3=>
    need (decide (0<=s1.1)&&decide (s1.1<(s1.2.length:Int)))<|
    ze s1.2[s1.1.toNat]? fun y4=>
    ze (Z4 y3) fun y5=>
    some (LO.again (w64 (s1.1+1),List.set s1.2 s1.1.toNat y5))
   else
    some (LO.out s1.2)) n ((i:Int),(l.take i).map Xl++l.drop i)=some (.out (lowS l)):=by
  intro k
  induction k with
  |zero=>
   intro i hi;have hi:i=l.length:=by omega
   subst hi;refine⟨1,?_⟩;simp only[qp,rA (Xa _),Z6,Ba];simp[lowS]
  |succ k ih=>
   intro i hi;have hlt:i<l.length:=by omega
   obtain⟨n,hn⟩:=ih (i+1) (by omega);refine⟨n+1,?_⟩;have hb:=Sd l[i];simp only[qp,rA (Nat.le_of_lt hlt),ZJ hlt,Da,Gv,Uc,Zi,Va,YF hlt,ze,Aa,YY _ hb];rw[<-uZ,ztR,Zb hlt h];simp only[Aa,LG hlt];exact hn
 obtain⟨n,hn⟩:=key l.length 0 (by omega);replace hn:=Dk hn;simp only[bf,Nc,Yc,Cf]at hn;exact(Qg hn).trans rfl
theorem JD{l:Str}(h:l.length<=big):qM l=some (lowS l):=by
 unfold qM;rw[zD (Ia (by unfold big at h;unfold maxLen;omega))];have key: ∀(k i:Nat),i+k=l.length-> ∃n,qp (X:=List UInt8) (R:=Str) (fun(s1:Int×List UInt8)=>
   bif decide (s1.1<(l.length:Int))then
    zT (X:=Int×List UInt8) (
      need (decide (0<=s1.1)&&decide (s1.1<(s1.2.length:Int)))<|
      ze s1.2[s1.1.toNat]? fun y2=>
      bif bif decide (65<=(y2.toNat:Int))then decide ((y2.toNat:Int)<=90)else false then
       need (decide (0<=s1.1)&&decide (s1.1<(s1.2.length:Int)))<|
       ze s1.2[s1.1.toNat]? fun y3=>
       need (decide (0<=s1.1)&&decide (s1.1<(s1.2.length:Int)))<|
       ze s1.2[s1.1.toNat]? fun y4=>
       ze (Z4 (ibOr IntKind.u8 (y3.toNat:Int) 32)) fun y5=>
       some (LX.out (s1.1,List.set s1.2 s1.1.toNat y5))
      else
       some (LX.out (s1.1,s1.2))) fun j6=>
    some (LO.again (w64 (j6.1+1),j6.2))
   else
    some (LO.out s1.2)) n ((i:Int),(l.take i).map Xl++l.drop i)=some (.out (lowS l)):=by
  intro k
  induction k with
  |zero=>
   intro i hi;have hi:i=l.length:=by omega
   subst hi;refine⟨1,?_⟩;simp only[qp,Z6,Ba];simp[lowS]
  |succ k ih=>
   intro i hi;have hlt:i<l.length:=by omega
   obtain⟨n,hn⟩:=ih (i+1) (by omega);refine⟨n+1,?_⟩;have hb:=Sd l[i];simp only[qp,rA (Nat.le_of_lt hlt),ZJ hlt,Da,Gv,Uc,Zi,Va,YF hlt,ze,Aa];cases hc:(bif decide (65<=(l[i].toNat:Int))then decide ((l[i].toNat:Int)<=90)else false)with
   |true=> have e:=zCj _ hb hc;simp only[e,Da,Aa,zh,Zb hlt h];rw[show UInt8.ofNat (Xm l[i].toNat)=Xl l[i]from rfl,LG hlt];exact hn
   |false=>
    have e:Xl l[i]=l[i]:=by unfold Xl Xm;rw[Ka,Hf];rintro⟨h1,h2⟩;rw[Ia (by omega),Da,Ia (by omega)]at hc;cases hc
    simp only[Ba,zh,Zb hlt h];rw[lV hlt Xl e];exact hn
 obtain⟨n,hn⟩:=key l.length 0 (by omega);replace hn:=Dk hn;simp only[bf,Nc,Yc,Cf]at hn;exact(Qg hn).trans rfl
def Qq(l:Str):Bool:=l.all fun b=> !(b==0)
theorem sF(c:UInt8): ∀l:Str,decide (Lib.indexByte l c>=0)=l.any fun b=>b==c
 |[]=>rfl
 |b::l=>by
  have ih:=sF c l;have hg:=Lib.indexByte_ge l c;rw[List.any_cons,Lib.indexByte];cases hb:(b==c)with
  |true=>rfl
  |false=>
   rw[Xe,<-ih,Ka (by simp)];by_cases h:Lib.indexByte l c= -1
   ·rw[La (by rw[h];rfl),h]
   ·rw[Ka (by simpa using h)];rw[Ia (by omega),Ia (by omega)]
theorem zBp(l:Str):(l.any fun b=>b==0)= !Qq l:=by
 unfold Qq
 induction l with
 |nil=>rfl
 |cons b l ih=>rw[List.any_cons,Ff,ih];cases (b==0)<;>simp
theorem RJ(l:Str)(n:Int):strings_IndexByte (l,n)=some (Lib.indexByte l n.toNat.toUInt8):=rfl
theorem WL(l:Str):decide (Lib.indexByte l (0:Int).toNat.toUInt8>=0)= !Qq l:=(sF 0 l).trans (zBp l)
theorem BF(n m:Nat):decide ((n:Int)>(m:Int))= !decide (n<=m):=by
 by_cases h:n<=m
 ·rw[Ia h,Sa (by omega)];rfl
 ·rw[Sa h,Ia (by omega)];rfl
theorem byte_zero(b:UInt8):((b.toNat:Int)==0)=(b==0):=by
 by_cases h:b=0
 ·subst h;rfl
 ·have h2:b.toNat≠0:=fun e=>h (mf.1 e);rw[Ja.2 h,Ja.2 (by omega)]
theorem bO(a b:Str):(a==b)=(b==a):=by
 cases h:(a==b)with
 |true=>rw[Lc]at h;subst h;exact(Vd a).symm
 |false=>rw[Ja]at h;exact(Ja.2 (Ne.symm h)).symm
theorem yU(n m:Nat):decide ((n:Int)<=(m:Int))=decide (n<=m):=by
 by_cases h:n<=m
 ·rw[Ia h,Ia (by omega)]
 ·rw[Sa h,Sa (by omega)]
theorem wM{f:Option Int}{p:Bool}{i:Int}(h:f=some i)(hp:decide (i>=0)=p):(ze f fun y=>some (decide (y>=0)))=some p:=by rw[h];exact congrArg some hp
theorem Jq(l m:Str):strings_HasPrefix (l,m)=some (m.isPrefixOf l):=by
 have key: ∀m l:Str,m.isPrefixOf l=(decide (m.length<=l.length)&&l.take m.length==m):=by
  intro m l;rw[ug];simp only[Uh,Ha,Gc,Lc];constructor
  ·rintro⟨t,rfl⟩;exact⟨by simp,by simp⟩
  ·rintro⟨h1,h2⟩;exact⟨l.drop m.length,by rw[<-h2,Ld,og h1,Pf]⟩
 unfold strings_HasPrefix stringslite_HasPrefix;have e1:decide ((l.length:Int)>=(m.length:Int))=decide (m.length<=l.length):=yU _ _;have e2:decide ((m.length:Int)<=(l.length:Int))=decide (m.length<=l.length):=yU _ _;simp only[e1,e2,Gv,Rb,key];cases decide (m.length<=l.length)<;>rfl
theorem M8(l m:Str):strings_TrimPrefix (l,m)=some (bif m.isPrefixOf l then l.drop m.length else l):=by
 have h:stringslite_HasPrefix (l,m)=some (m.isPrefixOf l):=by
  have:=Jq l m;unfold strings_HasPrefix at this;cases hh:stringslite_HasPrefix (l,m)with
  |none=>simp only[hh]at this;cases this
  |some b=>simp only[hh]at this;exact this
 unfold strings_TrimPrefix stringslite_TrimPrefix;simp only[h,ze,Aa];cases hp:m.isPrefixOf l with
 |false=>rfl
 |true=> have hl:=(Uh.1 hp).length_le;simp only[Da,Gv,Rb];rw[zD (Ia (by omega))];rfl
theorem vH{a b:Str}(h1:a.length<=big)(h2:b.length<=big):Qn (a,b)=some (lowS a==lowS b):=by unfold Qn;simp only[JD h1,JD h2,ze,Aa]
theorem KH{a b:Str}(h1:a.length<=big)(h2:b.length<=big):Z7 (a,b)=some (lowS a==lowS b):=by unfold Z7;simp only[iC h1,iC h2,ze,Aa]
def Vm(n:Nat):Bool:=
 !(n==0||n==9||n==10||n==12||n==13||n==32||n==34||n==39||n==40||n==41||n==44||n==58||n==59||n==91||n==93||n==95||n==123||n==125)&&
  (decide (n<128)&& !((decide (48<=n)&&decide (n<=57))||(decide (65<=n)&&decide (n<=90))||(decide (97<=n)&&decide (n<=122))))
set_option maxRecDepth 100000 in
theorem zAV: ∀n:Nat,n<256->LJ 40 (n:Int)=some (Vm n):=by decide+kernel
def UB:Prop:= ∀b:UInt8,qP (b.toNat:Int)=some (Vm b.toNat)
theorem znT:UB:=fun b=>
 znB 40 _ _ (zAV _ (Sd b))
def digN(n:Nat):Bool:=decide (48<=n)&&decide (n<=57)
theorem Y5: ∀n:Nat,n<256->zH (n:Int)=some (digN n):=by decide+kernel
theorem yN(b:UInt8):zH (b.toNat:Int)=some (digN b.toNat):=(Y5 _ (Sd b))
theorem P7: ∀n:Nat,n<256->Jn (n:Int)=some (digN n):=by decide+kernel
theorem F9(b:UInt8):Jn (b.toNat:Int)=some (digN b.toNat):=(P7 _ (Sd b))
def namN(n:Nat):Bool:=digN n||(decide (65<=n)&&decide (n<=90))||(decide (97<=n)&&decide (n<=122))||n==95||n==45||decide (128<=n)
theorem N7: ∀n:Nat,n<256->yx (n:Int)=some (namN n):=by decide+kernel
theorem E9(b:UInt8):yx (b.toNat:Int)=some (namN b.toNat):=(N7 _ (Sd b))
def Nl:Str->Bool
 |[]=>false
 |b::r=>digN b.toNat||(b==45&&(r==[]||digN (r.headD 0).toNat))
theorem qE(b c:UInt8):((b.toNat:Int)==(c.toNat:Int))=(b==c):=by
 by_cases h:b=c
 ·subst h;simp
 ·have h2:b.toNat≠c.toNat:=fun e=>h (mf.1 e);rw[Ja.2 h,Ja.2 (by omega)]
theorem zAP(b:UInt8):((b.toNat:Int)==45)=(b==45):=qE b 45
theorem zp6(l:Str):Iy l=some (Nl l):=by
 unfold Iy;cases l with
 |nil=>rfl
 |cons b r=>
  have h0:geti (b::r) 0=some b:=rfl;have hn:(b::r==([]:Str))=false:=rfl;simp only[hn,Ba,h0,ze,Aa,yN,ZW,zAP];cases r with
  |nil=>
   have e:(([b]:Str)==[45])=(b==45):=by show((b==45)&&true)=_;rw[Uc]
   simp only[e];unfold Nl;cases hb:(b==45)with
   |false=>cases h2:digN b.toNat<;>simp[hb,zo,h2]
   |true=>cases h2:digN b.toNat<;>simp[hb,zo,h2]
  |cons d r=>
   have h1:geti (b::d::r) 1=some d:=rfl;have e:((b::d::r:Str)==[45])=false:=by show((b==45)&&false)=_;rw[Xd]
   simp only[h1,e,ZW,Aa,yN,Nl,List.headD_cons];cases hb:(b==45)<;>cases h2:digN b.toNat<;>simp[hb]
def numS:Str->Bool
 |[]=>false
 |b::r=>bif b==45 then !(r==[])&&digN (r.headD 0).toNat else digN b.toNat
theorem zlK(l:Str):ky l=some (numS l):=by
 unfold ky;simp only[M8,ze,Aa];have key: ∀m:Str,((zo (!(m==[])) (geti m 0) 0).bind fun y2=>(zo (!(m==[])) (Jn (y2.toNat:Int)) (default:Bool)).bind fun y3=>some (bif !(m==[])then y3 else false))=some (!(m==[])&&digN (m.headD 0).toNat):=by
  intro m;cases m with
  |nil=>rfl
  |cons b r=> have h0:geti (b::r) 0=some b:=rfl;have hn:(b::r==([]:Str))=false:=rfl;simp only[hn,Ya,zn,h0,Aa,F9,Da,List.headD_cons,Rb]
 rw[key];cases l with
 |nil=>rfl
 |cons b r=>
  have e:List.isPrefixOf [45] (b::r)=(b==45):=by
   show((45==b)&&true)=_;rw[Uc];cases hb:(b==45)with
   |true=>rw[Lc]at hb;subst hb;rfl
   |false=>rw[Ja]at hb;exact Ja.2 (Ne.symm hb)
  rw[e];show _=some (bif b==45 then !(r==[])&&digN (r.headD 0).toNat else digN b.toNat);cases b==45<;>rfl
theorem dV(l:Str):((numS l&& !(List.isPrefixOf [45,45] l))||l==[45])=Nl l:=by
 cases l with
 |nil=>rfl
 |cons b r=>
  cases hb:(b==45)with
  |false=>
   have e1:List.isPrefixOf [45,45] (b::r)=false:=by show((45==b)&&_)=_;rw[Ja]at hb;rw[Ja.2 (Ne.symm hb)];rfl
   have e2:((b::r:Str)==[45])=false:=by show((b==45)&&_)=_;rw[hb];rfl
   rw[e1,e2];unfold numS Nl;simp[hb]
  |true=>
   rw[Lc]at hb;subst hb;cases r with
   |nil=>rfl
   |cons d r=>
    have e2:((45::d::r:Str)==[45])=false:=rfl;rw[e2];unfold numS Nl;have e1:List.isPrefixOf [45,45] (45::d::r)=(45==d):=by show((45==(45:UInt8))&&((45==d)&&true))=_;rw[Uc];rfl
    rw[e1];simp only[List.headD_cons];have hd:digN 45=false:=by decide
    cases h:(45==d)with
    |false=>simp[hd]
    |true=>rw[Lc]at h;subst h;rfl
def delS(l:Str):Bool:=match l with
 |[b]=>Vm b.toNat
 |_=>false
def rngS(x:zf):Bool:=decide (-1000000000000<=x.num)&&(decide (x.num<=1000000000000)&&(!x.flag||Int.tmod x.num 1000==0))
def yn(x:zf):Bool:=
 bif x.kind==1||x.kind==2||x.kind==3 then !(x.text==[])&&(Qq x.text&&(x.num==0&&(x.unit==[]&& !x.flag)))
 else bif x.kind==4 then !(x.text==[])&&(Qq x.text&&((x.flag||Nl x.text)&&(x.num==0&&x.unit==[])))
 else bif x.kind==5||x.kind==7 then Qq x.text&&(x.num==0&&(x.unit==[]&& !x.flag))
 else bif x.kind==9 then delS x.text&&(x.num==0&&(x.unit==[]&& !x.flag))
 else bif x.kind==10||x.kind==11||x.kind==12 then rngS x&&((!(x.unit==[])==(x.kind==12))&&(Qq x.unit&&((!(x.kind==11)|| !x.flag)&&x.text==[])))
 else(decide (13<=x.kind)&&decide (x.kind<=24))&&(x.text==[]&&(x.num==0&&(x.unit==[]&& !x.flag)))
theorem WS{l:Str}(h:l.length<=big):Nn l=some (Qq l):=by
 unfold Nn;refine(Ny l (fun b=>bif (!(b==0))then none else some false) () (fun i hi=> ?_) ?_).trans ?_
 ·simp only[ZJ hi,Da,Zw hi,ze,Aa,byte_zero,Zb hi h];cases l[i]==0<;>rfl
 ·simp only[Z6,Ba]
 ·rw[cB];show _=some (Qq l);unfold Qq;cases l.all (fun b=> !(b==0))<;>rfl
theorem one_byte(l:Str)(p:Nat->Bool)(d:Bool)(f:Int->Option Bool)(hf: ∀b:UInt8,f (b.toNat:Int)=some (p b.toNat))(g:Bool):
  ((zo (g&&(l.length:Int)==1) (geti l 0) (0:UInt8)).bind fun y=>zo (g&&(l.length:Int)==1) (f (y.toNat:Int)) d)=some (bif g&&(l.length:Int)==1 then(match l with|[b]=>p b.toNat|_=>false)else d):=by
 cases g with
 |false=>rfl
 |true=>
  cases l with
  |nil=>rfl
  |cons b r=>
   cases r with
   |nil=> show((geti [b] 0).bind fun y=>f (y.toNat:Int))=some (p b.toNat);rw[show geti [b] 0=some b from rfl];exact hf b
   |cons c r=> have:(((b::c::r).length:Int)==1)=false:=Ja.2 (by simp only[Ca];omega);rw[this];rfl
theorem I4(hD:UB)(l:Str)(g:Bool):((zo (g&&(l.length:Int)==1) (geti l 0) (0:UInt8)).bind fun y=>zo (g&&(l.length:Int)==1) (qP (y.toNat:Int)) (default:Bool))=some (bif g&&(l.length:Int)==1 then delS l else default):=
 one_byte l Vm default qP hD g
theorem FX(l:Str):(((l.length:Int)==1)&&delS l)=delS l:=by
 cases l with
 |nil=>rfl
 |cons b r=>
  cases r with
  |nil=>rfl
  |cons c r=> have:(((b::c::r).length:Int)==1)=false:=Ja.2 (by simp only[Ca];omega);rw[this];rfl
theorem zp7(hD:UB){x:zf}(h1:x.text.length<=big)(h2:x.unit.length<=big):Hy x=some (yn x):=by
 have hd:=I4 hD x.text true;simp only[Rb]at hd;have hd':((zo ((x.text.length:Int)==1) (geti x.text 0) (0:UInt8)).bind fun y7=>(zo ((x.text.length:Int)==1) (qP (y7.toNat:Int)) (default:Bool)).bind fun y8=>some (bif bif (x.text.length:Int)==1 then y8 else false then x.kind==x.kind&&(([]:Str)==[]&&(x.num==0&&(x.unit==[]&&(x.flag==false&&true))))else false))=some (delS x.text&&(x.num==0&&(x.unit==[]&& !x.flag))):=by
  have e: ∀(k:Bool->Option Bool),((zo ((x.text.length:Int)==1) (geti x.text 0) (0:UInt8)).bind fun y7=>(zo ((x.text.length:Int)==1) (qP (y7.toNat:Int)) (default:Bool)).bind k)=(((zo ((x.text.length:Int)==1) (geti x.text 0) (0:UInt8)).bind fun y=>zo ((x.text.length:Int)==1) (qP (y.toNat:Int)) (default:Bool))).bind k:=by intro k;rw[Option.bind_assoc]
  rw[e,hd,Aa,<-FX x.text];simp only[Vd];cases (x.text.length:Int)==1<;>cases delS x.text<;>cases x.flag<;>rfl
 unfold Hy;simp only[ze,WS h1,WS h2,zp6,ZW,Aa,ge_iff_le];unfold yn rngS;by_cases k9:x.kind=9
 ·simp only[k9,Int.reduceBEq,Da,Ba,zh,Fg,Xe]at hd' ⊢;exact hd'
 clear hd hd';have b9:=Ja.2 k9;generalize delS x.text=a0;generalize Qq x.text=a1;generalize Qq x.unit=a2;generalize Nl x.text=a3;generalize hc1:(x.text==[])=a4;generalize hc2:(x.unit==[])=a5;generalize hc3:(x.num==0)=a6;generalize hc4:x.flag=a7;generalize decide (-1000000000000<=x.num)=a8;generalize decide (x.num<=1000000000000)=a9;generalize (Int.tmod x.num 1000==0)=a10;by_cases k1:x.kind=1
 ·simp only[k1,zh,Da,Ba,hc1,hc2,hc3,hc4,Int.reduceBEq];cases a1<;>cases a4<;>cases a5<;>cases a6<;>cases a7<;>rfl
 by_cases k2:x.kind=2
 ·simp only[k2,zh,Da,Ba,hc1,hc2,hc3,hc4,Int.reduceBEq];cases a1<;>cases a4<;>cases a5<;>cases a6<;>cases a7<;>rfl
 by_cases k3:x.kind=3
 ·simp only[k3,zh,Da,Ba,hc1,hc2,hc3,hc4,Int.reduceBEq];cases a1<;>cases a4<;>cases a5<;>cases a6<;>cases a7<;>rfl
 by_cases k4:x.kind=4
 ·simp only[k4,zh,Da,Ba,hc1,hc2,hc3,hc4,Int.reduceBEq];cases a1<;>cases a3<;>cases a4<;>cases a5<;>cases a6<;>cases a7<;>rfl
 by_cases k5:x.kind=5
 ·simp only[k5,zh,Da,Ba,hc1,hc2,hc3,hc4,Int.reduceBEq];cases a1<;>cases a4<;>cases a5<;>cases a6<;>cases a7<;>rfl
 by_cases k7:x.kind=7
 ·simp only[k7,zh,Da,Ba,hc1,hc2,hc3,hc4,Int.reduceBEq];cases a1<;>cases a4<;>cases a5<;>cases a6<;>cases a7<;>rfl
 by_cases k10:x.kind=10
 ·simp only[k10,zh,Da,Ba,hc1,hc2,hc3,hc4,Int.reduceBEq];cases a2<;>cases a4<;>cases a5<;>cases a7<;>cases a8<;>cases a9<;>cases a10<;>rfl
 by_cases k11:x.kind=11
 ·simp only[k11,zh,Da,Ba,hc1,hc2,hc3,hc4,Int.reduceBEq];cases a2<;>cases a4<;>cases a5<;>cases a7<;>cases a8<;>cases a9<;>cases a10<;>rfl
 by_cases k12:x.kind=12
 ·simp only[k12,zh,Da,Ba,hc1,hc2,hc3,hc4,Int.reduceBEq];cases a2<;>cases a4<;>cases a5<;>cases a7<;>cases a8<;>cases a9<;>cases a10<;>rfl
 simp only[b9,Ja.2 k1,Ja.2 k2,Ja.2 k3,Ja.2 k4,Ja.2 k5,Ja.2 k7,Ja.2 k10,Ja.2 k11,Ja.2 k12,zh,Da,Ba,hc1,hc2,hc3,hc4,Vd,Bool.or_self];by_cases k6:x.kind=6
 ·simp only[k6,zh,Da,Ba,Int.reduceBEq];rfl
 by_cases k8:x.kind=8
 ·simp only[k8,zh,Da,Ba,Int.reduceBEq];rfl
 simp only[Ja.2 k6,Ja.2 k8,zh,Da,Ba];have e:(decide (1<=x.kind)&&decide (x.kind<=24))=(decide (13<=x.kind)&&decide (x.kind<=24)):=by
  by_cases hh:13<=x.kind
  ·rw[Ia hh,Ia (by omega)]
  ·rw[Sa hh];by_cases h1:1<=x.kind
   ·omega
   ·rw[Sa h1]
 rw[<-e];cases decide (1<=x.kind)<;>cases decide (x.kind<=24)<;>cases a4<;>cases a5<;>cases a6<;>cases a7<;>rfl
abbrev Ar:Str:=[32,9,10,12,13,34,39,58,59,44,91,93,40,41,123,125]
theorem YI: ∀(m:Str) (c:UInt8),Lib.index m [c]=Lib.indexByte m c
 |[],c=>rfl
 |b::l,c=>by
  have h:List.isPrefixOf [c] (b::l)=(b==c):=by
   show(c==b&&List.isPrefixOf [] l)=_;rw[List.isPrefixOf,Uc];by_cases e:b=c
   ·subst e;rfl
   ·rw[Ja.2 e,Ja.2 (fun h=>e h.symm)]
  rw[Lib.index,Lib.indexByte,h,YI l c]
theorem contains_one(m:Str)(c:UInt8)(hm:short m=true:=by decide):strings_Contains (m,[c])=some (m.any fun b=>b==c):=by unfold strings_Contains;simp only[Ul,hm,Zi,ze,Aa,YI,sF]
theorem znr(c:UInt8):strings_Contains ([32,9,10,12,13,34,39,58,59,44,91,93,40,41,123,125],[c])=some (Ar.any fun b=>b==c):=contains_one Ar c
theorem J4: ∀n:Nat,n<256->((bif bif !(UInt8.ofNat n==0)then !namN n else false then true else UInt8.ofNat n==45)&&(!(Ar.any fun b=>b==UInt8.ofNat n)))=Vm n:=by decide+kernel
theorem EX(b:UInt8):((bif bif !(b==0)then !namN b.toNat else false then true else b==45)&&(!(Ar.any fun c=>c==b)))=Vm b.toNat:=by
 have:=J4 b.toNat (Sd b)
 rwa [Hf]at this
theorem G8(a b:Str):Qq (a++b)=(Qq a&&Qq b):=by unfold Qq;rw[List.all_append]
theorem zBn(n:Int):decide (n<0)= !decide (n>=0):=by
 by_cases h:n<0
 ·rw[Ia h,Sa (by omega)];rfl
 ·rw[Sa h,Ia (by omega)];rfl
theorem Ot{b:UInt8}(h:digB b=true):48<=b.toNat/\b.toNat<=57:=by unfold digB at h;simpa using h
theorem XL: ∀(q:Str),q.all digB=true->Lib.indexByte q 46= -1
 |[],_=>rfl
 |c::q,h=>by
  rw[Ff,Ha]at h;have hd:=Ot h.1;have hc:(c==46)=false:=by refine Ja.2 (fun e=> ?_);subst e;revert hd;decide
  rw[Lib.indexByte,hc,XL q h.2];rfl
theorem YL: ∀(q g:Str),q.all digB=true->Lib.indexByte (q++46::g) 46=(q.length:Int)
 |[],g,_=>by rw[Yc,Lib.indexByte];rfl
 |c::q,g,h=>by
  rw[Ff,Ha]at h;have hd:=Ot h.1;have hc:(c==46)=false:=by refine Ja.2 (fun e=> ?_);subst e;revert hd;decide
  rw[Tc,Lib.indexByte,hc,YL q g h.2];have:((q.length:Int)== -1)=false:=Ja.2 (by omega);rw[this,Ca];simp
theorem dL: ∀(l:Str),(l.all fun b=>digB b||b==46)=true->Lib.indexAny l [101,69]= -1
 |[],_=>rfl
 |c::l,h=>by
  rw[Ff,Ha]at h;have hc:List.contains [101,69] c=false:=by
   have: ∀n:Nat,n<256->(digB (UInt8.ofNat n)||UInt8.ofNat n==46)=true->List.contains [101,69] (UInt8.ofNat n)=false:=by decide+kernel
   have:=this c.toNat (Sd c);rw[Hf]at this;exact this h.1
  rw[Lib.indexAny,hc,dL l h.2];rfl
end Go.Lv.VT
