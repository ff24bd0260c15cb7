/- The reading of tokens: what the program's text and the reference's come to. -/
import Derived.Test.YtcdeccnjlkkejaaGreatDoorTy
import Derived.Test.YtcdeccnjlkkejaaGreatDoorMo
import Derived.Test.YtcdeccnjlkkejaaGreatDoorTx
set_option linter.unusedSimpArgs false
set_option linter.unusedVariables false
namespace Go.Lv.VT
def atS(l:Str)(n:Nat):UInt8:=l.getD n 0
def digB(b:UInt8):Bool:=decide (48<=b.toNat)&&decide (b.toNat<=57)
def spB(b:UInt8):Bool:=b==10||b==9||b==32
def alB(b:UInt8):Bool:=decide (65<=b.toNat)&&decide (b.toNat<=90)||decide (97<=b.toNat)&&decide (b.toNat<=122)
def fstB(b:UInt8):Bool:=alB b||b==95||decide (128<=b.toNat)
def letB(b:UInt8):Bool:=fstB b||digB b||b==45
def hexN(b:UInt8):Nat:=
 if digB b then b.toNat - 48 else if 97<=b.toNat/\b.toNat<=102 then b.toNat - 87 else if 65<=b.toNat/\b.toNat<=70 then b.toNat - 55 else 16
def Qb(b:UInt8):Bool:=decide (hexN b<16)
def escS(l:Str):Bool:=atS l 0==92&& !(atS l 1==10)
def nmS(l:Str):Bool:=if atS l 0==45 then fstB (atS l 1)||atS l 1==45||escS (l.drop 1)else fstB (atS l 0)||escS l
def Sg(b:UInt8):Bool:=b==43||b==45
def unsign(l:Str):Str:=if Sg (atS l 0)then l.drop 1 else l
def undot(l:Str):Str:=if atS l 0==46 then l.drop 1 else l
def nbS(l:Str):Bool:=digB (atS (undot (unsign l)) 0)
def dm:Str:=[239,191,189]
def Uh(n:Nat):Str:=
 if n=0\/(55296<=n/\n<=57343)\/1114111<n then dm
 else if n<128 then [UInt8.ofNat n]
 else if n<2048 then [UInt8.ofNat (192+n / 64),UInt8.ofNat (128+n%64)]
 else if n<65536 then [UInt8.ofNat (224+n / 4096),UInt8.ofNat (128+n / 64%64),UInt8.ofNat (128+n%64)]
 else [UInt8.ofNat (240+n / 262144),UInt8.ofNat (128+n / 4096%64),UInt8.ofNat (128+n / 64%64),UInt8.ofNat (128+n%64)]
def hexes:Nat->Nat->Str->Nat×Str
 |0,n,l=>(n,l)
 |_+1,n,[]=>(n,[])
 |k+1,n,c::r=>if Qb c then hexes k (16*n+hexN c) r else(n,c::r)
def unsp:Str->Str
 |[]=>[]
 |c::r=>if spB c then r else c::r
def zq:Str->Str×Str
 |[]=>(dm,[])
 |c::r=>if Qb c then(Uh (hexes 6 0 (c::r)).1,unsp (hexes 6 0 (c::r)).2)else([c],r)
theorem gD: ∀(k n:Nat) (l:Str),(hexes k n l).2<:+l
 |0,n,l=>Ae l
 |k+1,n,[]=>Ae _
 |k+1,n,c::r=>by
  unfold hexes;split
  ·exact(gD k _ r).trans (Te c r)
  grind
theorem zAQ(l:Str):unsp l<:+l:=by
 cases l with
 |nil=>exact Ae _
 |cons c r=>
  show(if spB c then r else c::r)<:+c::r
  grind
theorem ZO(l:Str):(zq l).2<:+l:=by
 cases l with
 |nil=>exact Ae _
 |cons c r=>
  show(if Qb c then(Uh (hexes 6 0 (c::r)).1,unsp (hexes 6 0 (c::r)).2)else([c],r)).2<:+c::r;split
  ·exact(zAQ _).trans (gD 6 0 _)
  grind
theorem zP(l:Str):(zq l).2.length<=l.length:=(ZO l).length_le
def zm:Str->Str×Str
 |[]=>([],[])
 |c::r=>
  if letB c then((c::(zm r).1),(zm r).2)
  else if escS (c::r)then((zq r).1++(zm (zq r).2).1,(zm (zq r).2).2)
  else([],c::r)
termination_by l=>l.length
decreasing_by
 all_goals first|(have:=zP r;simp only[Ia];omega)|(simp only[Ia];omega)
def past(p:UInt8->Bool):Str->Str
 |[]=>[]
 |c::r=>if p c then past p r else c::r
theorem Wn(p:UInt8->Bool): ∀l:Str,past p l<:+l
 |[]=>Ae _
 |c::r=>by
  unfold past;split
  ·exact(Wn p r).trans (Te c r)
  grind
def zS(l:Str):Str×Bool:=
 if atS l 0==46&&digB (atS l 1)then(past digB (l.drop 1),false)else(l,true)
def expS(l:Str):Option Str:=
 if atS l 0==101||atS l 0==69 then(if digB (atS (unsign (l.drop 1)) 0)then some (past digB (unsign (l.drop 1)))else none)else none
def zC(l:Str):Str×Bool:=
 let x:=zS (past digB (unsign l))
 match expS x.1 with
 |some r=>(r,false)
 |none=>x
def decN(n:Nat)(b:UInt8):Nat:=10*n+(b.toNat - 48)
def zZ(m:UInt8):Str->Option Str×Str
 |[]=>(some [],[])
 |c::r=>
  if c==m then(some [],r)
  else if c==10 then(none,c::r)
  else if c==92 then
   (if r.isEmpty then(some [],[])
   else if atS r 0==10 then zZ m (r.drop 1)
   else((zZ m (zq r).2).1.map ((zq r).1++ ·),(zZ m (zq r).2).2))
  else((zZ m r).1.map (c:: ·),(zZ m r).2)
termination_by l=>l.length
decreasing_by
 all_goals first|(have:=zP r;simp only[Ia];omega)|(simp only[Ia,Dc];omega)
def badS:Str->Str
 |[]=>[]
 |c::r=>if c==41 then r else if escS (c::r)then badS (zq r).2 else badS r
termination_by l=>l.length
decreasing_by
 all_goals first|(have:=zP r;simp only[Ia];omega)|(simp only[Ia];omega)
def unB(b:UInt8):Bool:=decide (b.toNat<=8)||b==11||decide (14<=b.toNat)&&decide (b.toNat<=31)||b==127
def urlS:Str->Option Str×Str
 |[]=>(some [],[])
 |c::r=>
  if c==41 then(some [],r)
  else if spB c then(match past spB r with
   |[]=>(some [],[])
   |d::r'=>if d==41 then(some [],r')else(none,badS (d::r')))
  else if c==34||c==39||c==40||unB c||c==92&& !escS (c::r)then(none,badS (c::r))
  else if c==92 then((urlS (zq r).2).1.map ((zq r).1++ ·),(urlS (zq r).2).2)
  else((urlS r).1.map (c:: ·),(urlS r).2)
termination_by l=>l.length
decreasing_by
 all_goals first|(have:=zP r;simp only[Ia];omega)|(simp only[Ia];omega)
def Bh(b:UInt8):Int:=
 if b==58 then 16 else if b==59 then 17 else if b==44 then 18 else if b==91 then 19 else if b==93 then 20 else if b==40 then 21 else if b==41 then 22 else if b==123 then 23 else if b==125 then 24 else 0
def uh(k:Int):zb:=⟨k,[],0,[],false⟩
def Pi:Nat:=1000000000000
def Ej:Nat->Nat->Nat
 |0,n=>n
 |k+1,n=>if n=0\/Pi<=n then n else Ej k (min Pi (10*n))
set_option maxRecDepth 100000
abbrev sc(s:Str)(k:Nat):za:=⟨s,(k:Int)⟩
def pk(l:Str)(n:Nat):Int:=match l[n]? with|some b=>(b.toNat:Int)|none=> -1
def beh(s r:Str):Nat:=s.length - r.length
theorem Za{n:Int}(h1: -9223372036854775808<=n)(h2:n<=9223372036854775807):w64 n=n:=Gm h1 h2
theorem Hu{s r:Str}(h:r<:+s):s.drop (beh s r)=r:=by obtain⟨t,rfl⟩:=h;unfold beh;rw[Ba,show t.length+r.length - r.length=t.length by omega,List.drop_left]
theorem Uk(s r:Str):beh s r<=s.length:=by unfold beh;omega
theorem HY{s:Str}{k:Nat}(h:k<=s.length):beh s (s.drop k)=k:=by unfold beh;rw[Dc];omega
theorem UB{s:Str}{k n:Nat}(hs:s.length<=big)(hk:k<=s.length)(hn:n<=8):zf ((n:Int),sc s k)=some (pk (s.drop k) n):=by
 have hb:big=4194304:=rfl;have e:w64 ((k:Int)+(n:Int))=((k+n:Nat):Int):=by rw[Za (by omega) (by omega)];omega
 unfold zf pk;simp only[e];rw[Pd];by_cases h:k+n<s.length
 ·rw[La (by omega),Ja];have hg:geti s ((k+n:Nat):Int)=some s[k+n]:=QX h;have hlt:=Ob s[k+n];simp only[ze,hg,Aa,Ma h];rw[Za (by omega) (by omega)]
 ·rw[Ib (by omega),Ha,List.getElem?_eq_none (by omega)]
theorem Tv{s:Str}{k:Nat}(hs:s.length<=big)(hk:k<=s.length):zf (0,sc s k)=some (pk (s.drop k) 0):=UB (n:=0) hs hk (by omega)
theorem WL{s:Str}{k:Nat}(hs:s.length<=big)(hk:k<=s.length):zf (1,sc s k)=some (pk (s.drop k) 1):=UB (n:=1) hs hk (by omega)
theorem zEM{s:Str}{k:Nat}(hs:s.length<=big)(hk:k<=s.length):zf (2,sc s k)=some (pk (s.drop k) 2):=UB (n:=2) hs hk (by omega)
theorem Mv{β:Type}{f:Int->Option β}{p:UInt8->β}(h: ∀b:UInt8,f (b.toNat:Int)=some (p b))(h0:f (-1)=some (p 0))(l:Str)(n:Nat):f (pk l n)=some (p (atS l n)):=by
 unfold pk atS;rw[Ad];cases l[n]? with
 |none=>exact h0
 |some b=>exact h b
theorem of_n{β:Type}{f:Int->Option β}{p:UInt8->β}(h: ∀n:Nat,n<256->f (n:Int)=some (p (UInt8.ofNat n)))(b:UInt8):f (b.toNat:Int)=some (p b):=by
 have:=h b.toNat (Ob b)
 rwa [Uc]at this
theorem uw(l:Str)(n:Nat):qc (pk l n)=some (spB (atS l n)):=Mv (of_n (by decide+kernel)) (by decide+kernel) l n
theorem Pn(l:Str)(n:Nat):Zr (pk l n)=some (digB (atS l n)):=Mv (of_n (by decide+kernel)) (by decide+kernel) l n
theorem zC3(l:Str)(n:Nat):Oq (pk l n)=some (fstB (atS l n)):=Mv (of_n (by decide+kernel)) (by decide+kernel) l n
theorem jN(l:Str)(n:Nat):wu (pk l n)=some (letB (atS l n)):=Mv (of_n (by decide+kernel)) (by decide+kernel) l n
def hexI(b:UInt8):Int:=if Qb b then(hexN b:Int)else -1
theorem dF(l:Str)(n:Nat):bn (pk l n)=some (hexI (atS l n)):=Mv (of_n (by decide+kernel)) (by decide+kernel) l n
theorem ai(l:Str)(n:Nat)(c:UInt8)(h:c≠0):(pk l n==(c.toNat:Int))=(atS l n==c):=by
 unfold pk atS;rw[Ad];cases l[n]? with
 |none=> have h1:((-1:Int)==(c.toNat:Int))=false:=Fa.2 (by omega);have h2:((none:Option UInt8).getD 0==c)=false:=Fa.2 (fun e=>h e.symm);rw[h2];exact h1
 |some b=>
  show((b.toNat:Int)==(c.toNat:Int))=(b==c);by_cases e:b=c
  ·subst e;rw[mf,mf]
  ·have:b.toNat≠c.toNat:=fun h=>e (Pf.1 h);rw[Fa.2 e,Fa.2 (by omega)]
theorem UL(l:Str)(n:Nat):(pk l n==10)=(atS l n==10):=ai l n 10 (by decide)
theorem dW(l:Str)(n:Nat):(pk l n==34)=(atS l n==34):=ai l n 34 (by decide)
theorem zEN(l:Str)(n:Nat):(pk l n==35)=(atS l n==35):=ai l n 35 (by decide)
theorem zEO(l:Str)(n:Nat):(pk l n==37)=(atS l n==37):=ai l n 37 (by decide)
theorem bW(l:Str)(n:Nat):(pk l n==39)=(atS l n==39):=ai l n 39 (by decide)
theorem zEP(l:Str)(n:Nat):(pk l n==40)=(atS l n==40):=ai l n 40 (by decide)
theorem TL(l:Str)(n:Nat):(pk l n==41)=(atS l n==41):=ai l n 41 (by decide)
theorem PL(l:Str)(n:Nat):(pk l n==43)=(atS l n==43):=ai l n 43 (by decide)
theorem Sv(l:Str)(n:Nat):(pk l n==45)=(atS l n==45):=ai l n 45 (by decide)
theorem NL(l:Str)(n:Nat):(pk l n==46)=(atS l n==46):=ai l n 46 (by decide)
theorem zEQ(l:Str)(n:Nat):(pk l n==64)=(atS l n==64):=ai l n 64 (by decide)
theorem zER(l:Str)(n:Nat):(pk l n==69)=(atS l n==69):=ai l n 69 (by decide)
theorem IW(l:Str)(n:Nat):(pk l n==92)=(atS l n==92):=ai l n 92 (by decide)
theorem zD7(l:Str)(n:Nat):(pk l n==101)=(atS l n==101):=ai l n 101 (by decide)
theorem Dp(l:Str):(pk l 0== -1)=l.isEmpty:=by
 cases l with
 |nil=>rfl
 |cons b r=> show((b.toNat:Int)== -1)=false;exact Fa.2 (by omega)
theorem Qy(l:Str)(k n:Nat):atS (l.drop k) n=atS l (k+n):=by unfold atS;rw[Ad,Ad,Pd]
theorem nN {R:Type} {step:za->Option (LO za za R)} {s:Str} (p:UInt8->Bool) (h0:p 0=false)
  (h: ∀k,k<=s.length->step (sc s k)=some (bif p (atS (s.drop k) 0)then .again (sc s (k+1))else .out (sc s k))) {k:Nat} (hk:k<=s.length):
  Nh step (sc s k)=some (.out (sc s (beh s (past p (s.drop k))))):=by
 refine Qj (fun z=> ∃j,z=sc s j/\j<=s.length/\past p (s.drop j)=past p (s.drop k)) (fun z=>s.length - z.at_.toNat) _ ?_ ⟨k,rfl,hk,rfl⟩;rintro _ ⟨j,rfl,hj,he⟩;rw[h j hj];cases hd:s.drop j with
 |nil=>
  rw[show atS ([]:Str) 0=0 from rfl,h0,Ha];refine .inr (.inl ⟨_,rfl,?_⟩);rw[<-he,hd];have:j=s.length:=by have:=Ff.1 hd;omega
  subst this;show LX.out (sc s (beh s []))=_;unfold beh;rw[Lc,Nat.sub_zero]
 |cons c r=>
  have hlt:j<s.length:=by
   rcases Sc j s.length with h'|h'
   ·exact h'
   ·rw[Pe h']at hd;cases hd
  have hr:s.drop (j+1)=r:=by have:=Ub hlt;rw[hd]at this;injection this with _ h2;exact h2.symm
  rw[show atS (c::r) 0=c from rfl];cases hp:p c with
  |true=> refine .inl ⟨_,rfl,⟨j+1,rfl,by omega,?_⟩,by simp only[Bc];omega⟩;rw[hr,<-he,hd,past,hp];rfl
  |false=> refine .inr (.inl ⟨_,rfl,?_⟩);rw[<-he,hd,past,hp,Ga (by decide),<-hd,HY hj]
theorem FM{s:Str}{k:Nat}(hs:s.length<=big)(hk:k<=s.length):w64 ((k:Int)+1)=((k+1:Nat):Int):=by have hb:big=4194304:=rfl;rw[Za (by omega) (by omega)];omega
theorem zAW{s:Str}{k:Nat}(hs:s.length<=big)(hk:k<=s.length):zR (sc s k)=some (sc s (beh s (past spB (s.drop k)))):=by unfold zR;rw[Qk (nN spB rfl (fun j hj=> ?_) hk)];simp only[ze,Tv hs hj,Aa,uw,FM hs hj];cases spB (atS (s.drop j) 0)<;>rfl
theorem IZ{s:Str}{k:Nat}(hs:s.length<=big)(hk:k<=s.length):zO (sc s k)=some (sc s (beh s (past digB (s.drop k)))):=by unfold zO;rw[Qk (nN digB rfl (fun j hj=> ?_) hk)];simp only[ze,Tv hs hj,Aa,Pn,FM hs hj];cases digB (atS (s.drop j) 0)<;>rfl
theorem number_eq{s:Str}{k:Nat}(hs:s.length<=big)(hk:k<=s.length):Zt (sc s k)=some (nbS (s.drop k)):=by
 unfold Zt nbS unsign undot Sg;simp only[ze,Tv hs hk,Aa,PL,Sv];have key: ∀(b:Bool),(zW (X:=Int) (bif b then some (LX.out 1)else some (LX.out 0)) fun j2=>
   zW (X:=Int) ((zf (j2,sc s k)).bind fun y3=>bif y3==46 then some (LX.out (w64 (j2+1)))else some (LX.out j2)) fun j4=>
   (zf (j4,sc s k)).bind fun y5=>(Zr y5).bind fun y6=>some y6)=some (digB (atS (if atS (if b then(s.drop k).drop 1 else s.drop k) 0==46 then(if b then(s.drop k).drop 1 else s.drop k).drop 1 else(if b then(s.drop k).drop 1 else s.drop k)) 0)):=by
  intro b;cases b with
  |false=>
   simp only[Ha,zh,Tv hs hk,Aa,NL,ic,Ye];cases h:atS (s.drop k) 0==46 with
   |false=>simp only[Ha,zh,Tv hs hk,Aa,Pn,ic,Ye]
   |true=> simp only[Ja,zh,Wd];rw[show w64 (0+1)=1 from rfl,WL hs hk];simp only[Aa,Pn];rw[Qy (s.drop k) 1 0]
  |true=>
   simp only[Ja,zh,WL hs hk,Aa,NL,Wd];rw[Qy (s.drop k) 1 0];cases h:atS (s.drop k) (1+0)==46 with
   |false=> simp only[Xd]at h;simp only[h,Ha,zh,WL hs hk,Aa,Pn,ic,Ye];rw[Qy (s.drop k) 1 0]
   |true=> simp only[Xd]at h;simp only[h,Ja,zh,Wd];rw[show w64 (1+1)=2 from rfl,zEM hs hk];simp only[Aa,Pn];rw[Tf,Qy (s.drop k) (1+1) 0]
 have:=key (atS (s.drop k) 0==43||atS (s.drop k) 0==45);rw[show(bif atS (s.drop k) 0==43 then true else atS (s.drop k) 0==45)=(atS (s.drop k) 0==43||atS (s.drop k) 0==45)from by cases (atS (s.drop k) 0==43)<;>rfl];exact this
abbrev sr(s r:Str):za:=sc s (beh s r)
theorem sr_0(s:Str):(⟨s,0⟩:za)=sr s s:=by show sc s 0=sc s (beh s s);unfold beh;rw[Ph]
theorem Uo{s r:Str}{n:Nat}(hs:s.length<=big)(hr:r<:+s)(hn:n<=8):zf ((n:Int),sr s r)=some (pk r n):=by rw[UB hs (Uk s r) hn,Hu hr]
theorem Wh{s r:Str}(hs:s.length<=big)(hr:r<:+s):zf (0,sr s r)=some (pk r 0):=Uo (n:=0) hs hr (by omega)
theorem vv{s r:Str}(hs:s.length<=big)(hr:r<:+s):zf (1,sr s r)=some (pk r 1):=Uo (n:=1) hs hr (by omega)
theorem zD6{s r:Str}(hs:s.length<=big)(hr:r<:+s):zf (2,sr s r)=some (pk r 2):=Uo (n:=2) hs hr (by omega)
theorem fA{s r:Str}(hs:s.length<=big)(hr:r<:+s):zR (sr s r)=some (sr s (past spB r)):=by rw[zAW hs (Uk s r),Hu hr]
theorem WB{s r:Str}(hs:s.length<=big)(hr:r<:+s):zO (sr s r)=some (sr s (past digB r)):=by rw[IZ hs (Uk s r),Hu hr]
theorem zCA{s r:Str}(hs:s.length<=big)(hr:r<:+s):Zt (sr s r)=some (nbS r):=by rw[number_eq hs (Uk s r),Hu hr]
theorem JN{s r:Str}{n:Nat}(hr:r<:+s)(hn:n<=r.length):beh s r+n=beh s (r.drop n):=by have:=hr.length_le;unfold beh;rw[Dc];omega
theorem UA{s r:Str}{n:Nat}(hs:s.length<=big)(hr:r<:+s)(hn:n<=r.length):(⟨s,w64 ((beh s r:Int)+(n:Int))⟩:za)=sr s (r.drop n):=by have hb:big=4194304:=rfl;have:=Uk s r;have h2:=hr.length_le;rw[Za (by omega) (by omega),show(beh s r:Int)+(n:Int)=((beh s r+n:Nat):Int) by omega,JN hr hn]
theorem xq{l:Str}{n:Nat}(h:atS l n≠0):n<l.length:=by
 rcases Sc n l.length with h'|h'
 ·exact h'
 ·exact absurd (by unfold atS;rw[Ad,List.getElem?_eq_none h'];rfl) h
theorem Dv{s r:Str}(hs:s.length<=big)(hr:r<:+s)(h:atS r 0≠0):(⟨s,w64 ((beh s r:Int)+1)⟩:za)=sr s (r.drop 1):=UA (n:=1) hs hr (xq h)
theorem Em{s r:Str}(hr:r<:+s)(n:Nat):r.drop n<:+s:=(Lf n r).trans hr
theorem Fq{s r:Str}(p:UInt8->Bool)(hr:r<:+s):past p r<:+s:=(Wn p r).trans hr
theorem EJ{s r:Str}(hr:r<:+s):unsign r<:+s:=by
 unfold unsign;split
 ·exact Em hr 1
 ·exact hr
theorem EM{b:UInt8}(h:Sg b=true):b≠0:=by rintro rfl;revert h;decide
theorem XL(a b:Bool):(bif a then true else b)=(a||b):=by cases a<;>rfl
theorem YX(a b:Bool):(bif a then b else false)=(a&&b):=by cases a<;>rfl
theorem wP{s r:Str}(hr:r<:+s):(zS r).1<:+s:=by
 unfold zS;split
 ·exact Fq _ (Em hr 1)
 ·exact hr
theorem MN{s r q:Str}(hr:r<:+s)(h:expS r=some q):q<:+s:=by
 unfold expS at h;split at h
 ·split at h
  ·cases h;exact Fq _ (EJ (Em hr 1))
  ·cases h
 ·cases h
theorem U5{s r:Str}(hr:r<:+s):(zC r).1<:+s:=by
 unfold zC;have h1:=wP (Fq digB (EJ hr));simp only;cases h:expS (zS (past digB (unsign r))).1 with
 |some q=>exact MN h1 h
 |none=>exact h1
theorem iY{s l:Str}(hs:s.length<=big)(hl:l<:+s):Z6 (sr s l)=some ((zC l).2,sr s (zC l).1):=by
 unfold Z6;simp only[ze,Wh hs hl,Aa,PL,Sv,XL];have e1:(bif (atS l 0==43||atS l 0==45)then some (LX.out (⟨s,w64 ((beh s l:Int)+1)⟩:za))else some (LX.out (sr s l)))=(some (LX.out (sr s (unsign l))):Option (LX za (Bool×za))):=by
  unfold unsign;cases h:Sg (atS l 0)with
  |true=> have h':(atS l 0==43||atS l 0==45)=true:=h;rw[h',Ja,Ka rfl,Dv hs hl (EM h)]
  |false=> have h':(atS l 0==43||atS l 0==45)=false:=h;rw[h',Ha,Ga (by decide)]
 rw[e1,zh];have hu:=EJ hl;rw[WB hs hu];simp only[Aa];have hp:=Fq digB hu;unfold zC;generalize past digB (unsign l)=q at hp ⊢;have e2:zW (X:=Bool×za) (R:=Bool×za) ((zf (0,sr s q)).bind fun y4=>
   (zu (y4==46) (zf (1,sr s q)) (default:Int)).bind fun y5=>
   (zu (y4==46) (Zr y5) (default:Bool)).bind fun y6=>
   bif bif y4==46 then y6 else false then(zO (⟨s,w64 ((beh s q:Int)+1)⟩:za)).bind fun y7=>some (LX.out (false,y7))else some (LX.out (true,sr s q)))=zW (some (LX.out ((zS q).2,sr s (zS q).1))):=by
  congr 1;unfold zS;simp only[Wh hs hp,vv hs hp,Aa,NL];cases h:atS q 0==46 with
  |false=>simp only[ZF,Aa,Ha,Yc,ic,Ye]
  |true=>
   simp only[ZB,Aa,Ja,Pn,Xb];cases h2:digB (atS q 1)with
   |false=>simp only[Ha,ic,Ye]
   |true=> rw[Ja,Ka rfl,Dv hs hp (by rw[Lb.1 h];decide),WB hs (Em hp 1)];rfl
 rw[e2,zh];have hw:=wP hp;generalize zS q=W at hw ⊢;obtain⟨w,i⟩:=W;simp only at hw ⊢;have e3:((zf (0,sr s w)).bind fun y9=>
   (zu (!(y9==101)) (zf (0,sr s w)) (default:Int)).bind fun y10=>
   bif bif y9==101 then true else y10==69 then
    zW (X:=(Bool×Int)×za) ((zf (1,sr s w)).bind fun y11=>bif bif y11==43 then true else y11==45 then some (LX.out ((i,2),sr s w))else some (LX.out ((i,1),sr s w))) fun j12=>
    (zf (j12.1.2,j12.2)).bind fun y13=>(Zr y13).bind fun y14=>
    bif y14 then(zO (⟨j12.2.s,w64 (j12.2.at_+j12.1.2)⟩:za)).bind fun y15=>some (LX.out (false,y15))else some (LX.out (j12.1.1,j12.2))
   else some (LX.out (i,sr s w)))=(some (LX.out (match expS w with|some r=>(false,sr s r)|none=>(i,sr s w))):Option (LX (Bool×za) (Bool×za))):=by
  simp only[Wh hs hw,Aa,zD7];have e4:((zu (!(atS w 0==101)) (some (pk w 0)) (default:Int)).bind fun y10=>(some (bif atS w 0==101 then true else y10==69):Option Bool))=some (atS w 0==101||atS w 0==69):=by
   cases h:atS w 0==101 with
   |true=>rfl
   |false=>simp only[Ec,ZB,Aa,Ha,zER,jd]
  have e5: ∀(f:Bool->Option (LX (Bool×za) (Bool×za))),((zu (!(atS w 0==101)) (some (pk w 0)) (default:Int)).bind fun y10=>f (bif atS w 0==101 then true else y10==69))=f (atS w 0==101||atS w 0==69):=by intro f;have:=congrArg (fun o=>Option.bind o f) e4;simpa [Option.bind_assoc] using this
  refine(e5 (fun b=>bif b then _ else _)).trans ?_;unfold expS;cases h:(atS w 0==101||atS w 0==69)with
  |false=>rfl
  |true=>
   have hne:atS w 0≠0:=by intro e;rw[e]at h;revert h;decide
   simp only[Ja,Wd,vv hs hw,Aa,PL,Sv,XL];unfold unsign;have hd:atS (w.drop 1) 0=atS w 1:=by rw[Qy w 1 0]
   rw[hd];cases hg:(atS w 1==43||atS w 1==45)with
   |true=>
    have hg':Sg (atS w 1)=true:=hg;have hl2:=xq (EM hg');simp only[Ja,zh,zD6 hs hw,Aa,Pn,hg',Wd,Tf];rw[show atS (w.drop (1+1)) 0=atS w 2 by rw[Qy w 2 0]];cases hq:digB (atS w 2)with
    |false=>rfl
    |true=> rw[Ja,Ka rfl,show(2:Int)=((2:Nat):Int)from rfl,UA hs hw (by omega),WB hs (Em hw 2)];rfl
   |false=>
    have hg':Sg (atS w 1)=false:=hg;simp only[Ha,zh,vv hs hw,Aa,Pn,hg',ic,Ye];rw[hd];cases hq:digB (atS w 1)with
    |false=>rfl
    |true=> rw[Ja,Ka rfl,Dv hs hw hne,WB hs (Em hw 1)];rfl
 refine(congrArg (fun o=>zW o _) e3).trans ?_;rw[zh];cases expS w<;>rfl
def valG(n:Nat)(l:Str):Nat:=l.foldl decN n
theorem IC(n:Nat)(a b:Str):valG n (a++b)=valG (valG n a) b:=List.foldl_append
theorem xO{k:Nat}(h:k<10):digB (UInt8.ofNat (48+k))=true/\(UInt8.ofNat (48+k)).toNat=48+k:=by
 have:(UInt8.ofNat (48+k)).toNat=48+k:=by rw[UInt8.toNat_ofNat'];omega
 refine⟨?_,this⟩;unfold digB;rw[this,La (by omega),La (by omega)];rfl
theorem Wt: ∀(u:Nat),(Lib.decDigits u).all digB=true/\valG 0 (Lib.decDigits u)=u/\Lib.decDigits u≠[]:=by
 intro u
 induction u using Nat.strongRecOn with
 |_ u ih=>
  rw[Lib.decDigits];by_cases h:u<10
  ·rw[dif_pos h];obtain⟨h1,h2⟩:=xO h;refine⟨by rw[Sd,h1];rfl,?_,by simp⟩;show decN 0 _=u;unfold decN;rw[h2];omega
  ·rw[dif_neg h];obtain⟨a,b,c⟩:=ih (u / 10) (by omega);obtain⟨h1,h2⟩:=xO (k:=u%10) (by omega);refine⟨by rw[Mg,a,Sd,h1];rfl,?_,by simp⟩;rw[IC,b];show decN _ _=u;unfold decN;rw[h2];omega
theorem iC: ∀(q t:Str),q.all digB=true->past digB (q++t)=past digB t
 |[],t,_=>rfl
 |c::q,t,h=>by rw[Sd,Da]at h;rw[ma,past,Ka h.1,iC q t h.2]
def d48(k:Nat):UInt8:=UInt8.ofNat (48+k)
def di(r:Nat):Str:=Lib.trimRightB [d48 (r / 100),d48 (r / 10%10),d48 (r%10)] 48
theorem rX{r:Nat}(h:r<1000):Lib.decDigits (1000+r)=49::[d48 (r / 100),d48 (r / 10%10),d48 (r%10)]:=by rw[Lib.decDigits,dif_neg (by omega),Lib.decDigits,dif_neg (by omega),Lib.decDigits,dif_neg (by omega),Lib.decDigits,dif_pos (by omega)];rw[show(1000+r) / 10 / 10 / 10=1 by omega,show(1000+r) / 10 / 10%10=r / 100 by omega,show(1000+r) / 10%10=r / 10%10 by omega,show(1000+r)%10=r%10 by omega];rfl
def CB(r:Nat):Bool:=(di r).all digB&&decide ((di r).length<=3)&&decide (valG 0 (di r)*10 ^ (3 - (di r).length)=r)&&((di r).isEmpty==(r==0))&& !((di r).getLast? ==some 48)
theorem DI: ∀r,r<1000->CB r=true:=by decide+kernel
def Um(r:Nat)(p:Bool):Str:=bif (di r).isEmpty then(bif p then [46,48]else [])else 46::di r
def pg(m:Nat)(p:Bool):Str:=Lib.decDigits (m / 1000)++Um (m%1000) p
def numT(n:Int)(p:Bool):Str:=(if n<0 then [45]else [])++pg n.natAbs p
theorem yI{u:Nat}(h:u<18446744073709551616):(Lib.decDigits u).length<=20:=by
 rw[Lib.decDigits_length];by_cases h1:u=0
 ·subst h1;rw[Lib.nDigits_small (by omega)];omega
 ·have:=Lib.numDigits_eq u (by omega) h;split at this<;>omega
theorem zAH{r:Nat}(h:r<1000)(p:Bool):(Um r p).length<=4:=by
 have:=DI r h;simp only[CB,Da,jb]at this;unfold Um;cases (di r).isEmpty with
 |true=>cases p<;>simp
 |false=>simp only[Ha,Ia];omega
theorem GD{m:Nat}(h:m<=1000000000000)(p:Bool):(pg m p).length<=24:=by unfold pg;rw[Ba];have:=yI (u:=m / 1000) (by omega);have:=zAH (r:=m%1000) (by omega) p;omega
theorem Vl{n m b:Nat}(h:n+m<=100000)(hb:b<=100):Zb n m b=true:=by unfold Zb;refine La ?_;have:=Nat.mul_le_mul h hb;omega
theorem U3(l:Str):(l==[])=l.isEmpty:=by cases l<;>rfl
def um(n:Nat):Nat:=if 65<=n/\n<=90 then n+32 else n
def Tk(b:UInt8):UInt8:=UInt8.ofNat (um b.toNat)
theorem OZ{n:Nat}(h:n<256):um n<256:=by unfold um;split<;>omega
theorem l6(b:UInt8):(Tk b).toNat=um b.toNat:=by unfold Tk;rw[UInt8.toNat_ofNat'];exact Ig (OZ (Ob b))
theorem CZ: ∀n:Nat,n<256->qF (n:Int)=some ((um n:Nat):Int):=by decide+kernel
theorem zDS: ∀n:Nat,n<256->(bif decide (65<=(n:Int))then decide ((n:Int)<=90)else false)=true->Zv (ibOr IntKind.u8 (n:Int) 32)=some (UInt8.ofNat (um n)):=by decide+kernel
def lowS(l:Str):Str:=l.map Tk
theorem KH{α:Type}{l:List α}{i:Nat}(h:i<l.length)(f:α->α):((l.take i).map f++l.drop i).set i (f l[i])=(l.take (i+1)).map f++l.drop (i+1):=by
 apply List.ext_getElem
 ·simp;omega
 ·intro j h1 h2;rw[List.getElem_set];split
  ·rename_i hij;subst hij;rw[List.getElem_append_left (by simp;omega)];simp
  ·rename_i hij;simp only[List.getElem_append,Oa,Ld,List.getElem_map,List.getElem_take,List.getElem_drop];split
   ·rename_i hlt;rw[dif_pos (by omega)]
   ·rename_i hlt;rw[dif_neg (by omega)];congr 1;omega
theorem mG{α:Type}{l:List α}{i:Nat}(h:i<l.length)(f:α->α):((l.take i).map f++l.drop i)[i]? =some l[i]:=by rw[Rc (by simp;omega)];simp[h,Nat.min_eq_left (Nat.le_of_lt h)]
theorem vB{α:Type}{l:List α}{i:Nat}(h:i<=l.length)(f:α->α):((l.take i).map f++l.drop i).length=l.length:=by simp;omega
theorem uY{α:Type}{l:List α}{i:Nat}(h:i<l.length)(f:α->α)(e:f l[i]=l[i]):(l.take i).map f++l.drop i=(l.take (i+1)).map f++l.drop (i+1):=by
 rw[<-KH h f,e];apply Vi;intro j;rw[List.getElem?_set];split
 ·rename_i hij;subst hij;rw[mG h,vB (Nat.le_of_lt h),Ka h]
 ·rfl
theorem Sw(i:Nat):decide ((0:Int)<=(i:Int))=true:=La (by omega)
theorem RP{l:Str}(h:l.length<=big):Q6 l=some (lowS l):=by
 unfold Q6;rw[zy (La (by unfold big at h;unfold maxLen;omega))];have key: ∀(k i:Nat),i+k=l.length-> ∃n,Qs (X:=List UInt8) (R:=Str) (fun(s1:Int×List UInt8)=>
   bif decide (s1.1<(s1.2.length:Int))then
    need (decide (0<=s1.1)&&decide (s1.1<(s1.2.length:Int)))<|
    ze s1.2[s1.1.toNat]? fun y2=>
    ze (qF (y2.toNat:Int)) fun y3=>
    need (decide (0<=s1.1)&&decide (s1.1<(s1.2.length:Int)))<|
    ze s1.2[s1.1.toNat]? fun y4=>
    ze (Zv y3) fun y5=>
    some (LO.again (w64 (s1.1+1),List.set s1.2 s1.1.toNat y5))
   else
    some (LO.out s1.2)) n ((i:Int),(l.take i).map Tk++l.drop i)=some (.out (lowS l)):=by
  intro k
  induction k with
  |zero=>
   intro i hi;have hi:i=l.length:=by omega
   subst hi;refine⟨1,?_⟩;simp only[Qs,vB (Va _),Hl,Ha];simp[lowS]
  |succ k ih=>
   intro i hi;have hlt:i<l.length:=by omega
   obtain⟨n,hn⟩:=ih (i+1) (by omega);refine⟨n+1,?_⟩;have hb:=Ob l[i];simp only[Qs,vB (Nat.le_of_lt hlt),Xk hlt,Ja,Sw,Xc,qD,Bc,mG hlt,ze,Aa,CZ _ hb];rw[<-l6,zzd,Qd hlt h];simp only[Aa,KH hlt];exact hn
 obtain⟨n,hn⟩:=key l.length 0 (by omega);replace hn:=Xn hn;simp only[yf,Tc,Ic,Mf]at hn;exact(Wp hn).trans rfl
theorem aR{l:Str}(h:l.length<=big):ku l=some (lowS l):=by
 unfold ku;rw[zy (La (by unfold big at h;unfold maxLen;omega))];have key: ∀(k i:Nat),i+k=l.length-> ∃n,Qs (X:=List UInt8) (R:=Str) (fun(s1:Int×List UInt8)=>
   bif decide (s1.1<(l.length:Int))then
    zW (X:=Int×List UInt8) (
      need (decide (0<=s1.1)&&decide (s1.1<(s1.2.length:Int)))<|
      ze s1.2[s1.1.toNat]? fun y2=>
      bif bif decide (65<=(y2.toNat:Int))then decide ((y2.toNat:Int)<=90)else false then
       need (decide (0<=s1.1)&&decide (s1.1<(s1.2.length:Int)))<|
       ze s1.2[s1.1.toNat]? fun y3=>
       need (decide (0<=s1.1)&&decide (s1.1<(s1.2.length:Int)))<|
       ze s1.2[s1.1.toNat]? fun y4=>
       ze (Zv (ibOr IntKind.u8 (y3.toNat:Int) 32)) fun y5=>
       some (LX.out (s1.1,List.set s1.2 s1.1.toNat y5))
      else
       some (LX.out (s1.1,s1.2))) fun j6=>
    some (LO.again (w64 (j6.1+1),j6.2))
   else
    some (LO.out s1.2)) n ((i:Int),(l.take i).map Tk++l.drop i)=some (.out (lowS l)):=by
  intro k
  induction k with
  |zero=>
   intro i hi;have hi:i=l.length:=by omega
   subst hi;refine⟨1,?_⟩;simp only[Qs,Hl,Ha];simp[lowS]
  |succ k ih=>
   intro i hi;have hlt:i<l.length:=by omega
   obtain⟨n,hn⟩:=ih (i+1) (by omega);refine⟨n+1,?_⟩;have hb:=Ob l[i];simp only[Qs,vB (Nat.le_of_lt hlt),Xk hlt,Ja,Sw,Xc,qD,Bc,mG hlt,ze,Aa];cases hc:(bif decide (65<=(l[i].toNat:Int))then decide ((l[i].toNat:Int)<=90)else false)with
   |true=> have e:=zDS _ hb hc;simp only[e,Ja,Aa,zh,Qd hlt h];rw[show UInt8.ofNat (um l[i].toNat)=Tk l[i]from rfl,KH hlt];exact hn
   |false=>
    have e:Tk l[i]=l[i]:=by unfold Tk um;rw[Ga,Uc];rintro⟨h1,h2⟩;rw[La (by omega),Ja,La (by omega)]at hc;cases hc
    simp only[Ha,zh,Qd hlt h];rw[uY hlt Tk e];exact hn
 obtain⟨n,hn⟩:=key l.length 0 (by omega);replace hn:=Xn hn;simp only[yf,Tc,Ic,Mf]at hn;exact(Wp hn).trans rfl
def Zn(l:Str):Bool:=l.all fun b=> !(b==0)
theorem rG(c:UInt8): ∀l:Str,decide (Lib.indexByte l c>=0)=l.any fun b=>b==c
 |[]=>rfl
 |b::l=>by
  have ih:=rG c l;have hg:=Lib.indexByte_ge l c;rw[List.any_cons,Lib.indexByte];cases hb:(b==c)with
  |true=>rfl
  |false=>
   rw[jd,<-ih,Ga (by simp)];by_cases h:Lib.indexByte l c= -1
   ·rw[Ka (by rw[h];rfl),h]
   ·rw[Ga (by simpa using h)];rw[La (by omega),La (by omega)]
theorem zCy(l:Str):(l.any fun b=>b==0)= !Zn l:=by
 unfold Zn
 induction l with
 |nil=>rfl
 |cons b l ih=>rw[List.any_cons,Sd,ih];cases (b==0)<;>simp
theorem dE(l:Str)(n:Int):strings_IndexByte (l,n)=some (Lib.indexByte l n.toNat.toUInt8):=rfl
theorem zCj(l:Str):decide (Lib.indexByte l (0:Int).toNat.toUInt8>=0)= !Zn l:=(rG 0 l).trans (zCy l)
theorem zDN(n m:Nat):decide ((n:Int)>(m:Int))= !decide (n<=m):=by
 by_cases h:n<=m
 ·rw[La h,Ib (by omega)];rfl
 ·rw[Ib h,La (by omega)];rfl
theorem byte_zero(b:UInt8):((b.toNat:Int)==0)=(b==0):=by
 by_cases h:b=0
 ·subst h;rfl
 ·have h2:b.toNat≠0:=fun e=>h (Pf.1 e);rw[Fa.2 h,Fa.2 (by omega)]
theorem FX(n m:Nat):decide ((n:Int)<=(m:Int))=decide (n<=m):=by
 by_cases h:n<=m
 ·rw[La h,La (by omega)]
 ·rw[Ib h,Ib (by omega)]
theorem xu(l m:Str):strings_HasPrefix (l,m)=some (m.isPrefixOf l):=by
 have key: ∀m l:Str,m.isPrefixOf l=(decide (m.length<=l.length)&&l.take m.length==m):=by
  intro m l;rw[Bool.eq_iff_iff];simp only[oh,Da,jb,Lb];constructor
  ·rintro⟨t,rfl⟩;exact⟨by simp,by simp⟩
  ·rintro⟨h1,h2⟩;exact⟨l.drop m.length,by rw[<-h2,Ld,Nat.min_eq_left h1,Jf]⟩
 unfold strings_HasPrefix stringslite_HasPrefix;have e1:decide ((l.length:Int)>=(m.length:Int))=decide (m.length<=l.length):=FX _ _;have e2:decide ((m.length:Int)<=(l.length:Int))=decide (m.length<=l.length):=FX _ _;simp only[e1,e2,Sw,Xb,key];cases decide (m.length<=l.length)<;>rfl
theorem zpL(l m:Str):strings_TrimPrefix (l,m)=some (bif m.isPrefixOf l then l.drop m.length else l):=by
 have h:stringslite_HasPrefix (l,m)=some (m.isPrefixOf l):=by
  have:=xu l m;unfold strings_HasPrefix at this;cases hh:stringslite_HasPrefix (l,m)with
  |none=>simp only[hh]at this;cases this
  |some b=>simp only[hh]at this;exact this
 unfold strings_TrimPrefix stringslite_TrimPrefix;simp only[h,ze,Aa];cases hp:m.isPrefixOf l with
 |false=>rfl
 |true=> have hl:=(oh.1 hp).length_le;simp only[Ja,Sw,Xb];rw[zy (La (by omega))];rfl
theorem gJ{a b:Str}(h1:a.length<=big)(h2:b.length<=big):Sq (a,b)=some (lowS a==lowS b):=by unfold Sq;simp only[aR h1,aR h2,ze,Aa]
theorem DZ{a b:Str}(h1:a.length<=big)(h2:b.length<=big):qE (a,b)=some (lowS a==lowS b):=by unfold qE;simp only[RP h1,RP h2,ze,Aa]
def Si(n:Nat):Bool:=
 !(n==0||n==9||n==10||n==12||n==13||n==32||n==34||n==39||n==40||n==41||n==44||n==58||n==59||n==91||n==93||n==95||n==123||n==125)&&
  (decide (n<128)&& !((decide (48<=n)&&decide (n<=57))||(decide (65<=n)&&decide (n<=90))||(decide (97<=n)&&decide (n<=122))))
set_option maxRecDepth 100000 in
theorem zBY: ∀n:Nat,n<256->SK 40 (n:Int)=some (Si n):=by decide+kernel
def FC:Prop:= ∀b:UInt8,qH (b.toNat:Int)=some (Si b.toNat)
theorem zm8:FC:=fun b=>
 zmS 40 _ _ (zBY _ (Ob b))
def digN(n:Nat):Bool:=decide (48<=n)&&decide (n<=57)
theorem l8: ∀n:Nat,n<256->zX (n:Int)=some (digN n):=by decide+kernel
theorem TP(b:UInt8):zX (b.toNat:Int)=some (digN b.toNat):=(l8 _ (Ob b))
theorem zqv: ∀n:Nat,n<256->qz (n:Int)=some (digN n):=by decide+kernel
theorem RU(b:UInt8):qz (b.toNat:Int)=some (digN b.toNat):=(zqv _ (Ob b))
def namN(n:Nat):Bool:=digN n||(decide (65<=n)&&decide (n<=90))||(decide (97<=n)&&decide (n<=122))||n==95||n==45||decide (128<=n)
theorem zqx: ∀n:Nat,n<256->Bo (n:Int)=some (namN n):=by decide+kernel
theorem PU(b:UInt8):Bo (b.toNat:Int)=some (namN b.toNat):=(zqx _ (Ob b))
def Mk:Str->Bool
 |[]=>false
 |b::r=>digN b.toNat||(b==45&&(r==[]||digN (r.headD 0).toNat))
theorem eB(b c:UInt8):((b.toNat:Int)==(c.toNat:Int))=(b==c):=by
 by_cases h:b=c
 ·subst h;simp
 ·have h2:b.toNat≠c.toNat:=fun e=>h (Pf.1 e);rw[Fa.2 h,Fa.2 (by omega)]
theorem zBM(b:UInt8):((b.toNat:Int)==45)=(b==45):=eB b 45
theorem zpn(l:Str):Kz l=some (Mk l):=by
 unfold Kz;cases l with
 |nil=>rfl
 |cons b r=>
  have h0:geti (b::r) 0=some b:=rfl;have hn:(b::r==([]:Str))=false:=rfl;simp only[hn,Ha,h0,ze,Aa,TP,Mm,zBM];cases r with
  |nil=>
   have e:(([b]:Str)==[45])=(b==45):=by show((b==45)&&true)=_;rw[Xc]
   simp only[e];unfold Mk;cases hb:(b==45)with
   |false=>cases h2:digN b.toNat<;>simp[hb,zu,h2]
   |true=>cases h2:digN b.toNat<;>simp[hb,zu,h2]
  |cons d r=>
   have h1:geti (b::d::r) 1=some d:=rfl;have e:((b::d::r:Str)==[45])=false:=by show((b==45)&&false)=_;rw[xe]
   simp only[h1,e,Mm,Aa,TP,Mk,List.headD_cons];cases hb:(b==45)<;>cases h2:digN b.toNat<;>simp[hb]
def numS:Str->Bool
 |[]=>false
 |b::r=>bif b==45 then !(r==[])&&digN (r.headD 0).toNat else digN b.toNat
theorem GV(l:Str):QY l=some (numS l):=by
 unfold QY;simp only[zpL,ze,Aa];have key: ∀m:Str,((zu (!(m==[])) (geti m 0) 0).bind fun y2=>(zu (!(m==[])) (qz (y2.toNat:Int)) (default:Bool)).bind fun y3=>some (bif !(m==[])then y3 else false))=some (!(m==[])&&digN (m.headD 0).toNat):=by
  intro m;cases m with
  |nil=>rfl
  |cons b r=> have h0:geti (b::r) 0=some b:=rfl;have hn:(b::r==([]:Str))=false:=rfl;simp only[hn,Ec,ZB,h0,Aa,RU,Ja,List.headD_cons,Xb]
 rw[key];cases l with
 |nil=>rfl
 |cons b r=>
  have e:List.isPrefixOf [45] (b::r)=(b==45):=by
   show((45==b)&&true)=_;rw[Xc];cases hb:(b==45)with
   |true=>rw[Lb]at hb;subst hb;rfl
   |false=>rw[Fa]at hb;exact Fa.2 (Ne.symm hb)
  rw[e];show _=some (bif b==45 then !(r==[])&&digN (r.headD 0).toNat else digN b.toNat);cases b==45<;>rfl
theorem zAe(l:Str):((numS l&& !(List.isPrefixOf [45,45] l))||l==[45])=Mk l:=by
 cases l with
 |nil=>rfl
 |cons b r=>
  cases hb:(b==45)with
  |false=>
   have e1:List.isPrefixOf [45,45] (b::r)=false:=by show((45==b)&&_)=_;rw[Fa]at hb;rw[Fa.2 (Ne.symm hb)];rfl
   have e2:((b::r:Str)==[45])=false:=by show((b==45)&&_)=_;rw[hb];rfl
   rw[e1,e2];unfold numS Mk;simp[hb]
  |true=>
   rw[Lb]at hb;subst hb;cases r with
   |nil=>rfl
   |cons d r=>
    have e2:((45::d::r:Str)==[45])=false:=rfl;rw[e2];unfold numS Mk;have e1:List.isPrefixOf [45,45] (45::d::r)=(45==d):=by show((45==(45:UInt8))&&((45==d)&&true))=_;rw[Xc];rfl
    rw[e1];simp only[List.headD_cons];have hd:digN 45=false:=by decide
    cases h:(45==d)with
    |false=>simp[hd]
    |true=>rw[Lb]at h;subst h;rfl
def delS(l:Str):Bool:=match l with
 |[b]=>Si b.toNat
 |_=>false
def rngS(x:zb):Bool:=decide (-1000000000000<=x.num)&&(decide (x.num<=1000000000000)&&(!x.flag||Int.tmod x.num 1000==0))
def ng(x:zb):Bool:=
 bif x.kind==1||x.kind==2||x.kind==3 then !(x.text==[])&&(Zn x.text&&(x.num==0&&(x.unit==[]&& !x.flag)))
 else bif x.kind==4 then !(x.text==[])&&(Zn x.text&&((x.flag||Mk x.text)&&(x.num==0&&x.unit==[])))
 else bif x.kind==5||x.kind==7 then Zn x.text&&(x.num==0&&(x.unit==[]&& !x.flag))
 else bif x.kind==9 then delS x.text&&(x.num==0&&(x.unit==[]&& !x.flag))
 else bif x.kind==10||x.kind==11||x.kind==12 then rngS x&&((!(x.unit==[])==(x.kind==12))&&(Zn x.unit&&((!(x.kind==11)|| !x.flag)&&x.text==[])))
 else(decide (13<=x.kind)&&decide (x.kind<=24))&&(x.text==[]&&(x.num==0&&(x.unit==[]&& !x.flag)))
theorem kU{l:Str}(h:l.length<=big):yn l=some (Zn l):=by
 unfold yn;refine(mR l (fun b=>bif (!(b==0))then none else some false) () (fun i hi=> ?_) ?_).trans ?_
 ·simp only[Xk hi,Ja,QX hi,ze,Aa,byte_zero,Qd hi h];cases l[i]==0<;>rfl
 ·simp only[Hl,Ha]
 ·rw[EI];show _=some (Zn l);unfold Zn;cases l.all (fun b=> !(b==0))<;>rfl
theorem one_byte(l:Str)(p:Nat->Bool)(d:Bool)(f:Int->Option Bool)(hf: ∀b:UInt8,f (b.toNat:Int)=some (p b.toNat))(g:Bool):
  ((zu (g&&(l.length:Int)==1) (geti l 0) (0:UInt8)).bind fun y=>zu (g&&(l.length:Int)==1) (f (y.toNat:Int)) d)=some (bif g&&(l.length:Int)==1 then(match l with|[b]=>p b.toNat|_=>false)else d):=by
 cases g with
 |false=>rfl
 |true=>
  cases l with
  |nil=>rfl
  |cons b r=>
   cases r with
   |nil=> show((geti [b] 0).bind fun y=>f (y.toNat:Int))=some (p b.toNat);rw[show geti [b] 0=some b from rfl];exact hf b
   |cons c r=> have:(((b::c::r).length:Int)==1)=false:=Fa.2 (by simp only[Ia];omega);rw[this];rfl
theorem R8(hD:FC)(l:Str)(g:Bool):((zu (g&&(l.length:Int)==1) (geti l 0) (0:UInt8)).bind fun y=>zu (g&&(l.length:Int)==1) (qH (y.toNat:Int)) (default:Bool))=some (bif g&&(l.length:Int)==1 then delS l else default):=
 one_byte l Si default qH hD g
theorem lX(l:Str):(((l.length:Int)==1)&&delS l)=delS l:=by
 cases l with
 |nil=>rfl
 |cons b r=>
  cases r with
  |nil=>rfl
  |cons c r=> have:(((b::c::r).length:Int)==1)=false:=Fa.2 (by simp only[Ia];omega);rw[this];rfl
theorem zpo(hD:FC){x:zb}(h1:x.text.length<=big)(h2:x.unit.length<=big):Jz x=some (ng x):=by
 have hd:=R8 hD x.text true;simp only[Xb]at hd;have hd':((zu ((x.text.length:Int)==1) (geti x.text 0) (0:UInt8)).bind fun y7=>(zu ((x.text.length:Int)==1) (qH (y7.toNat:Int)) (default:Bool)).bind fun y8=>some (bif bif (x.text.length:Int)==1 then y8 else false then x.kind==x.kind&&(([]:Str)==[]&&(x.num==0&&(x.unit==[]&&(x.flag==false&&true))))else false))=some (delS x.text&&(x.num==0&&(x.unit==[]&& !x.flag))):=by
  have e: ∀(k:Bool->Option Bool),((zu ((x.text.length:Int)==1) (geti x.text 0) (0:UInt8)).bind fun y7=>(zu ((x.text.length:Int)==1) (qH (y7.toNat:Int)) (default:Bool)).bind k)=(((zu ((x.text.length:Int)==1) (geti x.text 0) (0:UInt8)).bind fun y=>zu ((x.text.length:Int)==1) (qH (y.toNat:Int)) (default:Bool))).bind k:=by intro k;rw[Option.bind_assoc]
  rw[e,hd,Aa,<-lX x.text];simp only[mf];cases (x.text.length:Int)==1<;>cases delS x.text<;>cases x.flag<;>rfl
 unfold Jz;simp only[ze,kU h1,kU h2,zpn,Mm,Aa,ge_iff_le];unfold ng rngS;by_cases k9:x.kind=9
 ·simp only[k9,Int.reduceBEq,Ja,Ha,zh,Rf,jd]at hd' ⊢;exact hd'
 clear hd hd';have b9:=Fa.2 k9;generalize delS x.text=a0;generalize Zn x.text=a1;generalize Zn x.unit=a2;generalize Mk x.text=a3;generalize hc1:(x.text==[])=a4;generalize hc2:(x.unit==[])=a5;generalize hc3:(x.num==0)=a6;generalize hc4:x.flag=a7;generalize decide (-1000000000000<=x.num)=a8;generalize decide (x.num<=1000000000000)=a9;generalize (Int.tmod x.num 1000==0)=a10;by_cases k1:x.kind=1
 ·simp only[k1,zh,Ja,Ha,hc1,hc2,hc3,hc4,Int.reduceBEq];cases a1<;>cases a4<;>cases a5<;>cases a6<;>cases a7<;>rfl
 by_cases k2:x.kind=2
 ·simp only[k2,zh,Ja,Ha,hc1,hc2,hc3,hc4,Int.reduceBEq];cases a1<;>cases a4<;>cases a5<;>cases a6<;>cases a7<;>rfl
 by_cases k3:x.kind=3
 ·simp only[k3,zh,Ja,Ha,hc1,hc2,hc3,hc4,Int.reduceBEq];cases a1<;>cases a4<;>cases a5<;>cases a6<;>cases a7<;>rfl
 by_cases k4:x.kind=4
 ·simp only[k4,zh,Ja,Ha,hc1,hc2,hc3,hc4,Int.reduceBEq];cases a1<;>cases a3<;>cases a4<;>cases a5<;>cases a6<;>cases a7<;>rfl
 by_cases k5:x.kind=5
 ·simp only[k5,zh,Ja,Ha,hc1,hc2,hc3,hc4,Int.reduceBEq];cases a1<;>cases a4<;>cases a5<;>cases a6<;>cases a7<;>rfl
 by_cases k7:x.kind=7
 ·simp only[k7,zh,Ja,Ha,hc1,hc2,hc3,hc4,Int.reduceBEq];cases a1<;>cases a4<;>cases a5<;>cases a6<;>cases a7<;>rfl
 by_cases k10:x.kind=10
 ·simp only[k10,zh,Ja,Ha,hc1,hc2,hc3,hc4,Int.reduceBEq];cases a2<;>cases a4<;>cases a5<;>cases a7<;>cases a8<;>cases a9<;>cases a10<;>rfl
 by_cases k11:x.kind=11
 ·simp only[k11,zh,Ja,Ha,hc1,hc2,hc3,hc4,Int.reduceBEq];cases a2<;>cases a4<;>cases a5<;>cases a7<;>cases a8<;>cases a9<;>cases a10<;>rfl
 by_cases k12:x.kind=12
 ·simp only[k12,zh,Ja,Ha,hc1,hc2,hc3,hc4,Int.reduceBEq];cases a2<;>cases a4<;>cases a5<;>cases a7<;>cases a8<;>cases a9<;>cases a10<;>rfl
 simp only[b9,Fa.2 k1,Fa.2 k2,Fa.2 k3,Fa.2 k4,Fa.2 k5,Fa.2 k7,Fa.2 k10,Fa.2 k11,Fa.2 k12,zh,Ja,Ha,hc1,hc2,hc3,hc4,mf,Bool.or_self];by_cases k6:x.kind=6
 ·simp only[k6,zh,Ja,Ha,Int.reduceBEq];rfl
 by_cases k8:x.kind=8
 ·simp only[k8,zh,Ja,Ha,Int.reduceBEq];rfl
 simp only[Fa.2 k6,Fa.2 k8,zh,Ja,Ha];have e:(decide (1<=x.kind)&&decide (x.kind<=24))=(decide (13<=x.kind)&&decide (x.kind<=24)):=by
  by_cases hh:13<=x.kind
  ·rw[La hh,La (by omega)]
  ·rw[Ib hh];by_cases h1:1<=x.kind
   ·omega
   ·rw[Ib h1]
 rw[<-e];cases decide (1<=x.kind)<;>cases decide (x.kind<=24)<;>cases a4<;>cases a5<;>cases a6<;>cases a7<;>rfl
abbrev Es:Str:=[32,9,10,12,13,34,39,58,59,44,91,93,40,41,123,125]
theorem yD: ∀(m:Str) (c:UInt8),Lib.index m [c]=Lib.indexByte m c
 |[],c=>rfl
 |b::l,c=>by
  have h:List.isPrefixOf [c] (b::l)=(b==c):=by
   show(c==b&&List.isPrefixOf [] l)=_;rw[List.isPrefixOf,Xc];by_cases e:b=c
   ·subst e;rfl
   ·rw[Fa.2 e,Fa.2 (fun h=>e h.symm)]
  rw[Lib.index,Lib.indexByte,h,yD l c]
theorem contains_one(m:Str)(c:UInt8)(hm:short m=true:=by decide):strings_Contains (m,[c])=some (m.any fun b=>b==c):=by unfold strings_Contains;simp only[ol,hm,qD,ze,Aa,yD,rG]
theorem zmI(c:UInt8):strings_Contains ([32,9,10,12,13,34,39,58,59,44,91,93,40,41,123,125],[c])=some (Es.any fun b=>b==c):=contains_one Es c
theorem l7: ∀n:Nat,n<256->((bif bif !(UInt8.ofNat n==0)then !namN n else false then true else UInt8.ofNat n==45)&&(!(Es.any fun b=>b==UInt8.ofNat n)))=Si n:=by decide+kernel
theorem kX(b:UInt8):((bif bif !(b==0)then !namN b.toNat else false then true else b==45)&&(!(Es.any fun c=>c==b)))=Si b.toNat:=by
 have:=l7 b.toNat (Ob b)
 rwa [Uc]at this
theorem zq6(a b:Str):Zn (a++b)=(Zn a&&Zn b):=by unfold Zn;rw[Mg]
theorem zCv(n:Int):decide (n<0)= !decide (n>=0):=by
 by_cases h:n<0
 ·rw[La h,Ib (by omega)];rfl
 ·rw[Ib h,La (by omega)];rfl
theorem Fx: ∀(l:Str) (n:Nat),valG n l=n*10 ^ l.length+valG 0 l
 |[],n=>by simp[valG]
 |c::l,n=>by show valG (decN n c) l=n*10 ^ (l.length+1)+valG (decN 0 c) l;rw[Fx l (decN n c),Fx l (decN 0 c),Nat.pow_succ];unfold decN;rw[Ce,Nat.mul_zero,Be,Rh 10 n,og,Rh 10 (10 ^ l.length)];omega
theorem JZ(l:Str)(i:Nat):valG 0 (l.take i)<=valG 0 l:=by
 have h:valG 0 l=valG (valG 0 (l.take i)) (l.drop i):=by rw[<-IC,Jf]
 rw[h,Fx (l.drop i)];have:=Bf (valG 0 (l.take i)) (xg (n:=(l.drop i).length) (show 0<10 by omega));omega
theorem Lu{b:UInt8}(h:digB b=true):48<=b.toNat/\b.toNat<=57:=by unfold digB at h;simpa using h
theorem zAF {R:Type} {step:Int×Int->Option (LO (Int×Int) Int R)} {l:Str} (hl:l.all digB=true) (hn:l.length<=100000) (hv:valG 0 l<=1000000000000)
  (h1: ∀(v:Int) (i:Nat) (hi:i<l.length),step (v,(i:Int))=some (.again (if 1000000000000<w64 (w64 (10*v)+w64 (wu8 ((l[i].toNat:Int) - 48)))then 1000000000000 else w64 (w64 (10*v)+w64 (wu8 ((l[i].toNat:Int) - 48))),w64 ((i:Int)+1))))
  (h2: ∀v:Int,step (v,(l.length:Int))=some (.out v)):Nh step (0,0)=some (.out ((valG 0 l:Nat):Int)):=by
 refine Qj (fun s=> ∃i:Nat,i<=l.length/\s=(((valG 0 (l.take i):Nat):Int),(i:Int))) (fun s=>l.length - s.2.toNat) _ ?_ ⟨0,by omega,rfl⟩;rintro _ ⟨i,hi,rfl⟩;rcases Sc i l.length with h|h
 ·refine .inl ⟨_,h1 _ i h,⟨i+1,by omega,?_⟩,by simp only;rw[Za (by omega) (by omega)];omega⟩;have hd:=Lu (Ya.1 hl _ (Ue h));have ht:valG 0 (l.take (i+1))=decN (valG 0 (l.take i)) l[i]:=by rw[Xf h,IC];rfl
  have hb:=JZ l (i+1);have hu:wu8 ((l[i].toNat:Int) - 48)=((l[i].toNat - 48:Nat):Int):=by show IntKind.u8.wrap _=_;rw[IntKind.wrap_u8];omega
  unfold decN at ht;rw[hu,Za (n:=10*_) (by omega) (by omega),Za (n:=((l[i].toNat - 48:Nat):Int)) (by omega) (by omega),Za (n:=(i:Int)+1) (by omega) (by omega),Za (by omega) (by omega),Ga (by omega)];refine Prod.ext ?_ ?_
  ·show(10*((valG 0 (l.take i):Nat):Int)+((l[i].toNat - 48:Nat):Int))=_;omega
  ·show(i:Int)+1=((i+1:Nat):Int);omega
 ·have:i=l.length:=by omega
  subst this;refine .inr (.inl ⟨_,h2 _,?_⟩);rw[Ag]
theorem P6 {R:Type} {step:Int×Int->Option (LO (Int×Int) Int R)} {v p:Nat} (hp:p<=100) (hv:v*10 ^ p<=1000000000000)
  (h: ∀(a b:Int),step (a,b)=bif bif bif decide (a>0)then decide (b>0)else false then decide (b<1000000000000)else false then some (.again (w64 (a - 1),if 1000000000000<w64 (10*b)then 1000000000000 else w64 (10*b)))else some (.out b)):
  Nh step ((p:Int),(v:Int))=some (.out ((v*10 ^ p:Nat):Int)):=by
 refine Qj (fun s=> ∃a b:Nat,s=((a:Int),(b:Int))/\a<=100/\b*10 ^ a=v*10 ^ p) (fun s=>s.1.toNat) _ ?_ ⟨p,v,rfl,hp,rfl⟩;rintro _ ⟨a,b,rfl,ha,he⟩;rw[h];cases a with
 |zero=> refine .inr (.inl ⟨(b:Int),rfl,?_⟩);rw[<-he,Nat.pow_zero,Ui]
 |succ a=>
  rw[La (show((a+1:Nat):Int)>0 by omega),Ja];rw[Nat.pow_succ,<-og]at he;have hpos:0<10 ^ a:=xg (by omega);cases Og b with
  |inl h0=> subst h0;refine .inr (.inl ⟨0,rfl,?_⟩);rw[<-he];simp
  |inr h0=>
   rw[La (show((b:Nat):Int)>0 by omega),Ja];have hle:b<=b*10 ^ a:=Bf b hpos;rw[La (show((b:Nat):Int)<1000000000000 by omega),Ja];refine .inl ⟨_,rfl,⟨a,10*b,?_,by omega,?_⟩,by simp only;rw[Za (by omega) (by omega)];omega⟩
   ·rw[Za (by omega) (by omega),Za (by omega) (by omega),Ga (by omega)];refine Prod.ext ?_ ?_
    ·show((a+1:Nat):Int) - 1=(a:Int);omega
    ·show 10*(b:Int)=((10*b:Nat):Int);omega
   ·rw[<-he,Rh 10 b,og,og,Rh 10 (10 ^ a)]
theorem sG: ∀(q:Str),q.all digB=true->Lib.indexByte q 46= -1
 |[],_=>rfl
 |c::q,h=>by
  rw[Sd,Da]at h;have hd:=Lu h.1;have hc:(c==46)=false:=by refine Fa.2 (fun e=> ?_);subst e;revert hd;decide
  rw[Lib.indexByte,hc,sG q h.2];rfl
theorem uG: ∀(q g:Str),q.all digB=true->Lib.indexByte (q++46::g) 46=(q.length:Int)
 |[],g,_=>by rw[Ic,Lib.indexByte];rfl
 |c::q,g,h=>by
  rw[Sd,Da]at h;have hd:=Lu h.1;have hc:(c==46)=false:=by refine Fa.2 (fun e=> ?_);subst e;revert hd;decide
  rw[ma,Lib.indexByte,hc,uG q g h.2];have:((q.length:Int)== -1)=false:=Fa.2 (by omega);rw[this,Ia];simp
theorem GH: ∀(l:Str),(l.all fun b=>digB b||b==46)=true->Lib.indexAny l [101,69]= -1
 |[],_=>rfl
 |c::l,h=>by
  rw[Sd,Da]at h;have hc:List.contains [101,69] c=false:=by
   have: ∀n:Nat,n<256->(digB (UInt8.ofNat n)||UInt8.ofNat n==46)=true->List.contains [101,69] (UInt8.ofNat n)=false:=by decide+kernel
   have:=this c.toNat (Ob c);rw[Uc]at this;exact this h.1
  rw[Lib.indexAny,hc,GH l h.2];rfl
end Go.Lv.VT
