/- The reading of tokens: what the program's text and the reference's come to. -/
import Derived.Test.YtcdeccnjlkkejaaGreatDoorTy
import Derived.Test.YtcdeccnjlkkejaaGreatDoorMo
import Derived.Test.YtcdeccnjlkkejaaGreatDoorTx
set_option linter.unusedSimpArgs false
set_option linter.unusedVariables false
namespace Go.Lv.VT
def atS(l:Str)(n:Nat):UInt8:=l.getD n 0
def digB(b:UInt8):Bool:=decide (48<=b.toNat)&&decide (b.toNat<=57)
def spB(b:UInt8):Bool:=b==10||b==9||b==32
def alB(b:UInt8):Bool:=decide (65<=b.toNat)&&decide (b.toNat<=90)||decide (97<=b.toNat)&&decide (b.toNat<=122)
def fstB(b:UInt8):Bool:=alB b||b==95||decide (128<=b.toNat)
def letB(b:UInt8):Bool:=fstB b||digB b||b==45
def hexN(b:UInt8):Nat:=
 if digB b then b.toNat - 48 else if 97<=b.toNat/\b.toNat<=102 then b.toNat - 87 else if 65<=b.toNat/\b.toNat<=70 then b.toNat - 55 else 16
def qL(b:UInt8):Bool:=decide (hexN b<16)
def escS(l:Str):Bool:=atS l 0==92&& !(atS l 1==10)
def nmS(l:Str):Bool:=if atS l 0==45 then fstB (atS l 1)||atS l 1==45||escS (l.drop 1)else fstB (atS l 0)||escS l
def ag(b:UInt8):Bool:=b==43||b==45
def unsign(l:Str):Str:=if ag (atS l 0)then l.drop 1 else l
def undot(l:Str):Str:=if atS l 0==46 then l.drop 1 else l
def nbS(l:Str):Bool:=digB (atS (undot (unsign l)) 0)
def Wl:Str:=[239,191,189]
def Nh(n:Nat):Str:=
 if n=0\/(55296<=n/\n<=57343)\/1114111<n then Wl
 else if n<128 then [UInt8.ofNat n]
 else if n<2048 then [UInt8.ofNat (192+n / 64),UInt8.ofNat (128+n%64)]
 else if n<65536 then [UInt8.ofNat (224+n / 4096),UInt8.ofNat (128+n / 64%64),UInt8.ofNat (128+n%64)]
 else [UInt8.ofNat (240+n / 262144),UInt8.ofNat (128+n / 4096%64),UInt8.ofNat (128+n / 64%64),UInt8.ofNat (128+n%64)]
def hexes:Nat->Nat->Str->Nat×Str
 |0,n,l=>(n,l)
 |_+1,n,[]=>(n,[])
 |k+1,n,c::r=>if qL c then hexes k (16*n+hexN c) r else(n,c::r)
def unsp:Str->Str
 |[]=>[]
 |c::r=>if spB c then r else c::r
def zq:Str->Str×Str
 |[]=>(Wl,[])
 |c::r=>if qL c then(Nh (hexes 6 0 (c::r)).1,unsp (hexes 6 0 (c::r)).2)else([c],r)
theorem AA: ∀(k n:Nat) (l:Str),(hexes k n l).2<:+l
 |0,n,l=>Ed l
 |k+1,n,[]=>Ed _
 |k+1,n,c::r=>by
  unfold hexes;split
  ·exact(AA k _ r).trans (He c r)
  grind
theorem zCs(l:Str):unsp l<:+l:=by
 cases l with
 |nil=>exact Ed _
 |cons c r=>
  show(if spB c then r else c::r)<:+c::r
  grind
theorem Zg(l:Str):(zq l).2<:+l:=by
 cases l with
 |nil=>exact Ed _
 |cons c r=>
  show(if qL c then(Nh (hexes 6 0 (c::r)).1,unsp (hexes 6 0 (c::r)).2)else([c],r)).2<:+c::r;split
  ·exact(zCs _).trans (AA 6 0 _)
  grind
theorem zS(l:Str):(zq l).2.length<=l.length:=(Zg l).length_le
def zo:Str->Str×Str
 |[]=>([],[])
 |c::r=>
  if letB c then((c::(zo r).1),(zo r).2)
  else if escS (c::r)then((zq r).1++(zo (zq r).2).1,(zo (zq r).2).2)
  else([],c::r)
termination_by l=>l.length
decreasing_by
 all_goals first|(have:=zS r;simp only[Fa];omega)|(simp only[Fa];omega)
def past(p:UInt8->Bool):Str->Str
 |[]=>[]
 |c::r=>if p c then past p r else c::r
theorem Cr(p:UInt8->Bool): ∀l:Str,past p l<:+l
 |[]=>Ed _
 |c::r=>by
  unfold past;split
  ·exact(Cr p r).trans (He c r)
  grind
def zT(l:Str):Str×Bool:=
 if atS l 0==46&&digB (atS l 1)then(past digB (l.drop 1),false)else(l,true)
def expS(l:Str):Option Str:=
 if atS l 0==101||atS l 0==69 then(if digB (atS (unsign (l.drop 1)) 0)then some (past digB (unsign (l.drop 1)))else none)else none
def zy(l:Str):Str×Bool:=
 let x:=zT (past digB (unsign l))
 match expS x.1 with
 |some r=>(r,false)
 |none=>x
def decN(n:Nat)(b:UInt8):Nat:=10*n+(b.toNat - 48)
def upto(l r:Str):Str:=l.take (l.length - r.length)
def zW(m:UInt8):Str->Option Str×Str
 |[]=>(some [],[])
 |c::r=>
  if c==m then(some [],r)
  else if c==10 then(none,c::r)
  else if c==92 then
   (if r.isEmpty then(some [],[])
   else if atS r 0==10 then zW m (r.drop 1)
   else((zW m (zq r).2).1.map ((zq r).1++ ·),(zW m (zq r).2).2))
  else((zW m r).1.map (c:: ·),(zW m r).2)
termination_by l=>l.length
decreasing_by
 all_goals first|(have:=zS r;simp only[Fa];omega)|(simp only[Fa,Gc];omega)
def badS:Str->Str
 |[]=>[]
 |c::r=>if c==41 then r else if escS (c::r)then badS (zq r).2 else badS r
termination_by l=>l.length
decreasing_by
 all_goals first|(have:=zS r;simp only[Fa];omega)|(simp only[Fa];omega)
def unB(b:UInt8):Bool:=decide (b.toNat<=8)||b==11||decide (14<=b.toNat)&&decide (b.toNat<=31)||b==127
def urlS:Str->Option Str×Str
 |[]=>(some [],[])
 |c::r=>
  if c==41 then(some [],r)
  else if spB c then(match past spB r with
   |[]=>(some [],[])
   |d::r'=>if d==41 then(some [],r')else(none,badS (d::r')))
  else if c==34||c==39||c==40||unB c||c==92&& !escS (c::r)then(none,badS (c::r))
  else if c==92 then((urlS (zq r).2).1.map ((zq r).1++ ·),(urlS (zq r).2).2)
  else((urlS r).1.map (c:: ·),(urlS r).2)
termination_by l=>l.length
decreasing_by
 all_goals first|(have:=zS r;simp only[Fa];omega)|(simp only[Fa];omega)
def Kh(b:UInt8):Int:=
 if b==58 then 16 else if b==59 then 17 else if b==44 then 18 else if b==91 then 19 else if b==93 then 20 else if b==40 then 21 else if b==41 then 22 else if b==123 then 23 else if b==125 then 24 else 0
def Ki(k:Int):zb:=⟨k,[],0,[],false⟩
def jg:Nat:=1000000000000
def mh:Nat->Nat->Nat
 |0,n=>n
 |k+1,n=>if n=0\/jg<=n then n else mh k (min jg (10*n))
set_option maxRecDepth 100000
abbrev sc(s:Str)(k:Nat):za:=⟨s,(k:Int)⟩
def pk(l:Str)(n:Nat):Int:=match l[n]? with|some b=>(b.toNat:Int)|none=> -1
def beh(s r:Str):Nat:=s.length - r.length
theorem zJ{n:Int}(h1: -9223372036854775808<=n)(h2:n<=9223372036854775807):w64 n=n:=qw h1 h2
theorem Hr{s r:Str}(h:r<:+s):s.drop (beh s r)=r:=by obtain⟨t,rfl⟩:=h;unfold beh;rw[Ba,show t.length+r.length - r.length=t.length by omega,List.drop_left]
theorem Ni(s r:Str):beh s r<=s.length:=by unfold beh;omega
theorem zAD{s:Str}{k:Nat}(h:k<=s.length):beh s (s.drop k)=k:=by unfold beh;rw[Gc];omega
theorem eD{s:Str}{k n:Nat}(hs:s.length<=big)(hk:k<=s.length)(hn:n<=8):zf ((n:Int),sc s k)=some (pk (s.drop k) n):=by
 have hb:big=4194304:=rfl;have e:w64 ((k:Int)+(n:Int))=((k+n:Nat):Int):=by rw[zJ (by omega) (by omega)];omega
 unfold zf pk;simp only[e];rw[Vd];by_cases h:k+n<s.length
 ·rw[Ha (by omega),Da];have hg:geti s ((k+n:Nat):Int)=some s[k+n]:=qA h;have hlt:=Ob s[k+n];simp only[ze,hg,Aa,Ma h];rw[zJ (by omega) (by omega)]
 ·rw[Xa (by omega),Ca,yg (by omega)]
theorem Kw{s:Str}{k:Nat}(hs:s.length<=big)(hk:k<=s.length):zf (0,sc s k)=some (pk (s.drop k) 0):=eD (n:=0) hs hk (by omega)
theorem DN{s:Str}{k:Nat}(hs:s.length<=big)(hk:k<=s.length):zf (1,sc s k)=some (pk (s.drop k) 1):=eD (n:=1) hs hk (by omega)
theorem zGE{s:Str}{k:Nat}(hs:s.length<=big)(hk:k<=s.length):zf (2,sc s k)=some (pk (s.drop k) 2):=eD (n:=2) hs hk (by omega)
theorem dw{β:Type}{f:Int->Option β}{p:UInt8->β}(h: ∀b:UInt8,f (b.toNat:Int)=some (p b))(h0:f (-1)=some (p 0))(l:Str)(n:Nat):f (pk l n)=some (p (atS l n)):=by
 unfold pk atS;rw[yc];cases l[n]? with
 |none=>exact h0
 |some b=>exact h b
theorem of_n{β:Type}{f:Int->Option β}{p:UInt8->β}(h: ∀n:Nat,n<256->f (n:Int)=some (p (UInt8.ofNat n)))(b:UInt8):f (b.toNat:Int)=some (p b):=by
 have:=h b.toNat (Ob b)
 rwa [Mc]at this
theorem Vy(l:Str)(n:Nat):qD (pk l n)=some (spB (atS l n)):=dw (of_n (by decide+kernel)) (by decide+kernel) l n
theorem Uo(l:Str)(n:Nat):ZF (pk l n)=some (digB (atS l n)):=dw (of_n (by decide+kernel)) (by decide+kernel) l n
theorem zEH(l:Str)(n:Nat):Ns (pk l n)=some (fstB (atS l n)):=dw (of_n (by decide+kernel)) (by decide+kernel) l n
theorem EQ(l:Str)(n:Nat):jv (pk l n)=some (letB (atS l n)):=dw (of_n (by decide+kernel)) (by decide+kernel) l n
def hexI(b:UInt8):Int:=if qL b then(hexN b:Int)else -1
theorem fG(l:Str)(n:Nat):wo (pk l n)=some (hexI (atS l n)):=dw (of_n (by decide+kernel)) (by decide+kernel) l n
theorem Ej(l:Str)(n:Nat)(c:UInt8)(h:c≠0):(pk l n==(c.toNat:Int))=(atS l n==c):=by
 unfold pk atS;rw[yc];cases l[n]? with
 |none=> have h1:((-1:Int)==(c.toNat:Int))=false:=Ia.2 (by omega);have h2:((none:Option UInt8).getD 0==c)=false:=Ia.2 (fun e=>h e.symm);rw[h2];exact h1
 |some b=>
  show((b.toNat:Int)==(c.toNat:Int))=(b==c);by_cases e:b=c
  ·subst e;rw[af,af]
  ·have:b.toNat≠c.toNat:=fun h=>e (Vf.1 h);rw[Ia.2 e,Ia.2 (by omega)]
theorem BN(l:Str)(n:Nat):(pk l n==10)=(atS l n==10):=Ej l n 10 (by decide)
theorem VY(l:Str)(n:Nat):(pk l n==34)=(atS l n==34):=Ej l n 34 (by decide)
theorem zGF(l:Str)(n:Nat):(pk l n==35)=(atS l n==35):=Ej l n 35 (by decide)
theorem zGG(l:Str)(n:Nat):(pk l n==37)=(atS l n==37):=Ej l n 37 (by decide)
theorem UY(l:Str)(n:Nat):(pk l n==39)=(atS l n==39):=Ej l n 39 (by decide)
theorem zGH(l:Str)(n:Nat):(pk l n==40)=(atS l n==40):=Ej l n 40 (by decide)
theorem yM(l:Str)(n:Nat):(pk l n==41)=(atS l n==41):=Ej l n 41 (by decide)
theorem xM(l:Str)(n:Nat):(pk l n==43)=(atS l n==43):=Ej l n 43 (by decide)
theorem Jw(l:Str)(n:Nat):(pk l n==45)=(atS l n==45):=Ej l n 45 (by decide)
theorem wM(l:Str)(n:Nat):(pk l n==46)=(atS l n==46):=Ej l n 46 (by decide)
theorem zGI(l:Str)(n:Nat):(pk l n==64)=(atS l n==64):=Ej l n 64 (by decide)
theorem zGJ(l:Str)(n:Nat):(pk l n==69)=(atS l n==69):=Ej l n 69 (by decide)
theorem TY(l:Str)(n:Nat):(pk l n==92)=(atS l n==92):=Ej l n 92 (by decide)
theorem zFR(l:Str)(n:Nat):(pk l n==101)=(atS l n==101):=Ej l n 101 (by decide)
theorem Pq(l:Str):(pk l 0== -1)=l.isEmpty:=by
 cases l with
 |nil=>rfl
 |cons b r=> show((b.toNat:Int)== -1)=false;exact Ia.2 (by omega)
theorem QQ(l:Str)(k n:Nat):atS (l.drop k) n=atS l (k+n):=by unfold atS;rw[yc,yc,Vd]
theorem IQ {R:Type} {step:za->Option (LO za za R)} {s:Str} (p:UInt8->Bool) (h0:p 0=false)
  (h: ∀k,k<=s.length->step (sc s k)=some (bif p (atS (s.drop k) 0)then .again (sc s (k+1))else .out (sc s k))) {k:Nat} (hk:k<=s.length):
  bg step (sc s k)=some (.out (sc s (beh s (past p (s.drop k))))):=by
 refine ZM (fun z=> ∃j,z=sc s j/\j<=s.length/\past p (s.drop j)=past p (s.drop k)) (fun z=>s.length - z.at_.toNat) _ ?_ ⟨k,rfl,hk,rfl⟩;rintro _ ⟨j,rfl,hj,he⟩;rw[h j hj];cases hd:s.drop j with
 |nil=>
  rw[show atS ([]:Str) 0=0 from rfl,h0,Ca];refine .inr (.inl ⟨_,rfl,?_⟩);rw[<-he,hd];have:j=s.length:=by have:=Jf.1 hd;omega
  subst this;show LX.out (sc s (beh s []))=_;unfold beh;rw[Ib,Nat.sub_zero]
 |cons c r=>
  have hlt:j<s.length:=by
   rcases Tc j s.length with h'|h'
   ·exact h'
   ·rw[Be h']at hd;cases hd
  have hr:s.drop (j+1)=r:=by have:=Rb hlt;rw[hd]at this;injection this with _ h2;exact h2.symm
  rw[show atS (c::r) 0=c from rfl];cases hp:p c with
  |true=> refine .inl ⟨_,rfl,⟨j+1,rfl,by omega,?_⟩,by simp only[Ua];omega⟩;rw[hr,<-he,hd,past,hp];rfl
  |false=> refine .inr (.inl ⟨_,rfl,?_⟩);rw[<-he,hd,past,hp,Ja (by decide),<-hd,zAD hj]
theorem AO{s:Str}{k:Nat}(hs:s.length<=big)(hk:k<=s.length):w64 ((k:Int)+1)=((k+1:Nat):Int):=by have hb:big=4194304:=rfl;rw[zJ (by omega) (by omega)];omega
theorem zCy{s:Str}{k:Nat}(hs:s.length<=big)(hk:k<=s.length):zY (sc s k)=some (sc s (beh s (past spB (s.drop k)))):=by unfold zY;rw[Zd (IQ spB rfl (fun j hj=> ?_) hk)];simp only[ze,Kw hs hj,Aa,Vy,AO hs hj];cases spB (atS (s.drop j) 0)<;>rfl
theorem zAp{s:Str}{k:Nat}(hs:s.length<=big)(hk:k<=s.length):zV (sc s k)=some (sc s (beh s (past digB (s.drop k)))):=by unfold zV;rw[Zd (IQ digB rfl (fun j hj=> ?_) hk)];simp only[ze,Kw hs hj,Aa,Uo,AO hs hj];cases digB (atS (s.drop j) 0)<;>rfl
theorem number_eq{s:Str}{k:Nat}(hs:s.length<=big)(hk:k<=s.length):ZG (sc s k)=some (nbS (s.drop k)):=by
 unfold ZG nbS unsign undot ag;simp only[ze,Kw hs hk,Aa,xM,Jw];have key: ∀(b:Bool),(Za (X:=Int) (bif b then some (LX.out 1)else some (LX.out 0)) fun j2=>
   Za (X:=Int) ((zf (j2,sc s k)).bind fun y3=>bif y3==46 then some (LX.out (w64 (j2+1)))else some (LX.out j2)) fun j4=>
   (zf (j4,sc s k)).bind fun y5=>(ZF y5).bind fun y6=>some y6)=some (digB (atS (if atS (if b then(s.drop k).drop 1 else s.drop k) 0==46 then(if b then(s.drop k).drop 1 else s.drop k).drop 1 else(if b then(s.drop k).drop 1 else s.drop k)) 0)):=by
  intro b;cases b with
  |false=>
   simp only[Ca,zh,Kw hs hk,Aa,wM,Xc,Ve];cases h:atS (s.drop k) 0==46 with
   |false=>simp only[Ca,zh,Kw hs hk,Aa,Uo,Xc,Ve]
   |true=> simp only[Da,zh,Ud];rw[show w64 (0+1)=1 from rfl,DN hs hk];simp only[Aa,Uo];rw[QQ (s.drop k) 1 0]
  |true=>
   simp only[Da,zh,DN hs hk,Aa,wM,Ud];rw[QQ (s.drop k) 1 0];cases h:atS (s.drop k) (1+0)==46 with
   |false=> simp only[Yd]at h;simp only[h,Ca,zh,DN hs hk,Aa,Uo,Xc,Ve];rw[QQ (s.drop k) 1 0]
   |true=> simp only[Yd]at h;simp only[h,Da,zh,Ud];rw[show w64 (1+1)=2 from rfl,zGE hs hk];simp only[Aa,Uo];rw[Pf,QQ (s.drop k) (1+1) 0]
 have:=key (atS (s.drop k) 0==43||atS (s.drop k) 0==45);rw[show(bif atS (s.drop k) 0==43 then true else atS (s.drop k) 0==45)=(atS (s.drop k) 0==43||atS (s.drop k) 0==45)from by cases (atS (s.drop k) 0==43)<;>rfl];exact this
abbrev sr(s r:Str):za:=sc s (beh s r)
theorem sr_0(s:Str):(⟨s,0⟩:za)=sr s s:=by show sc s 0=sc s (beh s s);unfold beh;rw[kg]
theorem Rp{s r:Str}{n:Nat}(hs:s.length<=big)(hr:r<:+s)(hn:n<=8):zf ((n:Int),sr s r)=some (pk r n):=by rw[eD hs (Ni s r) hn,Hr hr]
theorem yh{s r:Str}(hs:s.length<=big)(hr:r<:+s):zf (0,sr s r)=some (pk r 0):=Rp (n:=0) hs hr (by omega)
theorem Fx{s r:Str}(hs:s.length<=big)(hr:r<:+s):zf (1,sr s r)=some (pk r 1):=Rp (n:=1) hs hr (by omega)
theorem zFQ{s r:Str}(hs:s.length<=big)(hr:r<:+s):zf (2,sr s r)=some (pk r 2):=Rp (n:=2) hs hr (by omega)
theorem kC{s r:Str}(hs:s.length<=big)(hr:r<:+s):zY (sr s r)=some (sr s (past spB r)):=by rw[zCy hs (Ni s r),Hr hr]
theorem JD{s r:Str}(hs:s.length<=big)(hr:r<:+s):zV (sr s r)=some (sr s (past digB r)):=by rw[zAp hs (Ni s r),Hr hr]
theorem zEc{s r:Str}(hs:s.length<=big)(hr:r<:+s):ZG (sr s r)=some (nbS r):=by rw[number_eq hs (Ni s r),Hr hr]
theorem OI{s r:Str}{n:Nat}(hr:r<:+s)(hn:n<=r.length):beh s r+n=beh s (r.drop n):=by have:=hr.length_le;unfold beh;rw[Gc];omega
theorem iG{s r:Str}{n:Nat}(hs:s.length<=big)(hr:r<:+s)(hn:n<=r.length):(⟨s,w64 ((beh s r:Int)+(n:Int))⟩:za)=sr s (r.drop n):=by have hb:big=4194304:=rfl;have:=Ni s r;have h2:=hr.length_le;rw[zJ (by omega) (by omega),show(beh s r:Int)+(n:Int)=((beh s r+n:Nat):Int) by omega,OI hr hn]
theorem Ut{l:Str}{n:Nat}(h:atS l n≠0):n<l.length:=by
 rcases Tc n l.length with h'|h'
 ·exact h'
 ·exact absurd (by unfold atS;rw[yc,yg h'];rfl) h
theorem Uw{s r:Str}(hs:s.length<=big)(hr:r<:+s)(h:atS r 0≠0):(⟨s,w64 ((beh s r:Int)+1)⟩:za)=sr s (r.drop 1):=iG (n:=1) hs hr (Ut h)
theorem Ml{s r:Str}(hr:r<:+s)(n:Nat):r.drop n<:+s:=(Hf n r).trans hr
theorem Ll{s r:Str}(p:UInt8->Bool)(hr:r<:+s):past p r<:+s:=(Cr p r).trans hr
theorem Uv{s r:Str}(hr:r<:+s):unsign r<:+s:=by
 unfold unsign;split
 ·exact Ml hr 1
 ·exact hr
theorem yN{b:UInt8}(h:ag b=true):b≠0:=by rintro rfl;revert h;decide
theorem Jt(a b:Bool):(bif a then true else b)=(a||b):=by cases a<;>rfl
theorem VZ(a b:Bool):(bif a then b else false)=(a&&b):=by cases a<;>rfl
theorem xJ{s r:Str}(hr:r<:+s):(zT r).1<:+s:=by
 unfold zT;split
 ·exact Ll _ (Ml hr 1)
 ·exact hr
theorem fO{s r q:Str}(hr:r<:+s)(h:expS r=some q):q<:+s:=by
 unfold expS at h;split at h
 ·split at h
  ·cases h;exact Ll _ (Uv (Ml hr 1))
  ·cases h
 ·cases h
theorem KU{s r:Str}(hr:r<:+s):(zy r).1<:+s:=by
 unfold zy;have h1:=xJ (Ll digB (Uv hr));simp only;cases h:expS (zT (past digB (unsign r))).1 with
 |some q=>exact fO h1 h
 |none=>exact h1
theorem zA4{s l:Str}(hs:s.length<=big)(hl:l<:+s):qp (sr s l)=some ((zy l).2,sr s (zy l).1):=by
 unfold qp;simp only[ze,yh hs hl,Aa,xM,Jw,Jt];have e1:(bif (atS l 0==43||atS l 0==45)then some (LX.out (⟨s,w64 ((beh s l:Int)+1)⟩:za))else some (LX.out (sr s l)))=(some (LX.out (sr s (unsign l))):Option (LX za (Bool×za))):=by
  unfold unsign;cases h:ag (atS l 0)with
  |true=> have h':(atS l 0==43||atS l 0==45)=true:=h;rw[h',Da,La rfl,Uw hs hl (yN h)]
  |false=> have h':(atS l 0==43||atS l 0==45)=false:=h;rw[h',Ca,Ja (by decide)]
 rw[e1,zh];have hu:=Uv hl;rw[JD hs hu];simp only[Aa];have hp:=Ll digB hu;unfold zy;generalize past digB (unsign l)=q at hp ⊢;have e2:Za (X:=Bool×za) (R:=Bool×za) ((zf (0,sr s q)).bind fun y4=>
   (zw (y4==46) (zf (1,sr s q)) (default:Int)).bind fun y5=>
   (zw (y4==46) (ZF y5) (default:Bool)).bind fun y6=>
   bif bif y4==46 then y6 else false then(zV (⟨s,w64 ((beh s q:Int)+1)⟩:za)).bind fun y7=>some (LX.out (false,y7))else some (LX.out (true,sr s q)))=Za (some (LX.out ((zT q).2,sr s (zT q).1))):=by
  congr 1;unfold zT;simp only[yh hs hp,Fx hs hp,Aa,wM];cases h:atS q 0==46 with
  |false=>simp only[zO,Aa,Ca,Yc,Xc,Ve]
  |true=>
   simp only[zH,Aa,Da,Uo,Xb];cases h2:digB (atS q 1)with
   |false=>simp only[Ca,Xc,Ve]
   |true=> rw[Da,La rfl,Uw hs hp (by rw[Jb.1 h];decide),JD hs (Ml hp 1)];rfl
 rw[e2,zh];have hw:=xJ hp;generalize zT q=W at hw ⊢;obtain⟨w,i⟩:=W;simp only at hw ⊢;have e3:((zf (0,sr s w)).bind fun y9=>
   (zw (!(y9==101)) (zf (0,sr s w)) (default:Int)).bind fun y10=>
   bif bif y9==101 then true else y10==69 then
    Za (X:=(Bool×Int)×za) ((zf (1,sr s w)).bind fun y11=>bif bif y11==43 then true else y11==45 then some (LX.out ((i,2),sr s w))else some (LX.out ((i,1),sr s w))) fun j12=>
    (zf (j12.1.2,j12.2)).bind fun y13=>(ZF y13).bind fun y14=>
    bif y14 then(zV (⟨j12.2.s,w64 (j12.2.at_+j12.1.2)⟩:za)).bind fun y15=>some (LX.out (false,y15))else some (LX.out (j12.1.1,j12.2))
   else some (LX.out (i,sr s w)))=(some (LX.out (match expS w with|some r=>(false,sr s r)|none=>(i,sr s w))):Option (LX (Bool×za) (Bool×za))):=by
  simp only[yh hs hw,Aa,zFR];have e4:((zw (!(atS w 0==101)) (some (pk w 0)) (default:Int)).bind fun y10=>(some (bif atS w 0==101 then true else y10==69):Option Bool))=some (atS w 0==101||atS w 0==69):=by
   cases h:atS w 0==101 with
   |true=>rfl
   |false=>simp only[Lb,zH,Aa,Ca,zGJ,Od]
  have e5: ∀(f:Bool->Option (LX (Bool×za) (Bool×za))),((zw (!(atS w 0==101)) (some (pk w 0)) (default:Int)).bind fun y10=>f (bif atS w 0==101 then true else y10==69))=f (atS w 0==101||atS w 0==69):=by intro f;have:=congrArg (fun o=>Option.bind o f) e4;simpa [Option.bind_assoc] using this
  refine(e5 (fun b=>bif b then _ else _)).trans ?_;unfold expS;cases h:(atS w 0==101||atS w 0==69)with
  |false=>rfl
  |true=>
   have hne:atS w 0≠0:=by intro e;rw[e]at h;revert h;decide
   simp only[Da,Ud,Fx hs hw,Aa,xM,Jw,Jt];unfold unsign;have hd:atS (w.drop 1) 0=atS w 1:=by rw[QQ w 1 0]
   rw[hd];cases hg:(atS w 1==43||atS w 1==45)with
   |true=>
    have hg':ag (atS w 1)=true:=hg;have hl2:=Ut (yN hg');simp only[Da,zh,zFQ hs hw,Aa,Uo,hg',Ud,Pf];rw[show atS (w.drop (1+1)) 0=atS w 2 by rw[QQ w 2 0]];cases hq:digB (atS w 2)with
    |false=>rfl
    |true=> rw[Da,La rfl,show(2:Int)=((2:Nat):Int)from rfl,iG hs hw (by omega),JD hs (Ml hw 2)];rfl
   |false=>
    have hg':ag (atS w 1)=false:=hg;simp only[Ca,zh,Fx hs hw,Aa,Uo,hg',Xc,Ve];rw[hd];cases hq:digB (atS w 1)with
    |false=>rfl
    |true=> rw[Da,La rfl,Uw hs hw hne,JD hs (Ml hw 1)];rfl
 refine(congrArg (fun o=>Za o _) e3).trans ?_;rw[zh];cases expS w<;>rfl
def valG(n:Nat)(l:Str):Nat:=l.foldl decN n
theorem kE(n:Nat)(a b:Str):valG n (a++b)=valG (valG n a) b:=List.foldl_append
theorem SQ{k:Nat}(h:k<10):digB (UInt8.ofNat (48+k))=true/\(UInt8.ofNat (48+k)).toNat=48+k:=by
 have:(UInt8.ofNat (48+k)).toNat=48+k:=by rw[UInt8.toNat_ofNat'];omega
 refine⟨?_,this⟩;unfold digB;rw[this,Ha (by omega),Ha (by omega)];rfl
theorem bu: ∀(u:Nat),(Lib.decDigits u).all digB=true/\valG 0 (Lib.decDigits u)=u/\Lib.decDigits u≠[]:=by
 intro u
 induction u using Nat.strongRecOn with
 |_ u ih=>
  rw[Lib.decDigits];by_cases h:u<10
  ·rw[dif_pos h];obtain⟨h1,h2⟩:=SQ h;refine⟨by rw[Sd,h1];rfl,?_,by simp⟩;show decN 0 _=u;unfold decN;rw[h2];omega
  ·rw[dif_neg h];obtain⟨a,b,c⟩:=ih (u / 10) (by omega);obtain⟨h1,h2⟩:=SQ (k:=u%10) (by omega);refine⟨by rw[Ig,a,Sd,h1];rfl,?_,by simp⟩;rw[kE,b];show decN _ _=u;unfold decN;rw[h2];omega
theorem Yz: ∀(q t:Str),q.all digB=true->past digB (q++t)=past digB t
 |[],t,_=>rfl
 |c::q,t,h=>by rw[Sd,Ga]at h;rw[Db,past,La h.1,Yz q t h.2]
def d48(k:Nat):UInt8:=UInt8.ofNat (48+k)
def Si(r:Nat):Str:=Lib.trimRightB [d48 (r / 100),d48 (r / 10%10),d48 (r%10)] 48
theorem VQ{r:Nat}(h:r<1000):Lib.decDigits (1000+r)=49::[d48 (r / 100),d48 (r / 10%10),d48 (r%10)]:=by rw[Lib.decDigits,dif_neg (by omega),Lib.decDigits,dif_neg (by omega),Lib.decDigits,dif_neg (by omega),Lib.decDigits,dif_pos (by omega)];rw[show(1000+r) / 10 / 10 / 10=1 by omega,show(1000+r) / 10 / 10%10=r / 100 by omega,show(1000+r) / 10%10=r / 10%10 by omega,show(1000+r)%10=r%10 by omega];rfl
def Xx(r:Nat):Bool:=(Si r).all digB&&decide ((Si r).length<=3)&&decide (valG 0 (Si r)*10 ^ (3 - (Si r).length)=r)&&((Si r).isEmpty==(r==0))&& !((Si r).getLast? ==some 48)
theorem YE: ∀r,r<1000->Xx r=true:=by decide+kernel
def jl(r:Nat)(p:Bool):Str:=bif (Si r).isEmpty then(bif p then [46,48]else [])else 46::Si r
def xg(m:Nat)(p:Bool):Str:=Lib.decDigits (m / 1000)++jl (m%1000) p
def numT(n:Int)(p:Bool):Str:=(if n<0 then [45]else [])++xg n.natAbs p
theorem EA{u:Nat}(h:u<18446744073709551616):(Lib.decDigits u).length<=20:=by
 rw[Lib.decDigits_length];by_cases h1:u=0
 ·subst h1;rw[Lib.nDigits_small (by omega)];omega
 ·have:=Lib.numDigits_eq u (by omega) h;split at this<;>omega
theorem zCh{r:Nat}(h:r<1000)(p:Bool):(jl r p).length<=4:=by
 have:=YE r h;simp only[Xx,Ga,jb]at this;unfold jl;cases (Si r).isEmpty with
 |true=>cases p<;>simp
 |false=>simp only[Ca,Fa];omega
theorem gz{m:Nat}(h:m<=1000000000000)(p:Bool):(xg m p).length<=24:=by unfold xg;rw[Ba];have:=EA (u:=m / 1000) (by omega);have:=zCh (r:=m%1000) (by omega) p;omega
theorem Vm{n m b:Nat}(h:n+m<=100000)(hb:b<=100):Zc n m b=true:=by unfold Zc;refine Ha ?_;have:=Nat.mul_le_mul h hb;omega
theorem G6(l:Str):(l==[])=l.isEmpty:=by cases l<;>rfl
def Al(n:Nat):Nat:=if 65<=n/\n<=90 then n+32 else n
def El(b:UInt8):UInt8:=UInt8.ofNat (Al b.toNat)
theorem X3{n:Nat}(h:n<256):Al n<256:=by unfold Al;split<;>omega
theorem l9(b:UInt8):(El b).toNat=Al b.toNat:=by unfold El;rw[UInt8.toNat_ofNat'];exact Cg (X3 (Ob b))
theorem MR: ∀n:Nat,n<256->ZU (n:Int)=some ((Al n:Nat):Int):=by decide+kernel
theorem zFD: ∀n:Nat,n<256->(bif decide (65<=(n:Int))then decide ((n:Int)<=90)else false)=true->Z4 (ibOr IntKind.u8 (n:Int) 32)=some (UInt8.ofNat (Al n)):=by decide+kernel
def lowS(l:Str):Str:=l.map El
theorem pI{α:Type}{l:List α}{i:Nat}(h:i<l.length)(f:α->α):((l.take i).map f++l.drop i).set i (f l[i])=(l.take (i+1)).map f++l.drop (i+1):=by
 apply List.ext_getElem
 ·simp;omega
 ·intro j h1 h2;rw[List.getElem_set];split
  ·rename_i hij;subst hij;rw[List.getElem_append_left (by simp;omega)];simp
  ·rename_i hij;simp only[List.getElem_append,Ra,Jd,List.getElem_map,List.getElem_take,List.getElem_drop];split
   ·rename_i hlt;rw[dif_pos (by omega)]
   ·rename_i hlt;rw[dif_neg (by omega)];congr 1;omega
theorem UI{α:Type}{l:List α}{i:Nat}(h:i<l.length)(f:α->α):((l.take i).map f++l.drop i)[i]? =some l[i]:=by rw[Sc (by simp;omega)];simp[h,Uh (Nat.le_of_lt h)]
theorem dD{α:Type}{l:List α}{i:Nat}(h:i<=l.length)(f:α->α):((l.take i).map f++l.drop i).length=l.length:=by simp;omega
theorem zBu{α:Type}{l:List α}{i:Nat}(h:i<l.length)(f:α->α)(e:f l[i]=l[i]):(l.take i).map f++l.drop i=(l.take (i+1)).map f++l.drop (i+1):=by
 rw[<-pI h f,e];apply ui;intro j;rw[List.getElem?_set];split
 ·rename_i hij;subst hij;rw[UI h,dD (Nat.le_of_lt h),La h]
 ·rfl
theorem Gx(i:Nat):decide ((0:Int)<=(i:Int))=true:=Ha (by omega)
theorem PR{l:Str}(h:l.length<=big):bv l=some (lowS l):=by
 unfold bv;rw[zl (Ha (by unfold big at h;unfold maxLen;omega))];have key: ∀(k i:Nat),i+k=l.length-> ∃n,qU (X:=List UInt8) (R:=Str) (fun(s1:Int×List UInt8)=>
   bif decide (s1.1<(s1.2.length:Int))then
    need (decide (0<=s1.1)&&decide (s1.1<(s1.2.length:Int)))<|
    ze s1.2[s1.1.toNat]? fun y2=>
    ze (ZU (y2.toNat:Int)) fun y3=>
    need (decide (0<=s1.1)&&decide (s1.1<(s1.2.length:Int)))<|
    ze s1.2[s1.1.toNat]? fun y4=>
    ze (Z4 y3) fun y5=>
    some (LO.again (w64 (s1.1+1),List.set s1.2 s1.1.toNat y5))
   else
    some (LO.out s1.2)) n ((i:Int),(l.take i).map El++l.drop i)=some (.out (lowS l)):=by
  intro k
  induction k with
  |zero=>
   intro i hi;have hi:i=l.length:=by omega
   subst hi;refine⟨1,?_⟩;simp only[qU,dD (Ya _),Nj,Ca];simp[lowS]
  |succ k ih=>
   intro i hi;have hlt:i<l.length:=by omega
   obtain⟨n,hn⟩:=ih (i+1) (by omega);refine⟨n+1,?_⟩;have hb:=Ob l[i];simp only[qU,dD (Nat.le_of_lt hlt),Xi hlt,Da,Gx,Oc,Zr,Ua,UI hlt,ze,Aa,MR _ hb];rw[<-l9,zAG,qj hlt h];simp only[Aa,pI hlt];exact hn
 obtain⟨n,hn⟩:=key l.length 0 (by omega);replace hn:=Sk hn;simp only[Dg,ic,Nc,ve]at hn;exact(Gn hn).trans rfl
theorem GU{l:Str}(h:l.length<=big):Cw l=some (lowS l):=by
 unfold Cw;rw[zl (Ha (by unfold big at h;unfold maxLen;omega))];have key: ∀(k i:Nat),i+k=l.length-> ∃n,qU (X:=List UInt8) (R:=Str) (fun(s1:Int×List UInt8)=>
   bif decide (s1.1<(l.length:Int))then
    Za (X:=Int×List UInt8) (
      need (decide (0<=s1.1)&&decide (s1.1<(s1.2.length:Int)))<|
      ze s1.2[s1.1.toNat]? fun y2=>
      bif bif decide (65<=(y2.toNat:Int))then decide ((y2.toNat:Int)<=90)else false then
       need (decide (0<=s1.1)&&decide (s1.1<(s1.2.length:Int)))<|
       ze s1.2[s1.1.toNat]? fun y3=>
       need (decide (0<=s1.1)&&decide (s1.1<(s1.2.length:Int)))<|
       ze s1.2[s1.1.toNat]? fun y4=>
       ze (Z4 (ibOr IntKind.u8 (y3.toNat:Int) 32)) fun y5=>
       some (LX.out (s1.1,List.set s1.2 s1.1.toNat y5))
      else
       some (LX.out (s1.1,s1.2))) fun j6=>
    some (LO.again (w64 (j6.1+1),j6.2))
   else
    some (LO.out s1.2)) n ((i:Int),(l.take i).map El++l.drop i)=some (.out (lowS l)):=by
  intro k
  induction k with
  |zero=>
   intro i hi;have hi:i=l.length:=by omega
   subst hi;refine⟨1,?_⟩;simp only[qU,Nj,Ca];simp[lowS]
  |succ k ih=>
   intro i hi;have hlt:i<l.length:=by omega
   obtain⟨n,hn⟩:=ih (i+1) (by omega);refine⟨n+1,?_⟩;have hb:=Ob l[i];simp only[qU,dD (Nat.le_of_lt hlt),Xi hlt,Da,Gx,Oc,Zr,Ua,UI hlt,ze,Aa];cases hc:(bif decide (65<=(l[i].toNat:Int))then decide ((l[i].toNat:Int)<=90)else false)with
   |true=> have e:=zFD _ hb hc;simp only[e,Da,Aa,zh,qj hlt h];rw[show UInt8.ofNat (Al l[i].toNat)=El l[i]from rfl,pI hlt];exact hn
   |false=>
    have e:El l[i]=l[i]:=by unfold El Al;rw[Ja,Mc];rintro⟨h1,h2⟩;rw[Ha (by omega),Da,Ha (by omega)]at hc;cases hc
    simp only[Ca,zh,qj hlt h];rw[zBu hlt El e];exact hn
 obtain⟨n,hn⟩:=key l.length 0 (by omega);replace hn:=Sk hn;simp only[Dg,ic,Nc,ve]at hn;exact(Gn hn).trans rfl
def Zz(l:Str):Bool:=l.all fun b=> !(b==0)
theorem XI(c:UInt8): ∀l:Str,decide (Lib.indexByte l c>=0)=l.any fun b=>b==c
 |[]=>rfl
 |b::l=>by
  have ih:=XI c l;have hg:=Lib.indexByte_ge l c;rw[List.any_cons,Lib.indexByte];cases hb:(b==c)with
  |true=>rfl
  |false=>
   rw[Od,<-ih,Ja (by simp)];by_cases h:Lib.indexByte l c= -1
   ·rw[La (by rw[h];rfl),h]
   ·rw[Ja (by simpa using h)];rw[Ha (by omega),Ha (by omega)]
theorem zEa(l:Str):(l.any fun b=>b==0)= !Zz l:=by
 unfold Zz
 induction l with
 |nil=>rfl
 |cons b l ih=>rw[List.any_cons,Sd,ih];cases (b==0)<;>simp
theorem yF(l:Str)(n:Int):strings_IndexByte (l,n)=some (Lib.indexByte l n.toNat.toUInt8):=rfl
theorem zDW(l:Str):decide (Lib.indexByte l (0:Int).toNat.toUInt8>=0)= !Zz l:=(XI 0 l).trans (zEa l)
theorem zFx(n m:Nat):decide ((n:Int)>(m:Int))= !decide (n<=m):=by
 by_cases h:n<=m
 ·rw[Ha h,Xa (by omega)];rfl
 ·rw[Xa h,Ha (by omega)];rfl
theorem byte_zero(b:UInt8):((b.toNat:Int)==0)=(b==0):=by
 by_cases h:b=0
 ·subst h;rfl
 ·have h2:b.toNat≠0:=fun e=>h (Vf.1 e);rw[Ia.2 h,Ia.2 (by omega)]
theorem HZ(n m:Nat):decide ((n:Int)<=(m:Int))=decide (n<=m):=by
 by_cases h:n<=m
 ·rw[Ha h,Ha (by omega)]
 ·rw[Xa h,Xa (by omega)]
theorem Aw(l m:Str):strings_HasPrefix (l,m)=some (m.isPrefixOf l):=by
 have key: ∀m l:Str,m.isPrefixOf l=(decide (m.length<=l.length)&&l.take m.length==m):=by
  intro m l;rw[Ug];simp only[Lg,Ga,jb,Jb];constructor
  ·rintro⟨t,rfl⟩;exact⟨by simp,by simp⟩
  ·rintro⟨h1,h2⟩;exact⟨l.drop m.length,by rw[<-h2,Jd,Uh h1,Tf]⟩
 unfold strings_HasPrefix stringslite_HasPrefix;have e1:decide ((l.length:Int)>=(m.length:Int))=decide (m.length<=l.length):=HZ _ _;have e2:decide ((m.length:Int)<=(l.length:Int))=decide (m.length<=l.length):=HZ _ _;simp only[e1,e2,Gx,Xb,key];cases decide (m.length<=l.length)<;>rfl
theorem zqK(l m:Str):strings_TrimPrefix (l,m)=some (bif m.isPrefixOf l then l.drop m.length else l):=by
 have h:stringslite_HasPrefix (l,m)=some (m.isPrefixOf l):=by
  have:=Aw l m;unfold strings_HasPrefix at this;cases hh:stringslite_HasPrefix (l,m)with
  |none=>simp only[hh]at this;cases this
  |some b=>simp only[hh]at this;exact this
 unfold strings_TrimPrefix stringslite_TrimPrefix;simp only[h,ze,Aa];cases hp:m.isPrefixOf l with
 |false=>rfl
 |true=> have hl:=(Lg.1 hp).length_le;simp only[Da,Gx,Xb];rw[zl (Ha (by omega))];rfl
theorem XL{a b:Str}(h1:a.length<=big)(h2:b.length<=big):Us (a,b)=some (lowS a==lowS b):=by unfold Us;simp only[GU h1,GU h2,ze,Aa]
theorem PK{a b:Str}(h1:a.length<=big)(h2:b.length<=big):Qb (a,b)=some (lowS a==lowS b):=by unfold Qb;simp only[PR h1,PR h2,ze,Aa]
def si(n:Nat):Bool:=
 !(n==0||n==9||n==10||n==12||n==13||n==32||n==34||n==39||n==40||n==41||n==44||n==58||n==59||n==91||n==93||n==95||n==123||n==125)&&
  (decide (n<128)&& !((decide (48<=n)&&decide (n<=57))||(decide (65<=n)&&decide (n<=90))||(decide (97<=n)&&decide (n<=122))))
def jD:Prop:= ∀b:UInt8,Qx (b.toNat:Int)=some (si b.toNat)
def digN(n:Nat):Bool:=decide (48<=n)&&decide (n<=57)
theorem zuo: ∀n:Nat,n<256->zD (n:Int)=some (digN n):=by decide+kernel
theorem TR(b:UInt8):zD (b.toNat:Int)=some (digN b.toNat):=(zuo _ (Ob b))
theorem zrA: ∀n:Nat,n<256->qR (n:Int)=some (digN n):=by decide+kernel
theorem rV(b:UInt8):qR (b.toNat:Int)=some (digN b.toNat):=(zrA _ (Ob b))
def namN(n:Nat):Bool:=digN n||(decide (65<=n)&&decide (n<=90))||(decide (97<=n)&&decide (n<=122))||n==95||n==45||decide (128<=n)
theorem zrC: ∀n:Nat,n<256->Gp (n:Int)=some (namN n):=by decide+kernel
theorem pV(b:UInt8):Gp (b.toNat:Int)=some (namN b.toNat):=(zrC _ (Ob b))
def ek:Str->Bool
 |[]=>false
 |b::r=>digN b.toNat||(b==45&&(r==[]||digN (r.headD 0).toNat))
theorem QA(b c:UInt8):((b.toNat:Int)==(c.toNat:Int))=(b==c):=by
 by_cases h:b=c
 ·subst h;simp
 ·have h2:b.toNat≠c.toNat:=fun e=>h (Vf.1 e);rw[Ia.2 h,Ia.2 (by omega)]
theorem zDn(b:UInt8):((b.toNat:Int)==45)=(b==45):=QA b 45
theorem zqi(l:Str):jA l=some (ek l):=by
 unfold jA;cases l with
 |nil=>rfl
 |cons b r=>
  have h0:geti (b::r) 0=some b:=rfl;have hn:(b::r==([]:Str))=false:=rfl;simp only[hn,Ca,h0,ze,Aa,TR,Q5,zDn];cases r with
  |nil=>
   have e:(([b]:Str)==[45])=(b==45):=by show((b==45)&&true)=_;rw[Oc]
   simp only[e];unfold ek;cases hb:(b==45)with
   |false=>cases h2:digN b.toNat<;>simp[hb,zw,h2]
   |true=>cases h2:digN b.toNat<;>simp[hb,zw,h2]
  |cons d r=>
   have h1:geti (b::d::r) 1=some d:=rfl;have e:((b::d::r:Str)==[45])=false:=by show((b==45)&&false)=_;rw[Pe]
   simp only[h1,e,Q5,Aa,TR,ek,List.headD_cons];cases hb:(b==45)<;>cases h2:digN b.toNat<;>simp[hb]
def numS:Str->Bool
 |[]=>false
 |b::r=>bif b==45 then !(r==[])&&digN (r.headD 0).toNat else digN b.toNat
theorem OX(l:Str):Ms l=some (numS l):=by
 unfold Ms;simp only[zqK,ze,Aa];have key: ∀m:Str,((zw (!(m==[])) (geti m 0) 0).bind fun y2=>(zw (!(m==[])) (qR (y2.toNat:Int)) (default:Bool)).bind fun y3=>some (bif !(m==[])then y3 else false))=some (!(m==[])&&digN (m.headD 0).toNat):=by
  intro m;cases m with
  |nil=>rfl
  |cons b r=> have h0:geti (b::r) 0=some b:=rfl;have hn:(b::r==([]:Str))=false:=rfl;simp only[hn,Lb,zH,h0,Aa,rV,Da,List.headD_cons,Xb]
 rw[key];cases l with
 |nil=>rfl
 |cons b r=>
  have e:List.isPrefixOf [45] (b::r)=(b==45):=by
   show((45==b)&&true)=_;rw[Oc];cases hb:(b==45)with
   |true=>rw[Jb]at hb;subst hb;rfl
   |false=>rw[Ia]at hb;exact Ia.2 (Ne.symm hb)
  rw[e];show _=some (bif b==45 then !(r==[])&&digN (r.headD 0).toNat else digN b.toNat);cases b==45<;>rfl
theorem zBF(l:Str):((numS l&& !(List.isPrefixOf [45,45] l))||l==[45])=ek l:=by
 cases l with
 |nil=>rfl
 |cons b r=>
  cases hb:(b==45)with
  |false=>
   have e1:List.isPrefixOf [45,45] (b::r)=false:=by show((45==b)&&_)=_;rw[Ia]at hb;rw[Ia.2 (Ne.symm hb)];rfl
   have e2:((b::r:Str)==[45])=false:=by show((b==45)&&_)=_;rw[hb];rfl
   rw[e1,e2];unfold numS ek;simp[hb]
  |true=>
   rw[Jb]at hb;subst hb;cases r with
   |nil=>rfl
   |cons d r=>
    have e2:((45::d::r:Str)==[45])=false:=rfl;rw[e2];unfold numS ek;have e1:List.isPrefixOf [45,45] (45::d::r)=(45==d):=by show((45==(45:UInt8))&&((45==d)&&true))=_;rw[Oc];rfl
    rw[e1];simp only[List.headD_cons];have hd:digN 45=false:=by decide
    cases h:(45==d)with
    |false=>simp[hd]
    |true=>rw[Jb]at h;subst h;rfl
def delS(l:Str):Bool:=match l with
 |[b]=>si b.toNat
 |_=>false
def rngS(x:zb):Bool:=decide (-1000000000000<=x.num)&&(decide (x.num<=1000000000000)&&(!x.flag||Int.tmod x.num 1000==0))
def ig(x:zb):Bool:=
 bif x.kind==1||x.kind==2||x.kind==3 then !(x.text==[])&&(Zz x.text&&(x.num==0&&(x.unit==[]&& !x.flag)))
 else bif x.kind==4 then !(x.text==[])&&(Zz x.text&&((x.flag||ek x.text)&&(x.num==0&&x.unit==[])))
 else bif x.kind==5||x.kind==7 then Zz x.text&&(x.num==0&&(x.unit==[]&& !x.flag))
 else bif x.kind==9 then delS x.text&&(x.num==0&&(x.unit==[]&& !x.flag))
 else bif x.kind==10||x.kind==11||x.kind==12 then rngS x&&((!(x.unit==[])==(x.kind==12))&&(Zz x.unit&&((!(x.kind==11)|| !x.flag)&&x.text==[])))
 else(decide (13<=x.kind)&&decide (x.kind<=24))&&(x.text==[]&&(x.num==0&&(x.unit==[]&& !x.flag)))
theorem JW{l:Str}(h:l.length<=big):Jp l=some (Zz l):=by
 unfold Jp;refine(OU l (fun b=>bif (!(b==0))then none else some false) () (fun i hi=> ?_) ?_).trans ?_
 ·simp only[Xi hi,Da,qA hi,ze,Aa,byte_zero,qj hi h];cases l[i]==0<;>rfl
 ·simp only[Nj,Ca]
 ·rw[WJ];show _=some (Zz l);unfold Zz;cases l.all (fun b=> !(b==0))<;>rfl
theorem one_byte(l:Str)(p:Nat->Bool)(d:Bool)(f:Int->Option Bool)(hf: ∀b:UInt8,f (b.toNat:Int)=some (p b.toNat))(g:Bool):
  ((zw (g&&(l.length:Int)==1) (geti l 0) (0:UInt8)).bind fun y=>zw (g&&(l.length:Int)==1) (f (y.toNat:Int)) d)=some (bif g&&(l.length:Int)==1 then(match l with|[b]=>p b.toNat|_=>false)else d):=by
 cases g with
 |false=>rfl
 |true=>
  cases l with
  |nil=>rfl
  |cons b r=>
   cases r with
   |nil=> show((geti [b] 0).bind fun y=>f (y.toNat:Int))=some (p b.toNat);rw[show geti [b] 0=some b from rfl];exact hf b
   |cons c r=> have:(((b::c::r).length:Int)==1)=false:=Ia.2 (by simp only[Fa];omega);rw[this];rfl
theorem O8(hD:jD)(l:Str)(g:Bool):((zw (g&&(l.length:Int)==1) (geti l 0) (0:UInt8)).bind fun y=>zw (g&&(l.length:Int)==1) (Qx (y.toNat:Int)) (default:Bool))=some (bif g&&(l.length:Int)==1 then delS l else default):=
 one_byte l si default Qx hD g
theorem zAV(l:Str):(((l.length:Int)==1)&&delS l)=delS l:=by
 cases l with
 |nil=>rfl
 |cons b r=>
  cases r with
  |nil=>rfl
  |cons c r=> have:(((b::c::r).length:Int)==1)=false:=Ia.2 (by simp only[Fa];omega);rw[this];rfl
theorem zqj(hD:jD){x:zb}(h1:x.text.length<=big)(h2:x.unit.length<=big):iA x=some (ig x):=by
 have hd:=O8 hD x.text true;simp only[Xb]at hd;have hd':((zw ((x.text.length:Int)==1) (geti x.text 0) (0:UInt8)).bind fun y7=>(zw ((x.text.length:Int)==1) (Qx (y7.toNat:Int)) (default:Bool)).bind fun y8=>some (bif bif (x.text.length:Int)==1 then y8 else false then x.kind==x.kind&&(([]:Str)==[]&&(x.num==0&&(x.unit==[]&&(x.flag==false&&true))))else false))=some (delS x.text&&(x.num==0&&(x.unit==[]&& !x.flag))):=by
  have e: ∀(k:Bool->Option Bool),((zw ((x.text.length:Int)==1) (geti x.text 0) (0:UInt8)).bind fun y7=>(zw ((x.text.length:Int)==1) (Qx (y7.toNat:Int)) (default:Bool)).bind k)=(((zw ((x.text.length:Int)==1) (geti x.text 0) (0:UInt8)).bind fun y=>zw ((x.text.length:Int)==1) (Qx (y.toNat:Int)) (default:Bool))).bind k:=by intro k;rw[Option.bind_assoc]
  rw[e,hd,Aa,<-zAV x.text];simp only[af];cases (x.text.length:Int)==1<;>cases delS x.text<;>cases x.flag<;>rfl
 unfold iA;simp only[ze,JW h1,JW h2,zqi,Q5,Aa,ge_iff_le];unfold ig rngS;by_cases k9:x.kind=9
 ·simp only[k9,Int.reduceBEq,Da,Ca,zh,Nf,Od]at hd' ⊢;exact hd'
 clear hd hd';have b9:=Ia.2 k9;generalize delS x.text=a0;generalize Zz x.text=a1;generalize Zz x.unit=a2;generalize ek x.text=a3;generalize hc1:(x.text==[])=a4;generalize hc2:(x.unit==[])=a5;generalize hc3:(x.num==0)=a6;generalize hc4:x.flag=a7;generalize decide (-1000000000000<=x.num)=a8;generalize decide (x.num<=1000000000000)=a9;generalize (Int.tmod x.num 1000==0)=a10;by_cases k1:x.kind=1
 ·simp only[k1,zh,Da,Ca,hc1,hc2,hc3,hc4,Int.reduceBEq];cases a1<;>cases a4<;>cases a5<;>cases a6<;>cases a7<;>rfl
 by_cases k2:x.kind=2
 ·simp only[k2,zh,Da,Ca,hc1,hc2,hc3,hc4,Int.reduceBEq];cases a1<;>cases a4<;>cases a5<;>cases a6<;>cases a7<;>rfl
 by_cases k3:x.kind=3
 ·simp only[k3,zh,Da,Ca,hc1,hc2,hc3,hc4,Int.reduceBEq];cases a1<;>cases a4<;>cases a5<;>cases a6<;>cases a7<;>rfl
 by_cases k4:x.kind=4
 ·simp only[k4,zh,Da,Ca,hc1,hc2,hc3,hc4,Int.reduceBEq];cases a1<;>cases a3<;>cases a4<;>cases a5<;>cases a6<;>cases a7<;>rfl
 by_cases k5:x.kind=5
 ·simp only[k5,zh,Da,Ca,hc1,hc2,hc3,hc4,Int.reduceBEq];cases a1<;>cases a4<;>cases a5<;>cases a6<;>cases a7<;>rfl
 by_cases k7:x.kind=7
 ·simp only[k7,zh,Da,Ca,hc1,hc2,hc3,hc4,Int.reduceBEq];cases a1<;>cases a4<;>cases a5<;>cases a6<;>cases a7<;>rfl
 by_cases k10:x.kind=10
 ·simp only[k10,zh,Da,Ca,hc1,hc2,hc3,hc4,Int.reduceBEq];cases a2<;>cases a4<;>cases a5<;>cases a7<;>cases a8<;>cases a9<;>cases a10<;>rfl
 by_cases k11:x.kind=11
 ·simp only[k11,zh,Da,Ca,hc1,hc2,hc3,hc4,Int.reduceBEq];cases a2<;>cases a4<;>cases a5<;>cases a7<;>cases a8<;>cases a9<;>cases a10<;>rfl
 by_cases k12:x.kind=12
 ·simp only[k12,zh,Da,Ca,hc1,hc2,hc3,hc4,Int.reduceBEq];cases a2<;>cases a4<;>cases a5<;>cases a7<;>cases a8<;>cases a9<;>cases a10<;>rfl
 simp only[b9,Ia.2 k1,Ia.2 k2,Ia.2 k3,Ia.2 k4,Ia.2 k5,Ia.2 k7,Ia.2 k10,Ia.2 k11,Ia.2 k12,zh,Da,Ca,hc1,hc2,hc3,hc4,af,Bool.or_self];by_cases k6:x.kind=6
 ·simp only[k6,zh,Da,Ca,Int.reduceBEq];rfl
 by_cases k8:x.kind=8
 ·simp only[k8,zh,Da,Ca,Int.reduceBEq];rfl
 simp only[Ia.2 k6,Ia.2 k8,zh,Da,Ca];have e:(decide (1<=x.kind)&&decide (x.kind<=24))=(decide (13<=x.kind)&&decide (x.kind<=24)):=by
  by_cases hh:13<=x.kind
  ·rw[Ha hh,Ha (by omega)]
  ·rw[Xa hh];by_cases h1:1<=x.kind
   ·omega
   ·rw[Xa h1]
 rw[<-e];cases decide (1<=x.kind)<;>cases decide (x.kind<=24)<;>cases a4<;>cases a5<;>cases a6<;>cases a7<;>rfl
abbrev Nu:Str:=[32,9,10,12,13,34,39,58,59,44,91,93,40,41,123,125]
theorem VF: ∀(m:Str) (c:UInt8),Lib.index m [c]=Lib.indexByte m c
 |[],c=>rfl
 |b::l,c=>by
  have h:List.isPrefixOf [c] (b::l)=(b==c):=by
   show(c==b&&List.isPrefixOf [] l)=_;rw[List.isPrefixOf,Oc];by_cases e:b=c
   ·subst e;rfl
   ·rw[Ia.2 e,Ia.2 (fun h=>e h.symm)]
  rw[Lib.index,Lib.indexByte,h,VF l c]
theorem contains_one(m:Str)(c:UInt8)(hm:short m=true:=by decide):strings_Contains (m,[c])=some (m.any fun b=>b==c):=by unfold strings_Contains;simp only[Ym,hm,Zr,ze,Aa,VF,XI]
theorem znG(c:UInt8):strings_Contains ([32,9,10,12,13,34,39,58,59,44,91,93,40,41,123,125],[c])=some (Nu.any fun b=>b==c):=contains_one Nu c
theorem P8: ∀n:Nat,n<256->((bif bif !(UInt8.ofNat n==0)then !namN n else false then true else UInt8.ofNat n==45)&&(!(Nu.any fun b=>b==UInt8.ofNat n)))=si n:=by decide+kernel
theorem zAW(b:UInt8):((bif bif !(b==0)then !namN b.toNat else false then true else b==45)&&(!(Nu.any fun c=>c==b)))=si b.toNat:=by
 have:=P8 b.toNat (Ob b)
 rwa [Mc]at this
theorem zsb(a b:Str):Zz (a++b)=(Zz a&&Zz b):=by unfold Zz;rw[Ig]
theorem zD7(n:Int):decide (n<0)= !decide (n>=0):=by
 by_cases h:n<0
 ·rw[Ha h,Xa (by omega)];rfl
 ·rw[Xa h,Ha (by omega)];rfl
theorem Ky: ∀(l:Str) (n:Nat),valG n l=n*10 ^ l.length+valG 0 l
 |[],n=>by simp[valG]
 |c::l,n=>by show valG (decN n c) l=n*10 ^ (l.length+1)+valG (decN 0 c) l;rw[Ky l (decN n c),Ky l (decN 0 c),oh];unfold decN;rw[Ee,Nat.mul_zero,Xd,Ng 10 n,Pg,Ng 10 (10 ^ l.length)];omega
theorem zAl(l:Str)(i:Nat):valG 0 (l.take i)<=valG 0 l:=by
 have h:valG 0 l=valG (valG 0 (l.take i)) (l.drop i):=by rw[<-kE,Tf]
 rw[h,Ky (l.drop i)];have:=Xe (valG 0 (l.take i)) (Yg (n:=(l.drop i).length) (show 0<10 by omega));omega
theorem Ur{b:UInt8}(h:digB b=true):48<=b.toNat/\b.toNat<=57:=by unfold digB at h;simpa using h
theorem zCf {R:Type} {step:Int×Int->Option (LO (Int×Int) Int R)} {l:Str} (hl:l.all digB=true) (hn:l.length<=100000) (hv:valG 0 l<=1000000000000)
  (h1: ∀(v:Int) (i:Nat) (hi:i<l.length),step (v,(i:Int))=some (.again (if 1000000000000<w64 (w64 (10*v)+w64 (wu8 ((l[i].toNat:Int) - 48)))then 1000000000000 else w64 (w64 (10*v)+w64 (wu8 ((l[i].toNat:Int) - 48))),w64 ((i:Int)+1))))
  (h2: ∀v:Int,step (v,(l.length:Int))=some (.out v)):bg step (0,0)=some (.out ((valG 0 l:Nat):Int)):=by
 refine ZM (fun s=> ∃i:Nat,i<=l.length/\s=(((valG 0 (l.take i):Nat):Int),(i:Int))) (fun s=>l.length - s.2.toNat) _ ?_ ⟨0,by omega,rfl⟩;rintro _ ⟨i,hi,rfl⟩;rcases Tc i l.length with h|h
 ·refine .inl ⟨_,h1 _ i h,⟨i+1,by omega,?_⟩,by simp only;rw[zJ (by omega) (by omega)];omega⟩;have hd:=Ur (ma.1 hl _ (De h));have ht:valG 0 (l.take (i+1))=decN (valG 0 (l.take i)) l[i]:=by rw[mf h,kE];rfl
  have hb:=zAl l (i+1);have hu:wu8 ((l[i].toNat:Int) - 48)=((l[i].toNat - 48:Nat):Int):=by show IntKind.u8.wrap _=_;rw[IntKind.wrap_u8];omega
  unfold decN at ht;rw[hu,zJ (n:=10*_) (by omega) (by omega),zJ (n:=((l[i].toNat - 48:Nat):Int)) (by omega) (by omega),zJ (n:=(i:Int)+1) (by omega) (by omega),zJ (by omega) (by omega),Ja (by omega)];refine Prod.ext ?_ ?_
  ·show(10*((valG 0 (l.take i):Nat):Int)+((l[i].toNat - 48:Nat):Int))=_;omega
  ·show(i:Int)+1=((i+1:Nat):Int);omega
 ·have:i=l.length:=by omega
  subst this;refine .inr (.inl ⟨_,h2 _,?_⟩);rw[Ef]
theorem U6 {R:Type} {step:Int×Int->Option (LO (Int×Int) Int R)} {v p:Nat} (hp:p<=100) (hv:v*10 ^ p<=1000000000000)
  (h: ∀(a b:Int),step (a,b)=bif bif bif decide (a>0)then decide (b>0)else false then decide (b<1000000000000)else false then some (.again (w64 (a - 1),if 1000000000000<w64 (10*b)then 1000000000000 else w64 (10*b)))else some (.out b)):
  bg step ((p:Int),(v:Int))=some (.out ((v*10 ^ p:Nat):Int)):=by
 refine ZM (fun s=> ∃a b:Nat,s=((a:Int),(b:Int))/\a<=100/\b*10 ^ a=v*10 ^ p) (fun s=>s.1.toNat) _ ?_ ⟨p,v,rfl,hp,rfl⟩;rintro _ ⟨a,b,rfl,ha,he⟩;rw[h];cases a with
 |zero=> refine .inr (.inl ⟨(b:Int),rfl,?_⟩);rw[<-he,Nat.pow_zero,Mh]
 |succ a=>
  rw[Ha (show((a+1:Nat):Int)>0 by omega),Da];rw[oh,<-Pg]at he;have hpos:0<10 ^ a:=Yg (by omega);cases Xg b with
  |inl h0=> subst h0;refine .inr (.inl ⟨0,rfl,?_⟩);rw[<-he];simp
  |inr h0=>
   rw[Ha (show((b:Nat):Int)>0 by omega),Da];have hle:b<=b*10 ^ a:=Xe b hpos;rw[Ha (show((b:Nat):Int)<1000000000000 by omega),Da];refine .inl ⟨_,rfl,⟨a,10*b,?_,by omega,?_⟩,by simp only;rw[zJ (by omega) (by omega)];omega⟩
   ·rw[zJ (by omega) (by omega),zJ (by omega) (by omega),Ja (by omega)];refine Prod.ext ?_ ?_
    ·show((a+1:Nat):Int) - 1=(a:Int);omega
    ·show 10*(b:Int)=((10*b:Nat):Int);omega
   ·rw[<-he,Ng 10 b,Pg,Pg,Ng 10 (10 ^ a)]
theorem YI: ∀(q:Str),q.all digB=true->Lib.indexByte q 46= -1
 |[],_=>rfl
 |c::q,h=>by
  rw[Sd,Ga]at h;have hd:=Ur h.1;have hc:(c==46)=false:=by refine Ia.2 (fun e=> ?_);subst e;revert hd;decide
  rw[Lib.indexByte,hc,YI q h.2];rfl
theorem aI: ∀(q g:Str),q.all digB=true->Lib.indexByte (q++46::g) 46=(q.length:Int)
 |[],g,_=>by rw[Nc,Lib.indexByte];rfl
 |c::q,g,h=>by
  rw[Sd,Ga]at h;have hd:=Ur h.1;have hc:(c==46)=false:=by refine Ia.2 (fun e=> ?_);subst e;revert hd;decide
  rw[Db,Lib.indexByte,hc,aI q g h.2];have:((q.length:Int)== -1)=false:=Ia.2 (by omega);rw[this,Fa];simp
theorem SI: ∀(l:Str),(l.all fun b=>digB b||b==46)=true->Lib.indexAny l [101,69]= -1
 |[],_=>rfl
 |c::l,h=>by
  rw[Sd,Ga]at h;have hc:List.contains [101,69] c=false:=by
   have: ∀n:Nat,n<256->(digB (UInt8.ofNat n)||UInt8.ofNat n==46)=true->List.contains [101,69] (UInt8.ofNat n)=false:=by decide+kernel
   have:=this c.toNat (Ob c);rw[Mc]at this;exact this h.1
  rw[Lib.indexAny,hc,SI l h.2];rfl
end Go.Lv.VT
