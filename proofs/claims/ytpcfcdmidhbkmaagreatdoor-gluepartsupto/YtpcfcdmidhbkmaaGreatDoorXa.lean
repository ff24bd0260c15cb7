/- The reading of tokens: what the program's text and the reference's come to. -/
import Derived.Test.YtpcfcdmidhbkmaaGreatDoorTy
import Derived.Test.YtpcfcdmidhbkmaaGreatDoorMo
import Derived.Test.YtpcfcdmidhbkmaaGreatDoorTx
set_option linter.unusedSimpArgs false
set_option linter.unusedVariables false
namespace Go.Lv.VT
def atS(l:Str)(n:Nat):UInt8:=l.getD n 0
def digB(b:UInt8):Bool:=decide (48<=b.toNat)&&decide (b.toNat<=57)
def spB(b:UInt8):Bool:=b==10||b==9||b==32
def alB(b:UInt8):Bool:=decide (65<=b.toNat)&&decide (b.toNat<=90)||decide (97<=b.toNat)&&decide (b.toNat<=122)
def fstB(b:UInt8):Bool:=alB b||b==95||decide (128<=b.toNat)
def letB(b:UInt8):Bool:=fstB b||digB b||b==45
def hexN(b:UInt8):Nat:=
 if digB b then b.toNat - 48 else if 97<=b.toNat/\b.toNat<=102 then b.toNat - 87 else if 65<=b.toNat/\b.toNat<=70 then b.toNat - 55 else 16
def qy(b:UInt8):Bool:=decide (hexN b<16)
def escS(l:Str):Bool:=atS l 0==92&& !(atS l 1==10)
def nmS(l:Str):Bool:=if atS l 0==45 then fstB (atS l 1)||atS l 1==45||escS (l.drop 1)else fstB (atS l 0)||escS l
def Qo(b:UInt8):Bool:=b==43||b==45
def unsign(l:Str):Str:=if Qo (atS l 0)then l.drop 1 else l
def undot(l:Str):Str:=if atS l 0==46 then l.drop 1 else l
def nbS(l:Str):Bool:=digB (atS (undot (unsign l)) 0)
def Ak:Str:=[239,191,189]
def Hg(n:Nat):Str:=
 if n=0\/(55296<=n/\n<=57343)\/1114111<n then Ak
 else if n<128 then [UInt8.ofNat n]
 else if n<2048 then [UInt8.ofNat (192+n / 64),UInt8.ofNat (128+n%64)]
 else if n<65536 then [UInt8.ofNat (224+n / 4096),UInt8.ofNat (128+n / 64%64),UInt8.ofNat (128+n%64)]
 else [UInt8.ofNat (240+n / 262144),UInt8.ofNat (128+n / 4096%64),UInt8.ofNat (128+n / 64%64),UInt8.ofNat (128+n%64)]
def hexes:Nat->Nat->Str->Nat×Str
 |0,n,l=>(n,l)
 |_+1,n,[]=>(n,[])
 |k+1,n,c::r=>if qy c then hexes k (16*n+hexN c) r else(n,c::r)
def unsp:Str->Str
 |[]=>[]
 |c::r=>if spB c then r else c::r
def zm:Str->Str×Str
 |[]=>(Ak,[])
 |c::r=>if qy c then(Hg (hexes 6 0 (c::r)).1,unsp (hexes 6 0 (c::r)).2)else([c],r)
theorem Bz: ∀(k n:Nat) (l:Str),(hexes k n l).2<:+l
 |0,n,l=>Re l
 |k+1,n,[]=>Re _
 |k+1,n,c::r=>by
  unfold hexes;split
  ·exact(Bz k _ r).trans (Ed c r)
  grind
theorem BU(l:Str):unsp l<:+l:=by
 cases l with
 |nil=>exact Re _
 |cons c r=>
  show(if spB c then r else c::r)<:+c::r
  grind
theorem ZF(l:Str):(zm l).2<:+l:=by
 cases l with
 |nil=>exact Re _
 |cons c r=>
  show(if qy c then(Hg (hexes 6 0 (c::r)).1,unsp (hexes 6 0 (c::r)).2)else([c],r)).2<:+c::r;split
  ·exact(BU _).trans (Bz 6 0 _)
  grind
theorem zP(l:Str):(zm l).2.length<=l.length:=(ZF l).length_le
def zg:Str->Str×Str
 |[]=>([],[])
 |c::r=>
  if letB c then((c::(zg r).1),(zg r).2)
  else if escS (c::r)then((zm r).1++(zg (zm r).2).1,(zg (zm r).2).2)
  else([],c::r)
termination_by l=>l.length
decreasing_by
 all_goals first|(have:=zP r;simp only[Ka];omega)|(simp only[Ka];omega)
def past(p:UInt8->Bool):Str->Str
 |[]=>[]
 |c::r=>if p c then past p r else c::r
theorem qB(p:UInt8->Bool): ∀l:Str,past p l<:+l
 |[]=>Re _
 |c::r=>by
  unfold past;split
  ·exact(qB p r).trans (Ed c r)
  grind
def zx(l:Str):Str×Bool:=
 if atS l 0==46&&digB (atS l 1)then(past digB (l.drop 1),false)else(l,true)
def expS(l:Str):Option Str:=
 if atS l 0==101||atS l 0==69 then(if digB (atS (unsign (l.drop 1)) 0)then some (past digB (unsign (l.drop 1)))else none)else none
def zo(l:Str):Str×Bool:=
 let x:=zx (past digB (unsign l))
 match expS x.1 with
 |some r=>(r,false)
 |none=>x
def decN(n:Nat)(b:UInt8):Nat:=10*n+(b.toNat - 48)
def upto(l r:Str):Str:=l.take (l.length - r.length)
def zK(m:UInt8):Str->Option Str×Str
 |[]=>(some [],[])
 |c::r=>
  if c==m then(some [],r)
  else if c==10 then(none,c::r)
  else if c==92 then
   (if r.isEmpty then(some [],[])
   else if atS r 0==10 then zK m (r.drop 1)
   else((zK m (zm r).2).1.map ((zm r).1++ ·),(zK m (zm r).2).2))
  else((zK m r).1.map (c:: ·),(zK m r).2)
termination_by l=>l.length
decreasing_by
 all_goals first|(have:=zP r;simp only[Ka];omega)|(simp only[Ka,ja];omega)
def badS:Str->Str
 |[]=>[]
 |c::r=>if c==41 then r else if escS (c::r)then badS (zm r).2 else badS r
termination_by l=>l.length
decreasing_by
 all_goals first|(have:=zP r;simp only[Ka];omega)|(simp only[Ka];omega)
def unB(b:UInt8):Bool:=decide (b.toNat<=8)||b==11||decide (14<=b.toNat)&&decide (b.toNat<=31)||b==127
def urlS:Str->Option Str×Str
 |[]=>(some [],[])
 |c::r=>
  if c==41 then(some [],r)
  else if spB c then(match past spB r with
   |[]=>(some [],[])
   |d::a=>if d==41 then(some [],a)else(none,badS (d::a)))
  else if c==34||c==39||c==40||unB c||c==92&& !escS (c::r)then(none,badS (c::r))
  else if c==92 then((urlS (zm r).2).1.map ((zm r).1++ ·),(urlS (zm r).2).2)
  else((urlS r).1.map (c:: ·),(urlS r).2)
termination_by l=>l.length
decreasing_by
 all_goals first|(have:=zP r;simp only[Ka];omega)|(simp only[Ka];omega)
def Nf(b:UInt8):Int:=
 if b==58 then 16 else if b==59 then 17 else if b==44 then 18 else if b==91 then 19 else if b==93 then 20 else if b==40 then 21 else if b==41 then 22 else if b==123 then 23 else if b==125 then 24 else 0
def Fg(k:Int):zb:=⟨k,[],0,[],false⟩
def ag:Nat:=1000000000000
def QN:Nat->Nat->Nat
 |0,n=>n
 |k+1,n=>if n=0\/ag<=n then n else QN k (min ag (10*n))
set_option maxRecDepth 100000
abbrev sc(s:Str)(k:Nat):za:=⟨s,(k:Int)⟩
def pk(l:Str)(n:Nat):Int:=match l[n]? with|some b=>(b.toNat:Int)|none=> -1
def beh(s r:Str):Nat:=s.length - r.length
theorem zZ{n:Int}(a: -9223372036854775808<=n)(h2:n<=9223372036854775807):w64 n=n:=Sz a h2
theorem Pp{s r:Str}(h:r<:+s):s.drop (beh s r)=r:=by obtain⟨t,rfl⟩:=h;unfold beh;simp_all
theorem Oj(s r:Str):beh s r<=s.length:=by unfold beh;omega
theorem fU{s:Str}{k:Nat}(h:k<=s.length):beh s (s.drop k)=k:=by unfold beh;grind
theorem iw{s:Str}{k n:Nat}(c:s.length<=big)(g:k<=s.length)(f:n<=8):zf ((n:Int),sc s k)=some (pk (s.drop k) n):=by
 have d:big=4194304:=rfl;have e:w64 ((k:Int)+(n:Int))=((k+n:Nat):Int):=by rw[zZ (by omega) (by omega)];omega
 unfold zf pk;simp only[e];rw[Md];by_cases h:k+n<s.length
 ·rw[La (by omega),Ha];have b:geti s ((k+n:Nat):Int)=some s[k+n]:=lh h;have a:=ma s[k+n];simp only[ze,b,Aa,Ua h];rw[zZ (by omega) (by omega)]
 ·grind
theorem iq{s:Str}{k:Nat}(b:s.length<=big)(a:k<=s.length):zf (0,sc s k)=some (pk (s.drop k) 0):=iw (n:=0) b a (by omega)
theorem SB{s:Str}{k:Nat}(b:s.length<=big)(a:k<=s.length):zf (1,sc s k)=some (pk (s.drop k) 1):=iw (n:=1) b a (by omega)
theorem zBe{s:Str}{k:Nat}(b:s.length<=big)(a:k<=s.length):zf (2,sc s k)=some (pk (s.drop k) 2):=iw (n:=2) b a (by omega)
theorem Ar{a:Type}{f:Int->Option a}{p:UInt8->a}(h: ∀b:UInt8,f (b.toNat:Int)=some (p b))(c:f (-1)=some (p 0))(l:Str)(n:Nat):f (pk l n)=some (p (atS l n)):=by
 unfold pk atS
 grind
theorem of_n{a:Type}{f:Int->Option a}{p:UInt8->a}(h: ∀n:Nat,n<256->f (n:Int)=some (p (UInt8.ofNat n)))(b:UInt8):f (b.toNat:Int)=some (p b):=by have:=h b.toNat (ma b);simp_all
theorem Gt(l:Str)(n:Nat):ZZ (pk l n)=some (spB (atS l n)):=Ar (of_n (by decide+kernel)) (by decide+kernel) l n
theorem ik(l:Str)(n:Nat):ZI (pk l n)=some (digB (atS l n)):=Ar (of_n (by decide+kernel)) (by decide+kernel) l n
theorem mP(l:Str)(n:Nat):uu (pk l n)=some (fstB (atS l n)):=Ar (of_n (by decide+kernel)) (by decide+kernel) l n
theorem nK(l:Str)(n:Nat):Tq (pk l n)=some (letB (atS l n)):=Ar (of_n (by decide+kernel)) (by decide+kernel) l n
def hexI(b:UInt8):Int:=if qy b then(hexN b:Int)else -1
theorem Fv(l:Str)(n:Nat):Q4 (pk l n)=some (hexI (atS l n)):=Ar (of_n (by decide+kernel)) (by decide+kernel) l n
theorem Dh(l:Str)(n:Nat)(c:UInt8)(h:c≠0):(pk l n==(c.toNat:Int))=(atS l n==c):=by
 unfold pk atS;rw[Yg];cases l[n]? with
 |none=>
  grind
 |some b=>
  show((b.toNat:Int)==(c.toNat:Int))=(b==c);by_cases e:b=c
  ·grind
  ·have:b.toNat≠c.toNat:=fun h=>e (Oe.1 h)
   grind
theorem OB(l:Str)(n:Nat):(pk l n==10)=(atS l n==10):=Dh l n 10 (by decide)
theorem VP(l:Str)(n:Nat):(pk l n==34)=(atS l n==34):=Dh l n 34 (by decide)
theorem zBf(l:Str)(n:Nat):(pk l n==35)=(atS l n==35):=Dh l n 35 (by decide)
theorem zBg(l:Str)(n:Nat):(pk l n==37)=(atS l n==37):=Dh l n 37 (by decide)
theorem TP(l:Str)(n:Nat):(pk l n==39)=(atS l n==39):=Dh l n 39 (by decide)
theorem zBh(l:Str)(n:Nat):(pk l n==40)=(atS l n==40):=Dh l n 40 (by decide)
theorem NB(l:Str)(n:Nat):(pk l n==41)=(atS l n==41):=Dh l n 41 (by decide)
theorem MB(l:Str)(n:Nat):(pk l n==43)=(atS l n==43):=Dh l n 43 (by decide)
theorem fq(l:Str)(n:Nat):(pk l n==45)=(atS l n==45):=Dh l n 45 (by decide)
theorem LB(l:Str)(n:Nat):(pk l n==46)=(atS l n==46):=Dh l n 46 (by decide)
theorem zBi(l:Str)(n:Nat):(pk l n==64)=(atS l n==64):=Dh l n 64 (by decide)
theorem zBj(l:Str)(n:Nat):(pk l n==69)=(atS l n==69):=Dh l n 69 (by decide)
theorem RP(l:Str)(n:Nat):(pk l n==92)=(atS l n==92):=Dh l n 92 (by decide)
theorem zAz(l:Str)(n:Nat):(pk l n==101)=(atS l n==101):=Dh l n 101 (by decide)
theorem ul(l:Str):(pk l 0== -1)=l.isEmpty:=by
 cases l with
 |nil=>rfl
 |cons b r=>
  show((b.toNat:Int)== -1)=false
  grind
theorem qV(l:Str)(k n:Nat):atS (l.drop k) n=atS l (k+n):=by
 unfold atS
 grind
theorem TK {R:Type} {step:za->Option (LO za za R)} {s:Str} (p:UInt8->Bool) (h0:p 0=false)
  (h: ∀k,k<=s.length->step (sc s k)=some (bif p (atS (s.drop k) 0)then .again (sc s (k+1))else .out (sc s k))) {k:Nat} (hk:k<=s.length):
  Ng step (sc s k)=some (.out (sc s (beh s (past p (s.drop k))))):=by
 refine qO (fun z=> ∃j,z=sc s j/\j<=s.length/\past p (s.drop j)=past p (s.drop k)) (fun z=>s.length - z.at_.toNat) _ ?_ ⟨k,rfl,hk,rfl⟩;rintro _ ⟨j,rfl,hj,he⟩;rw[h j hj];cases hd:s.drop j with
 |nil=>
  rw[show atS ([]:Str) 0=0 from rfl,h0,Ja];refine .inr (.inl ⟨_,rfl,?_⟩);rw[<-he,hd];have:j=s.length:=by have:=Ce.1 hd;omega
  subst this;show LX.out (sc s (beh s []))=_;unfold beh;rw[Gc,Nat.sub_zero]
 |cons c r=>
  have hlt:j<s.length:=by
   rcases ic j s.length with h'|h'
   ·exact h'
   ·grind
  have hr:s.drop (j+1)=r:=by have:=Eb hlt;rw[hd]at this;injection this with _ h2;exact h2.symm
  rw[show atS (c::r) 0=c from rfl];cases hp:p c with
  |true=> refine .inl ⟨_,rfl,⟨j+1,rfl,by omega,?_⟩,by grind⟩;rw[hr,<-he,hd,past,hp];rfl
  |false=> refine .inr (.inl ⟨_,rfl,?_⟩);rw[<-he,hd,past,hp,Fa (by decide),<-hd,fU hj]
theorem iI{s:Str}{k:Nat}(b:s.length<=big)(a:k<=s.length):w64 ((k:Int)+1)=((k+1:Nat):Int):=by have c:big=4194304:=rfl;rw[zZ (by omega) (by omega)];omega
theorem tT{s:Str}{k:Nat}(a:s.length<=big)(c:k<=s.length):zY (sc s k)=some (sc s (beh s (past spB (s.drop k)))):=by
 unfold zY;rw[qP (TK spB rfl (fun j b=> ?_) c)];simp only[ze,iq a b,Aa,Gt,iI a b]
 grind
theorem yV{s:Str}{k:Nat}(a:s.length<=big)(c:k<=s.length):zO (sc s k)=some (sc s (beh s (past digB (s.drop k)))):=by
 unfold zO;rw[qP (TK digB rfl (fun j b=> ?_) c)];simp only[ze,iq a b,Aa,ik,iI a b]
 grind
theorem number_eq{s:Str}{k:Nat}(a:s.length<=big)(c:k<=s.length):Zo (sc s k)=some (nbS (s.drop k)):=by
 unfold Zo nbS unsign undot Qo;simp only[ze,iq a c,Aa,MB,fq];have d: ∀(b:Bool),(zN (X:=Int) (bif b then some (LX.out 1)else some (LX.out 0)) fun e=>
   zN (X:=Int) ((zf (e,sc s k)).bind fun f=>bif f==46 then some (LX.out (w64 (e+1)))else some (LX.out e)) fun g=>
   (zf (g,sc s k)).bind fun i=>(ZI i).bind fun j=>some j)=some (digB (atS (if atS (if b then(s.drop k).drop 1 else s.drop k) 0==46 then(if b then(s.drop k).drop 1 else s.drop k).drop 1 else(if b then(s.drop k).drop 1 else s.drop k)) 0)):=by
  intro b;cases b with
  |false=>
   simp only[Ja,zh,iq a c,Aa,LB,Bc,Fe];cases h:atS (s.drop k) 0==46 with
   |false=>simp only[Ja,zh,iq a c,Aa,ik,Bc,Fe]
   |true=> simp only[Ha,zh,Pd];rw[show w64 (0+1)=1 from rfl,SB a c];simp only[Aa,ik];rw[qV (s.drop k) 1 0]
  |true=>
   simp only[Ha,zh,SB a c,Aa,LB,Pd];rw[qV (s.drop k) 1 0];cases h:atS (s.drop k) (1+0)==46 with
   |false=> simp only[Nc]at h;simp only[h,Ja,zh,SB a c,Aa,ik,Bc,Fe];rw[qV (s.drop k) 1 0]
   |true=> simp only[Nc]at h;simp only[h,Ha,zh,Pd];rw[show w64 (1+1)=2 from rfl,zBe a c];simp only[Aa,ik];rw[Je,qV (s.drop k) (1+1) 0]
 have:=d (atS (s.drop k) 0==43||atS (s.drop k) 0==45)
 grind
abbrev sr(s r:Str):za:=sc s (beh s r)
theorem sr_0(s:Str):(⟨s,0⟩:za)=sr s s:=by show sc s 0=sc s (beh s s);unfold beh;rw[Nat.sub_self]
theorem Ml{s r:Str}{n:Nat}(b:s.length<=big)(c:r<:+s)(a:n<=8):zf ((n:Int),sr s r)=some (pk r n):=by rw[iw b (Oj s r) a,Pp c]
theorem Og{s r:Str}(a:s.length<=big)(b:r<:+s):zf (0,sr s r)=some (pk r 0):=Ml (n:=0) a b (by omega)
theorem Cs{s r:Str}(a:s.length<=big)(b:r<:+s):zf (1,sr s r)=some (pk r 1):=Ml (n:=1) a b (by omega)
theorem zAy{s r:Str}(a:s.length<=big)(b:r<:+s):zf (2,sr s r)=some (pk r 2):=Ml (n:=2) a b (by omega)
theorem Vv{s r:Str}(a:s.length<=big)(b:r<:+s):zY (sr s r)=some (sr s (past spB r)):=by rw[tT a (Oj s r),Pp b]
theorem Rw{s r:Str}(a:s.length<=big)(b:r<:+s):zO (sr s r)=some (sr s (past digB r)):=by rw[yV a (Oj s r),Pp b]
theorem MR{s r:Str}(a:s.length<=big)(b:r<:+s):Zo (sr s r)=some (nbS r):=by rw[number_eq a (Oj s r),Pp b]
theorem MJ{s r:Str}{n:Nat}(a:r<:+s)(b:n<=r.length):beh s r+n=beh s (r.drop n):=by
 have:=a.length_le;unfold beh
 grind
theorem Cv{s r:Str}{n:Nat}(c:s.length<=big)(a:r<:+s)(b:n<=r.length):(⟨s,w64 ((beh s r:Int)+(n:Int))⟩:za)=sr s (r.drop n):=by have d:big=4194304:=rfl;have:=Oj s r;have e:=a.length_le;rw[zZ (by omega) (by omega),show(beh s r:Int)+(n:Int)=((beh s r+n:Nat):Int) by omega,MJ a b]
theorem Vn{l:Str}{n:Nat}(h:atS l n≠0):n<l.length:=by
 rcases ic n l.length with a|a
 ·exact a
 ·exact absurd (by unfold atS;grind) h
theorem Dr{s r:Str}(a:s.length<=big)(b:r<:+s)(h:atS r 0≠0):(⟨s,w64 ((beh s r:Int)+1)⟩:za)=sr s (r.drop 1):=Cv (n:=1) a b (Vn h)
theorem Tj{s r:Str}(a:r<:+s)(n:Nat):r.drop n<:+s:=(He n r).trans a
theorem Rm{s r:Str}(p:UInt8->Bool)(a:r<:+s):past p r<:+s:=(qB p r).trans a
theorem GG{s r:Str}(a:r<:+s):unsign r<:+s:=by
 unfold unsign;split
 ·exact Tj a 1
 ·exact a
theorem gI{b:UInt8}(h:Qo b=true):b≠0:=by rintro rfl;revert h;decide
theorem AB(a b:Bool):(bif a then true else b)=(a||b):=by cases a<;>rfl
theorem xH(a b:Bool):(bif a then b else false)=(a&&b):=by cases a<;>rfl
theorem TL{s r:Str}(a:r<:+s):(zx r).1<:+s:=by
 unfold zx;split
 ·exact Rm _ (Tj a 1)
 ·exact a
theorem fJ{s r q:Str}(a:r<:+s)(h:expS r=some q):q<:+s:=by
 unfold expS at h;split at h
 ·split at h
  ·cases h;exact Rm _ (GG (Tj a 1))
  ·cases h
 ·cases h
theorem wX{s r:Str}(b:r<:+s):(zo r).1<:+s:=by
 unfold zo;have a:=TL (Rm digB (GG b));simp only;cases h:expS (zx (past digB (unsign r))).1 with
 |some q=>exact fJ a h
 |none=>exact a
theorem GV{s l:Str}(hs:s.length<=big)(hl:l<:+s):Zy (sr s l)=some ((zo l).2,sr s (zo l).1):=by
 unfold Zy;simp only[ze,Og hs hl,Aa,MB,fq,AB];have e1:(bif (atS l 0==43||atS l 0==45)then some (LX.out (⟨s,w64 ((beh s l:Int)+1)⟩:za))else some (LX.out (sr s l)))=(some (LX.out (sr s (unsign l))):Option (LX za (Bool×za))):=by
  unfold unsign;cases h:Qo (atS l 0)with
  |true=> have h':(atS l 0==43||atS l 0==45)=true:=h;rw[h',Ha,Ea rfl,Dr hs hl (gI h)]
  |false=>
   have h':(atS l 0==43||atS l 0==45)=false:=h
   grind
 rw[e1,zh];have hu:=GG hl;rw[Rw hs hu];simp only[Aa];have hp:=Rm digB hu;unfold zo;generalize past digB (unsign l)=q at hp ⊢;have e2:zN (X:=Bool×za) (R:=Bool×za) ((zf (0,sr s q)).bind fun y4=>
   (zu (y4==46) (zf (1,sr s q)) (default:Int)).bind fun y5=>
   (zu (y4==46) (ZI y5) (default:Bool)).bind fun y6=>
   bif bif y4==46 then y6 else false then(zO (⟨s,w64 ((beh s q:Int)+1)⟩:za)).bind fun y7=>some (LX.out (false,y7))else some (LX.out (true,sr s q)))=zN (some (LX.out ((zx q).2,sr s (zx q).1))):=by
  congr 1;unfold zx;simp only[Og hs hp,Cs hs hp,Aa,LB];cases h:atS q 0==46 with
  |false=>simp_all
  |true=>
   simp only[zU,Aa,Ha,ik,Nb];cases h2:digB (atS q 1)with
   |false=>grind
   |true=> rw[Ha,Ea rfl,Dr hs hp (by grind),Rw hs (Tj hp 1)];rfl
 rw[e2,zh];have hw:=TL hp;generalize zx q=W at hw ⊢;obtain⟨w,i⟩:=W;simp only at hw ⊢;have e3:((zf (0,sr s w)).bind fun y9=>
   (zu (!(y9==101)) (zf (0,sr s w)) (default:Int)).bind fun y10=>
   bif bif y9==101 then true else y10==69 then
    zN (X:=(Bool×Int)×za) ((zf (1,sr s w)).bind fun y11=>bif bif y11==43 then true else y11==45 then some (LX.out ((i,2),sr s w))else some (LX.out ((i,1),sr s w))) fun j12=>
    (zf (j12.1.2,j12.2)).bind fun y13=>(ZI y13).bind fun y14=>
    bif y14 then(zO (⟨j12.2.s,w64 (j12.2.at_+j12.1.2)⟩:za)).bind fun y15=>some (LX.out (false,y15))else some (LX.out (j12.1.1,j12.2))
   else some (LX.out (i,sr s w)))=(some (LX.out (match expS w with|some r=>(false,sr s r)|none=>(i,sr s w))):Option (LX (Bool×za) (Bool×za))):=by
  simp only[Og hs hw,Aa,zAz];have e4:((zu (!(atS w 0==101)) (some (pk w 0)) (default:Int)).bind fun y10=>(some (bif atS w 0==101 then true else y10==69):Option Bool))=some (atS w 0==101||atS w 0==69):=by
   cases h:atS w 0==101 with
   |true=>rfl
   |false=>simp only[Cb,zU,Aa,Ja,zBj,xc]
  have e5: ∀(f:Bool->Option (LX (Bool×za) (Bool×za))),((zu (!(atS w 0==101)) (some (pk w 0)) (default:Int)).bind fun y10=>f (bif atS w 0==101 then true else y10==69))=f (atS w 0==101||atS w 0==69):=by intro f;have:=congrArg (fun o=>Option.bind o f) e4;simpa [Option.bind_assoc] using this
  refine(e5 (fun b=>bif b then _ else _)).trans ?_;unfold expS;cases h:(atS w 0==101||atS w 0==69)with
  |false=>rfl
  |true=>
   have hne:atS w 0≠0:=by intro e;rw[e]at h;revert h;decide
   simp only[Ha,Pd,Cs hs hw,Aa,MB,fq,AB];unfold unsign;have hd:atS (w.drop 1) 0=atS w 1:=by rw[qV w 1 0]
   rw[hd];cases hg:(atS w 1==43||atS w 1==45)with
   |true=>
    have hg':Qo (atS w 1)=true:=hg;have hl2:=Vn (gI hg');simp only[Ha,zh,zAy hs hw,Aa,ik,hg',Pd,Je];rw[show atS (w.drop (1+1)) 0=atS w 2 by rw[qV w 2 0]];cases hq:digB (atS w 2)with
    |false=>rfl
    |true=> rw[Ha,Ea rfl,show(2:Int)=((2:Nat):Int)from rfl,Cv hs hw (by omega),Rw hs (Tj hw 2)];rfl
   |false=>
    have hg':Qo (atS w 1)=false:=hg;simp only[Ja,zh,Cs hs hw,Aa,ik,hg',Bc,Fe];rw[hd];cases hq:digB (atS w 1)with
    |false=>rfl
    |true=> rw[Ha,Ea rfl,Dr hs hw hne,Rw hs (Tj hw 1)];rfl
 refine(congrArg (fun o=>zN o _) e3).trans ?_;rw[zh];cases expS w<;>rfl
def valG(n:Nat)(l:Str):Nat:=l.foldl decN n
theorem Fy(n:Nat)(a b:Str):valG n (a++b)=valG (valG n a) b:=List.foldl_append
theorem KL{k:Nat}(h:k<10):digB (UInt8.ofNat (48+k))=true/\(UInt8.ofNat (48+k)).toNat=48+k:=by
 have:(UInt8.ofNat (48+k)).toNat=48+k:=by rw[UInt8.toNat_ofNat'];omega
 refine⟨?_,this⟩;unfold digB
 grind
theorem di: ∀(u:Nat),(Lib.decDigits u).all digB=true/\valG 0 (Lib.decDigits u)=u/\Lib.decDigits u≠[]:=by
 intro u
 induction u using Nat.strongRecOn with
 |_ u e=>
  rw[Lib.decDigits];by_cases h:u<10
  ·rw[dif_pos h];obtain⟨f,d⟩:=KL h;refine⟨by grind,?_,by simp⟩;show decN 0 _=u;unfold decN;rw[d];omega
  ·rw[dif_neg h];obtain⟨a,b,c⟩:=e (u / 10) (by omega);obtain⟨f,d⟩:=KL (k:=u%10) (by omega);refine⟨by grind,?_,by simp⟩;rw[Fy,b];show decN _ _=u;unfold decN;rw[d];omega
theorem Uj: ∀(q t:Str),q.all digB=true->past digB (q++t)=past digB t
 |[],t,_=>rfl
 |c::q,t,h=>by rw[Ic,Ba]at h;rw[Ta,past,Ea h.1,Uj q t h.2]
def d48(k:Nat):UInt8:=UInt8.ofNat (48+k)
def Nh(r:Nat):Str:=Lib.trimRightB [d48 (r / 100),d48 (r / 10%10),d48 (r%10)] 48
theorem OV{r:Nat}(h:r<1000):Lib.decDigits (1000+r)=49::[d48 (r / 100),d48 (r / 10%10),d48 (r%10)]:=by rw[Lib.decDigits,dif_neg (by omega),Lib.decDigits,dif_neg (by omega),Lib.decDigits,dif_neg (by omega),Lib.decDigits,dif_pos (by omega)];rw[show(1000+r) / 10 / 10 / 10=1 by omega,show(1000+r) / 10 / 10%10=r / 100 by omega,show(1000+r) / 10%10=r / 10%10 by omega,show(1000+r)%10=r%10 by omega];rfl
def vv(r:Nat):Bool:=(Nh r).all digB&&decide ((Nh r).length<=3)&&decide (valG 0 (Nh r)*10 ^ (3 - (Nh r).length)=r)&&((Nh r).isEmpty==(r==0))&& !((Nh r).getLast? ==some 48)
theorem PE: ∀r,r<1000->vv r=true:=by decide+kernel
def yj(r:Nat)(p:Bool):Str:=bif (Nh r).isEmpty then(bif p then [46,48]else [])else 46::Nh r
def uf(m:Nat)(p:Bool):Str:=Lib.decDigits (m / 1000)++yj (m%1000) p
def numT(n:Int)(p:Bool):Str:=(if n<0 then [45]else [])++uf n.natAbs p
theorem gF{u:Nat}(h:u<18446744073709551616):(Lib.decDigits u).length<=20:=by
 rw[Lib.decDigits_length];by_cases h1:u=0
 ·subst h1;rw[Lib.nDigits_small (by omega)];omega
 ·have:=Lib.numDigits_eq u (by omega) h;split at this<;>omega
theorem IU{r:Nat}(h:r<1000)(p:Bool):(yj r p).length<=4:=by
 have:=PE r h;simp only[vv,Ba,Jb]at this;unfold yj
 grind
theorem Py{m:Nat}(h:m<=1000000000000)(p:Bool):(uf m p).length<=24:=by unfold uf;rw[Ga];have:=gF (u:=m / 1000) (by omega);have:=IU (r:=m%1000) (by omega) p;omega
theorem Fj{n m b:Nat}(h:n+m<=100000)(a:b<=100):zR n m b=true:=by unfold zR;refine La ?_;have:=Nat.mul_le_mul h a;omega
theorem vW(l:Str):(l==[])=l.isEmpty:=by cases l<;>rfl
def Pk(n:Nat):Nat:=if 65<=n/\n<=90 then n+32 else n
def Di(b:UInt8):UInt8:=UInt8.ofNat (Pk b.toNat)
theorem tV{n:Nat}(h:n<256):Pk n<256:=by unfold Pk;split<;>omega
theorem lX(b:UInt8):(Di b).toNat=Pk b.toNat:=by unfold Di;rw[UInt8.toNat_ofNat'];exact Ff (tV (ma b))
theorem iV: ∀n:Nat,n<256->Dn (n:Int)=some ((Pk n:Nat):Int):=by decide+kernel
theorem zAf: ∀n:Nat,n<256->(bif decide (65<=(n:Int))then decide ((n:Int)<=90)else false)=true->Zq (ibOr IntKind.u8 (n:Int) 32)=some (UInt8.ofNat (Pk n)):=by decide+kernel
def lowS(l:Str):Str:=l.map Di
theorem IE{α:Type}{l:List α}{i:Nat}(h:i<l.length)(f:α->α):((l.take i).map f++l.drop i).set i (f l[i])=(l.take (i+1)).map f++l.drop (i+1):=by
 apply List.ext_getElem
 ·simp;omega
 grind
theorem yI{α:Type}{l:List α}{i:Nat}(h:i<l.length)(f:α->α):((l.take i).map f++l.drop i)[i]? =some l[i]:=by
 grind
theorem GD{α:Type}{l:List α}{i:Nat}(h:i<=l.length)(f:α->α):((l.take i).map f++l.drop i).length=l.length:=by simp;omega
theorem SV{α:Type}{l:List α}{i:Nat}(h:i<l.length)(f:α->α)(e:f l[i]=l[i]):(l.take i).map f++l.drop i=(l.take (i+1)).map f++l.drop (i+1):=by
 rw[<-IE h f,e];apply List.ext_getElem?
 grind
theorem FC(i:Nat):decide ((0:Int)<=(i:Int))=true:=La (by omega)
theorem VM{l:Str}(h:l.length<=big):En l=some (lowS l):=by
 unfold En;rw[zG (La (by unfold big at h;unfold maxLen;omega))];have d: ∀(k i:Nat),i+k=l.length-> ∃n,QH (X:=List UInt8) (R:=Str) (fun(a:Int×List UInt8)=>
   bif decide (a.1<(a.2.length:Int))then
    need (decide (0<=a.1)&&decide (a.1<(a.2.length:Int)))<|
    ze a.2[a.1.toNat]? fun f=>
    ze (Dn (f.toNat:Int)) fun g=>
    need (decide (0<=a.1)&&decide (a.1<(a.2.length:Int)))<|
    ze a.2[a.1.toNat]? fun p=>
    ze (Zq g) fun m=>
    some (LO.again (w64 (a.1+1),List.set a.2 a.1.toNat m))
   else
    some (LO.out a.2)) n ((i:Int),(l.take i).map Di++l.drop i)=some (.out (lowS l)):=by
  intro k
  induction k with
  |zero=>
   intro i e;have e:i=l.length:=by omega
   subst e;refine⟨1,?_⟩;simp only[QH,GD (Va _),AJ,Ja];simp[lowS]
  |succ k o=>
   intro i e;have b:i<l.length:=by omega
   obtain⟨n,c⟩:=o (i+1) (by omega);refine⟨n+1,?_⟩;have j:=ma l[i];simp only[QH,GD (Nat.le_of_lt b),Km b,Ha,FC,Vb,qg,Yb,yI b,ze,Aa,iV _ j];rw[<-lX,zvm,Hl b h];simp only[Aa,IE b];exact c
 obtain⟨n,c⟩:=d l.length 0 (by omega);replace c:=jm c;simp only[List.take_zero,List.map_nil,Ya,List.drop_zero]at c;exact(gm c).trans rfl
theorem vM{l:Str}(h:l.length<=big):Jn l=some (lowS l):=by
 unfold Jn;rw[zG (La (by unfold big at h;unfold maxLen;omega))];have d: ∀(k i:Nat),i+k=l.length-> ∃n,QH (X:=List UInt8) (R:=Str) (fun(a:Int×List UInt8)=>
   bif decide (a.1<(l.length:Int))then
    zN (X:=Int×List UInt8) (
      need (decide (0<=a.1)&&decide (a.1<(a.2.length:Int)))<|
      ze a.2[a.1.toNat]? fun j=>
      bif bif decide (65<=(j.toNat:Int))then decide ((j.toNat:Int)<=90)else false then
       need (decide (0<=a.1)&&decide (a.1<(a.2.length:Int)))<|
       ze a.2[a.1.toNat]? fun o=>
       need (decide (0<=a.1)&&decide (a.1<(a.2.length:Int)))<|
       ze a.2[a.1.toNat]? fun t=>
       ze (Zq (ibOr IntKind.u8 (o.toNat:Int) 32)) fun q=>
       some (LX.out (a.1,List.set a.2 a.1.toNat q))
      else
       some (LX.out (a.1,a.2))) fun m=>
    some (LO.again (w64 (m.1+1),m.2))
   else
    some (LO.out a.2)) n ((i:Int),(l.take i).map Di++l.drop i)=some (.out (lowS l)):=by
  intro k
  induction k with
  |zero=>
   intro i f;have f:i=l.length:=by omega
   subst f;refine⟨1,?_⟩;simp only[QH,AJ,Ja];simp[lowS]
  |succ k r=>
   intro i f;have b:i<l.length:=by omega
   obtain⟨n,c⟩:=r (i+1) (by omega);refine⟨n+1,?_⟩;have p:=ma l[i];simp only[QH,GD (Nat.le_of_lt b),Km b,Ha,FC,Vb,qg,Yb,yI b,ze,Aa];cases g:(bif decide (65<=(l[i].toNat:Int))then decide ((l[i].toNat:Int)<=90)else false)with
   |true=> have e:=zAf _ p g;simp only[e,Ha,Aa,zh,Hl b h];rw[show UInt8.ofNat (Pk l[i].toNat)=Di l[i]from rfl,IE b];exact c
   |false=>
    have e:Di l[i]=l[i]:=by unfold Di Pk;rw[Fa,Jd];rintro⟨s,u⟩;rw[La (by omega),Ha,La (by omega)]at g;cases g
    simp only[Ja,zh,Hl b h];rw[SV b Di e];exact c
 obtain⟨n,c⟩:=d l.length 0 (by omega);replace c:=jm c;simp only[List.take_zero,List.map_nil,Ya,List.drop_zero]at c;exact(gm c).trans rfl
def Zc(l:Str):Bool:=l.all fun b=> !(b==0)
theorem yD(c:UInt8): ∀l:Str,decide (Lib.indexByte l c>=0)=l.any fun b=>b==c
 |[]=>rfl
 |b::l=>by
  have d:=yD c l;have a:=Lib.indexByte_ge l c;rw[List.any_cons,Lib.indexByte]
  grind
theorem WR(l:Str):(l.any fun b=>b==0)= !Zc l:=by
 unfold Zc
 grind
theorem RA(l:Str)(n:Int):strings_IndexByte (l,n)=some (Lib.indexByte l n.toNat.toUInt8):=rfl
theorem sQ(l:Str):decide (Lib.indexByte l (0:Int).toNat.toUInt8>=0)= !Zc l:=(yD 0 l).trans (WR l)
theorem YQ(n m:Nat):decide ((n:Int)>(m:Int))= !decide (n<=m):=by
 grind
theorem byte_zero(b:UInt8):((b.toNat:Int)==0)=(b==0):=by
 by_cases h:b=0
 ·subst h;rfl
 ·have a:b.toNat≠0:=fun e=>h (Oe.1 e)
  grind
theorem Vq(l m:Str):strings_HasPrefix (l,m)=some (m.isPrefixOf l):=by
 have a: ∀m l:Str,m.isPrefixOf l=(decide (m.length<=l.length)&&l.take m.length==m):=by
  intro m l;rw[Bool.eq_iff_iff];simp only[Uc,Ba,Jb,Sa];constructor
  ·rintro⟨t,rfl⟩
   grind
  ·grind
 unfold strings_HasPrefix stringslite_HasPrefix;simp_all
theorem YZ(l m:Str):strings_TrimPrefix (l,m)=some (bif m.isPrefixOf l then l.drop m.length else l):=by
 have h:stringslite_HasPrefix (l,m)=some (m.isPrefixOf l):=by
  have:=Vq l m;unfold strings_HasPrefix at this;cases hh:stringslite_HasPrefix (l,m)with
  |none=>grind
  |some b=>grind
 unfold strings_TrimPrefix stringslite_TrimPrefix;simp only[h,ze,Aa];cases hp:m.isPrefixOf l with
 |false=>rfl
 |true=> have hl:=(Uc.1 hp).length_le;simp_all
theorem rF{a b:Str}(c:a.length<=big)(h2:b.length<=big):Kn (a,b)=some (lowS a==lowS b):=by unfold Kn;simp only[vM c,vM h2,ze,Aa]
theorem jV{a b:Str}(c:a.length<=big)(h2:b.length<=big):qW (a,b)=some (lowS a==lowS b):=by unfold qW;simp only[VM c,VM h2,ze,Aa]
def xg(n:Nat):Bool:=
 !(n==0||n==9||n==10||n==12||n==13||n==32||n==34||n==39||n==40||n==41||n==44||n==58||n==59||n==91||n==93||n==95||n==123||n==125)&&
  (decide (n<128)&& !((decide (48<=n)&&decide (n<=57))||(decide (65<=n)&&decide (n<=90))||(decide (97<=n)&&decide (n<=122))))
set_option maxRecDepth 100000 in
theorem pR: ∀n:Nat,n<256->YG 40 (n:Int)=some (xg n):=by decide+kernel
def Dy:Prop:= ∀b:UInt8,qH (b.toNat:Int)=some (xg b.toNat)
theorem M7:Dy:=fun b=>
 O6 40 _ _ (pR _ (ma b))
def digN(n:Nat):Bool:=decide (48<=n)&&decide (n<=57)
theorem VY: ∀n:Nat,n<256->Zd (n:Int)=some (digN n):=by decide+kernel
theorem WM(b:UInt8):Zd (b.toNat:Int)=some (digN b.toNat):=(VY _ (ma b))
theorem MZ: ∀n:Nat,n<256->Qg (n:Int)=some (digN n):=by decide+kernel
theorem wN(b:UInt8):Qg (b.toNat:Int)=some (digN b.toNat):=(MZ _ (ma b))
def namN(n:Nat):Bool:=digN n||(decide (65<=n)&&decide (n<=90))||(decide (97<=n)&&decide (n<=122))||n==95||n==45||decide (128<=n)
theorem KZ: ∀n:Nat,n<256->Rn (n:Int)=some (namN n):=by decide+kernel
theorem vN(b:UInt8):Rn (b.toNat:Int)=some (namN b.toNat):=(KZ _ (ma b))
def xh:Str->Bool
 |[]=>false
 |b::r=>digN b.toNat||(b==45&&(r==[]||digN (r.headD 0).toNat))
theorem Xx(b c:UInt8):((b.toNat:Int)==(c.toNat:Int))=(b==c):=by
 by_cases h:b=c
 ·subst h;simp
 ·have a:b.toNat≠c.toNat:=fun e=>h (Oe.1 e)
  grind
theorem KS(b:UInt8):((b.toNat:Int)==45)=(b==45):=Xx b 45
theorem dZ(l:Str):dz l=some (xh l):=by
 unfold dz;cases l with
 |nil=>rfl
 |cons b r=>
  have f:geti (b::r) 0=some b:=rfl;have g:(b::r==([]:Str))=false:=rfl;simp only[g,Ja,f,ze,Aa,WM,QF,KS];cases r with
  |nil=>
   have e:(([b]:Str)==[45])=(b==45):=by show((b==45)&&true)=_;rw[Vb]
   simp only[e];unfold xh;cases c:(b==45)with
   |false=>cases h:digN b.toNat<;>simp[c,zu,h]
   |true=>simp_all
  |cons d r=>
   have a:geti (b::d::r) 1=some d:=rfl;have e:((b::d::r:Str)==[45])=false:=by show((b==45)&&false)=_;rw[Df]
   simp only[a,e,QF,Aa,WM,xh,List.headD_cons]
   grind
def numS:Str->Bool
 |[]=>false
 |b::r=>bif b==45 then !(r==[])&&digN (r.headD 0).toNat else digN b.toNat
theorem cO(l:Str):Wq l=some (numS l):=by
 unfold Wq;simp only[YZ,ze,Aa];have a: ∀m:Str,((zu (!(m==[])) (geti m 0) 0).bind fun c=>(zu (!(m==[])) (Qg (c.toNat:Int)) (default:Bool)).bind fun d=>some (bif !(m==[])then d else false))=some (!(m==[])&&digN (m.headD 0).toNat):=by
  intro m;cases m with
  |nil=>rfl
  |cons b r=> have f:geti (b::r) 0=some b:=rfl;have g:(b::r==([]:Str))=false:=rfl;simp only[g,Cb,zU,f,Aa,wN,Ha,List.headD_cons,Nb]
 rw[a];cases l with
 |nil=>rfl
 |cons b r=>
  have e:List.isPrefixOf [45] (b::r)=(b==45):=by
   show((45==b)&&true)=_;rw[Vb];cases h:(b==45)with
   |true=>grind
   |false=>grind
  rw[e];show _=some (bif b==45 then !(r==[])&&digN (r.headD 0).toNat else digN b.toNat)
  grind
theorem aT(l:Str):((numS l&& !(List.isPrefixOf [45,45] l))||l==[45])=xh l:=by
 cases l with
 |nil=>rfl
 |cons b r=>
  cases a:(b==45)with
  |false=>
   have e:List.isPrefixOf [45,45] (b::r)=false:=by show((45==b)&&_)=_;rw[Da]at a;rw[Da.2 (Ne.symm a)];rfl
   have c:((b::r:Str)==[45])=false:=by show((b==45)&&_)=_;rw[a];rfl
   rw[e,c];unfold numS xh;simp[a]
  |true=>
   rw[Sa]at a;subst a;cases r with
   |nil=>rfl
   |cons d r=>
    have c:((45::d::r:Str)==[45])=false:=rfl;rw[c];unfold numS xh;have e:List.isPrefixOf [45,45] (45::d::r)=(45==d):=by show((45==(45:UInt8))&&((45==d)&&true))=_;rw[Vb];rfl
    rw[e];simp only[List.headD_cons];have f:digN 45=false:=by decide
    cases h:(45==d)with
    |false=>simp[f]
    |true=>rw[Sa]at h;subst h;rfl
def delS(l:Str):Bool:=match l with
 |[b]=>xg b.toNat
 |_=>false
def rngS(x:zb):Bool:=decide (-1000000000000<=x.num)&&(decide (x.num<=1000000000000)&&(!x.flag||Int.tmod x.num 1000==0))
def mf(x:zb):Bool:=
 bif x.kind==1||x.kind==2||x.kind==3 then !(x.text==[])&&(Zc x.text&&(x.num==0&&(x.unit==[]&& !x.flag)))
 else bif x.kind==4 then !(x.text==[])&&(Zc x.text&&((x.flag||xh x.text)&&(x.num==0&&x.unit==[])))
 else bif x.kind==5||x.kind==7 then Zc x.text&&(x.num==0&&(x.unit==[]&& !x.flag))
 else bif x.kind==9 then delS x.text&&(x.num==0&&(x.unit==[]&& !x.flag))
 else bif x.kind==10||x.kind==11||x.kind==12 then rngS x&&((!(x.unit==[])==(x.kind==12))&&(Zc x.unit&&((!(x.kind==11)|| !x.flag)&&x.text==[])))
 else(decide (13<=x.kind)&&decide (x.kind<=24))&&(x.text==[]&&(x.num==0&&(x.unit==[]&& !x.flag)))
theorem CO{l:Str}(h:l.length<=big):wm l=some (Zc l):=by
 unfold wm;refine(FN l (fun b=>bif (!(b==0))then none else some false) () (fun i a=> ?_) ?_).trans ?_
 ·simp only[Km a,Ha,lh a,ze,Aa,byte_zero,Hl a h]
  grind
 ·grind
 ·rw[SE];show _=some (Zc l);unfold Zc
  grind
theorem one_byte(l:Str)(p:Nat->Bool)(d:Bool)(f:Int->Option Bool)(hf: ∀b:UInt8,f (b.toNat:Int)=some (p b.toNat))(g:Bool):
  ((zu (g&&(l.length:Int)==1) (geti l 0) (0:UInt8)).bind fun y=>zu (g&&(l.length:Int)==1) (f (y.toNat:Int)) d)=some (bif g&&(l.length:Int)==1 then(match l with|[b]=>p b.toNat|_=>false)else d):=by
 cases g with
 |false=>rfl
 |true=>
  cases l with
  |nil=>rfl
  |cons b r=>
   cases r with
   |nil=> show((geti [b] 0).bind fun y=>f (y.toNat:Int))=some (p b.toNat);rw[show geti [b] 0=some b from rfl];exact hf b
   |cons c r=> have:(((b::c::r).length:Int)==1)=false:=Da.2 (by grind);rw[this];rfl
theorem YX(a:Dy)(l:Str)(g:Bool):((zu (g&&(l.length:Int)==1) (geti l 0) (0:UInt8)).bind fun y=>zu (g&&(l.length:Int)==1) (qH (y.toNat:Int)) (default:Bool))=some (bif g&&(l.length:Int)==1 then delS l else default):=
 one_byte l xg default qH a g
theorem NV(l:Str):(((l.length:Int)==1)&&delS l)=delS l:=by
 cases l with
 |nil=>rfl
 |cons b r=>
  cases r with
  |nil=>rfl
  |cons c r=> have:(((b::c::r).length:Int)==1)=false:=Da.2 (by grind);rw[this];rfl
theorem cZ(C:Dy){x:zb}(v:x.text.length<=big)(h2:x.unit.length<=big):cz x=some (mf x):=by
 have n:=YX C x.text true;simp only[Nb]at n;have q:((zu ((x.text.length:Int)==1) (geti x.text 0) (0:UInt8)).bind fun o=>(zu ((x.text.length:Int)==1) (qH (o.toNat:Int)) (default:Bool)).bind fun D=>some (bif bif (x.text.length:Int)==1 then D else false then x.kind==x.kind&&(([]:Str)==[]&&(x.num==0&&(x.unit==[]&&(x.flag==false&&true))))else false))=some (delS x.text&&(x.num==0&&(x.unit==[]&& !x.flag))):=by
  have e: ∀(k:Bool->Option Bool),((zu ((x.text.length:Int)==1) (geti x.text 0) (0:UInt8)).bind fun o=>(zu ((x.text.length:Int)==1) (qH (o.toNat:Int)) (default:Bool)).bind k)=(((zu ((x.text.length:Int)==1) (geti x.text 0) (0:UInt8)).bind fun y=>zu ((x.text.length:Int)==1) (qH (y.toNat:Int)) (default:Bool))).bind k:=by intro k;rw[Option.bind_assoc]
  rw[e,n,Aa,<-NV x.text];simp only[beq_self_eq_true];cases (x.text.length:Int)==1<;>cases delS x.text<;>cases x.flag<;>rfl
 unfold cz;simp only[ze,CO v,CO h2,dZ,QF,Aa,ge_iff_le];unfold mf rngS;by_cases B:x.kind=9
 ·simp_all
 clear n q;have E:=Da.2 B;generalize delS x.text=J;generalize Zc x.text=p;generalize Zc x.unit=M;generalize xh x.text=H;generalize c:(x.text==[])=i;generalize d:(x.unit==[])=j;generalize a:(x.num==0)=m;generalize b:x.flag=l;generalize decide (-1000000000000<=x.num)=N;generalize decide (x.num<=1000000000000)=L;generalize (Int.tmod x.num 1000==0)=z;by_cases r:x.kind=1
 ·simp only[r,zh,Ha,Ja,c,d,a,b,Int.reduceBEq];cases p<;>cases i<;>cases j<;>cases m<;>cases l<;>rfl
 by_cases s:x.kind=2
 ·simp only[s,zh,Ha,Ja,c,d,a,b,Int.reduceBEq];cases p<;>cases i<;>cases j<;>cases m<;>cases l<;>rfl
 by_cases t:x.kind=3
 ·simp only[t,zh,Ha,Ja,c,d,a,b,Int.reduceBEq];cases p<;>cases i<;>cases j<;>cases m<;>cases l<;>rfl
 by_cases u:x.kind=4
 ·simp only[u,zh,Ha,Ja,c,d,a,b,Int.reduceBEq]
  grind
 by_cases G:x.kind=5
 ·simp_all
 by_cases F:x.kind=7
 ·simp_all
 by_cases g:x.kind=10
 ·simp only[g,zh,Ha,Ja,c,d,a,b,Int.reduceBEq]
  grind
 by_cases h:x.kind=11
 ·simp only[h,zh,Ha,Ja,c,d,a,b,Int.reduceBEq]
  grind
 by_cases f:x.kind=12
 ·simp only[f,zh,Ha,Ja,c,d,a,b,Int.reduceBEq]
  grind
 simp only[E,Da.2 r,Da.2 s,Da.2 t,Da.2 u,Da.2 G,Da.2 F,Da.2 g,Da.2 h,Da.2 f,zh,Ha,Ja,c,d,a,b,beq_self_eq_true,Bool.or_self];by_cases w:x.kind=6
 ·simp_all
 by_cases A:x.kind=8
 ·simp_all
 simp only[Da.2 w,Da.2 A,zh,Ha,Ja];have e:(decide (1<=x.kind)&&decide (x.kind<=24))=(decide (13<=x.kind)&&decide (x.kind<=24)):=by
  by_cases K:13<=x.kind
  ·grind
  ·grind
 rw[<-e];cases decide (1<=x.kind)<;>cases decide (x.kind<=24)<;>cases i<;>cases j<;>cases m<;>cases l<;>rfl
abbrev Js:Str:=[32,9,10,12,13,34,39,58,59,44,91,93,40,41,123,125]
theorem Xz: ∀(m:Str) (c:UInt8),Lib.index m [c]=Lib.indexByte m c
 |[],c=>rfl
 |b::l,c=>by
  have h:List.isPrefixOf [c] (b::l)=(b==c):=by
   show(c==b&&List.isPrefixOf [] l)=_;rw[List.isPrefixOf,Vb];by_cases e:b=c
   ·subst e;rfl
   ·grind
  rw[Lib.index,Lib.indexByte,h,Xz l c]
theorem contains_one(m:Str)(c:UInt8)(a:short m=true:=by decide):strings_Contains (m,[c])=some (m.any fun b=>b==c):=by unfold strings_Contains;simp only[Sk,a,qg,ze,Aa,Xz,yD]
theorem X6(c:UInt8):strings_Contains ([32,9,10,12,13,34,39,58,59,44,91,93,40,41,123,125],[c])=some (Js.any fun b=>b==c):=contains_one Js c
theorem aX: ∀n:Nat,n<256->((bif bif !(UInt8.ofNat n==0)then !namN n else false then true else UInt8.ofNat n==45)&&(!(Js.any fun b=>b==UInt8.ofNat n)))=xg n:=by decide+kernel
theorem MV(b:UInt8):((bif bif !(b==0)then !namN b.toNat else false then true else b==45)&&(!(Js.any fun c=>c==b)))=xg b.toNat:=by have:=aX b.toNat (ma b);simp_all
theorem WZ(a b:Str):Zc (a++b)=(Zc a&&Zc b):=by unfold Zc;grind
theorem dR(n:Int):decide (n<0)= !decide (n>=0):=by
 grind
theorem Xk: ∀(l:Str) (n:Nat),valG n l=n*10 ^ l.length+valG 0 l
 |[],n=>by simp[valG]
 |c::l,n=>by
  show valG (decN n c) l=n*10 ^ (l.length+1)+valG (decN 0 c) l;rw[Xk l (decN n c),Xk l (decN 0 c),Jg];unfold decN
  grind
theorem CW(l:Str)(i:Nat):valG 0 (l.take i)<=valG 0 l:=by
 have h:valG 0 l=valG (valG 0 (l.take i)) (l.drop i):=by rw[<-Fy,Td]
 rw[h,Xk (l.drop i)];have:=Vd (valG 0 (l.take i)) (Bf (n:=(l.drop i).length) (show 0<10 by omega));omega
theorem Gq{b:UInt8}(h:digB b=true):48<=b.toNat/\b.toNat<=57:=by unfold digB at h;simpa using h
theorem JU {R:Type} {step:Int×Int->Option (LO (Int×Int) Int R)} {l:Str} (b:l.all digB=true) (g:l.length<=100000) (j:valG 0 l<=1000000000000)
  (a: ∀(v:Int) (i:Nat) (hi:i<l.length),step (v,(i:Int))=some (.again (if 1000000000000<w64 (w64 (10*v)+w64 (wu8 ((l[i].toNat:Int) - 48)))then 1000000000000 else w64 (w64 (10*v)+w64 (wu8 ((l[i].toNat:Int) - 48))),w64 ((i:Int)+1))))
  (h2: ∀v:Int,step (v,(l.length:Int))=some (.out v)):Ng step (0,0)=some (.out ((valG 0 l:Nat):Int)):=by
 refine qO (fun s=> ∃i:Nat,i<=l.length/\s=(((valG 0 (l.take i):Nat):Int),(i:Int))) (fun s=>l.length - s.2.toNat) _ ?_ ⟨0,by omega,rfl⟩;rintro _ ⟨i,hi,rfl⟩;rcases ic i l.length with h|h
 ·refine .inl ⟨_,a _ i h,⟨i+1,by omega,?_⟩,by simp only;rw[zZ (by omega) (by omega)];omega⟩;have e:=Gq (Ub.1 b _ (Gf h));have d:valG 0 (l.take (i+1))=decN (valG 0 (l.take i)) l[i]:=by rw[Ve h,Fy];rfl
  have f:=CW l (i+1);have c:wu8 ((l[i].toNat:Int) - 48)=((l[i].toNat - 48:Nat):Int):=by show IntKind.u8.wrap _=_;rw[IntKind.wrap_u8];omega
  unfold decN at d;rw[c,zZ (n:=10*_) (by omega) (by omega),zZ (n:=((l[i].toNat - 48:Nat):Int)) (by omega) (by omega),zZ (n:=(i:Int)+1) (by omega) (by omega),zZ (by omega) (by omega),Fa (by omega)];refine Hf ?_ ?_
  ·grind
  ·grind
 grind
theorem PY {R:Type} {step:Int×Int->Option (LO (Int×Int) Int R)} {v p:Nat} (g:p<=100) (i:v*10 ^ p<=1000000000000)
  (h: ∀(a b:Int),step (a,b)=bif bif bif decide (a>0)then decide (b>0)else false then decide (b<1000000000000)else false then some (.again (w64 (a - 1),if 1000000000000<w64 (10*b)then 1000000000000 else w64 (10*b)))else some (.out b)):
  Ng step ((p:Int),(v:Int))=some (.out ((v*10 ^ p:Nat):Int)):=by
 refine qO (fun s=> ∃a b:Nat,s=((a:Int),(b:Int))/\a<=100/\b*10 ^ a=v*10 ^ p) (fun s=>s.1.toNat) _ ?_ ⟨p,v,rfl,g,rfl⟩;rintro _ ⟨a,b,rfl,j,d⟩;rw[h];cases a with
 |zero=>
  grind
 |succ a=>
  rw[La (show((a+1:Nat):Int)>0 by omega),Ha];rw[Jg,<-bf]at d;have c:0<10 ^ a:=Bf (by omega);cases Xg b with
  |inl e=> subst e;refine .inr (.inl ⟨0,rfl,?_⟩);rw[<-d];simp
  |inr e=>
   rw[La (show((b:Nat):Int)>0 by omega),Ha];have f:b<=b*10 ^ a:=Vd b c;rw[La (show((b:Nat):Int)<1000000000000 by omega),Ha];refine .inl ⟨_,rfl,⟨a,10*b,?_,by omega,?_⟩,by simp only;rw[zZ (by omega) (by omega)];omega⟩
   ·rw[zZ (by omega) (by omega),zZ (by omega) (by omega),Fa (by omega)];refine Hf ?_ ?_
    ·show((a+1:Nat):Int) - 1=(a:Int);omega
    ·show 10*(b:Int)=((10*b:Nat):Int);omega
   ·rw[<-d,Kg 10 b,bf,bf,Kg 10 (10 ^ a)]
theorem YD: ∀(q:Str),q.all digB=true->Lib.indexByte q 46= -1
 |[],_=>rfl
 |c::q,h=>by
  rw[Ic,Ba]at h;have a:=Gq h.1;have b:(c==46)=false:=by refine Da.2 (fun e=> ?_);subst e;revert a;decide
  rw[Lib.indexByte,b,YD q h.2];rfl
theorem aD: ∀(q g:Str),q.all digB=true->Lib.indexByte (q++46::g) 46=(q.length:Int)
 |[],g,_=>by rw[Ya,Lib.indexByte];rfl
 |c::q,g,h=>by
  rw[Ic,Ba]at h;have hd:=Gq h.1;have hc:(c==46)=false:=by refine Da.2 (fun e=> ?_);subst e;revert hd;decide
  rw[Ta,Lib.indexByte,hc,aD q g h.2];have:((q.length:Int)== -1)=false:=Da.2 (by omega);rw[this,Ka];simp
theorem VD: ∀(l:Str),(l.all fun b=>digB b||b==46)=true->Lib.indexAny l [101,69]= -1
 |[],_=>rfl
 |c::l,h=>by
  rw[Ic,Ba]at h;have hc:List.contains [101,69] c=false:=by
   have: ∀n:Nat,n<256->(digB (UInt8.ofNat n)||UInt8.ofNat n==46)=true->List.contains [101,69] (UInt8.ofNat n)=false:=by decide+kernel
   have:=this c.toNat (ma c);rw[Jd]at this;exact this h.1
  rw[Lib.indexAny,hc,VD l h.2];rfl
theorem zAj(g d:Bool)(b c:UInt8):(bif g then namN (bif g then b else c).toNat else d)=bif g then namN b.toNat else d:=by cases g<;>rfl
theorem LZ{x:zb}(h1:x.text.length<=big)(h2:x.unit.length<=big):bu x=some (mf x):=by
 unfold bu;rw[zG (Tu.2 (by grind))];simp only[ze,RA,Aa];have hn:decide (Lib.indexByte (x.text++x.unit) (0:Int).toNat.toUInt8<0)=(Zc x.text&&Zc x.unit):=by rw[dR,sQ,WZ,Bool.not_not]
 simp only[hn,cO,Vq,QF,Aa,ge_iff_le,bne];have hb:=aT x.text;unfold mf rngS;by_cases k9:x.kind=9
 ·simp only[k9,Int.reduceBEq,Ha,Ja,zh,jf,xc];cases ht:x.text with
  |nil=>
   have:Zc ([]:Str)=true:=rfl;simp only[this,Nb];cases Zc x.unit<;>rfl
  |cons b r=>
   cases r with
   |nil=>
    have hd:=MV b;have e1:((([b]:Str).length:Int)==1)=true:=rfl;have e2:geti [b] 0=some b:=rfl;have e3:(([b]:Str)==[45])=(b==45):=by show((b==45)&&true)=_;rw[Vb]
    have e4:Zc [b]= !(b==0):=by show((!(b==0))&&true)=_;rw[Vb]
    have e5:delS [b]=xg b.toNat:=rfl;simp only[e1,e2,e3,e4,e5,X6,vN,QF,Aa,zAj,<-hd];cases hu:x.unit with
    |nil=>
     have:Zc ([]:Str)=true:=rfl;simp only[this,Vb];generalize (Js.any fun c=>c==b)=a1;cases namN b.toNat<;>cases (b==0)<;>cases (b==45)<;>cases a1<;>cases (x.num==0)<;>cases x.flag<;>rfl
    |cons c s=> simp_all
   |cons c r=>
    have e1:(((b::c::r:Str).length:Int)==1)=false:=Da.2 (by grind);have e3:((b::c::r:Str)==[45])=false:=by show((b==45)&&false)=_;rw[Df]
    have e5:delS (b::c::r)=false:=rfl;simp only[e1,e3,e5];simp_all
 have b9:=Da.2 k9;have hu:(x.unit==[])=true->Zc x.unit=true:=fun h=>by rw[Sa]at h;rw[h];rfl
 have htx:(x.text==[])=true->Zc x.text=true:=fun h=>by rw[Sa]at h;rw[h];rfl
 rw[<-hb];generalize hl45:(x.text==[45])=a11 at*;generalize (List.isPrefixOf [45,45] x.text)=a12 at*;generalize numS x.text=a3 at*;generalize Zc x.text=a1 at*;generalize Zc x.unit=a2 at*;generalize (x.text==[])=a4 at*;generalize (x.unit==[])=a5 at*;generalize (x.num==0)=a6 at*;generalize x.flag=a7 at*;generalize decide (-1000000000000<=x.num)=a8 at*;generalize decide (x.num<=1000000000000)=a9 at*;generalize (Int.tmod x.num 1000==0)=a10 at*;clear hb hn hl45;have K: ∀k:Int,k∈[1,2,3,4,5,7,10,11,12]->x.kind=k->True:=fun _ _ _=>trivial;clear K;by_cases k1:x.kind=1
 ·simp only[k1,zh,Ha,Ja,Int.reduceBEq]
  grind
 by_cases k2:x.kind=2
 ·simp only[k2,zh,Ha,Ja,Int.reduceBEq]
  grind
 by_cases k3:x.kind=3
 ·simp only[k3,zh,Ha,Ja,Int.reduceBEq]
  grind
 by_cases k4:x.kind=4
 ·simp only[k4,zh,Ha,Ja,Int.reduceBEq]
  grind
 by_cases k5:x.kind=5
 ·simp only[k5,zh,Ha,Ja,Int.reduceBEq]
  grind
 by_cases k7:x.kind=7
 ·simp only[k7,zh,Ha,Ja,Int.reduceBEq]
  grind
 by_cases k10:x.kind=10
 ·simp only[k10,zh,Ha,Ja,Int.reduceBEq]
  grind
 by_cases k11:x.kind=11
 ·simp only[k11,zh,Ha,Ja,Int.reduceBEq]
  grind
 by_cases k12:x.kind=12
 ·simp only[k12,zh,Ha,Ja,Int.reduceBEq]
  grind
 simp only[b9,Da.2 k1,Da.2 k2,Da.2 k3,Da.2 k4,Da.2 k5,Da.2 k7,Da.2 k10,Da.2 k11,Da.2 k12,zh,Ha,Ja,Bool.or_self];cases decide (13<=x.kind)<;>cases decide (x.kind<=24)<;>cases a4<;>cases a5<;>cases a6<;>cases a7<;>rfl
theorem YN {R:Type} {step:Int->Option (LO Int Unit R)} {k:Unit->Option R} (n:Nat) (p:Nat->Bool) (r:R)
  (c: ∀(i:Nat),i<n->step (i:Int)=some (bif p i then .again ((i+1:Nat):Int)else .ret r)) (a:step (n:Int)=some (.out ())):
  ZP step 0 k=bif (List.range n).all p then k ()else some r:=by
 have e:=FN (k:=k) (List.range n) (fun i=>bif p i then none else some r) () (fun i b=> ?_) (by simpa using a)
 ·rw[e,SE]
  grind
 grind
def Bj:List zb->Bool
 |[]=>false
 |s::r=>bif s.kind==13 then(match r with|u::_=>u.kind==5|[]=>false)else s.kind==5
def kg:List zb->Bool
 |[]=>false
 |s::_=>s.kind==13
def Ag(t:zb):Bool:=t.kind==2&&lowS t.text==[117,114,108]
def okAt:List zb->Bool
 |[]=>true
 |t::r=>(!(t.kind==9&&t.text==[92])||kg r)&&(!(Ag t)||Bj r)
def Nl(l:List zb)(i:Nat):Bool:=mf (l.getD i default)&&okAt (l.drop i)
def gluS(l:List zb):Int:=bif decide (l.length<=1500)then(bif (List.range l.length).all (Nl l)then 0 else 8)else 4
theorem Bp(l:List zb)(i:Nat)(k:Int):Zp (((i:Int),k),l)=some (match l[i]? with|some t=>t.kind==k|none=>false):=by
 unfold Zp;by_cases h:i<l.length
 ·simp only[Km h,zU,lh h,ze,Aa,Ha,Ua h]
 ·have e:decide ((i:Int)<(l.length:Int))=false:=Ob (by omega);simp only[e,ZX,ze,Aa,Ja,List.getElem?_eq_none (Nat.le_of_not_lt h)]
theorem Ot:lowS [117,114,108]=[117,114,108]:=by decide
theorem M0{t:zb}{r:List zb}(h:t.text.length<=big): ∃n:Int,Qh (t::r)=some n/\(n==0)= !okAt (t::r):=by
 have e0:geti (t::r) 0=some t:=rfl;have p1:=Bp (t::r) 1 13;have p15:=Bp (t::r) 1 5;have p25:=Bp (t::r) 2 5;unfold Qh;simp only[e0,ze,Aa,rF h (show([117,114,108]:Str).length<=big by decide),Ot,QF];simp only[Int.natCast_one]at p1 p15;replace p25:Zp ((2,5),t::r)=_:=p25;rw[p1];unfold okAt Ag;cases hd:(t.kind==9&&t.text==[92])with
 |true=>
  have hk:t.kind=9:=by rw[Ba,Sa]at hd;exact hd.1
  have ht:(t.text==[92])=true:=by rw[Ba]at hd;exact hd.2
  simp only[hk,ht,Int.reduceBEq,Ha,Ja,Aa];cases r with
  |nil=>exact⟨_,rfl,rfl⟩
  |cons s r=>
   show∃n:Int,(bif !(s.kind==13)then some 0 else some 2)=some n/\(n==0)= !((!true||s.kind==13)&&_);cases s.kind==13
   ·simp_all
   simp_all
 |false=>
  have hc:(bif t.kind==9 then t.text==[92]else false)=false:=by
   cases h9:t.kind==9
   ·rfl
   ·grind
  simp only[hc,hd,Ja,Cb,Ee,Nb];cases hu:(t.kind==2&&lowS t.text==[117,114,108])with
  |false=>
   have:(bif t.kind==2 then bif t.kind==2 then lowS t.text==[117,114,108]else default else false)=false:=by
    cases h2:t.kind==2
    ·rfl
    ·grind
   rw[this]
   grind
  |true=>
   rw[Ba]at hu;rw[hu.1,hu.2];simp only[Ha,Aa];cases r with
   |nil=>exact⟨0,by simp[p15],rfl⟩
   |cons s r=>
    cases hs:s.kind==13 with
    |false=>
     have e1:(match(t::s::r)[1]? with|some t=>t.kind==13|none=>false)=false:=hs;have e5:Zp ((1,5),t::s::r)=some (s.kind==5):=p15;simp only[e1,Ja,zh,e5,Aa,Bj,hs];cases s.kind==5
     ·grind
     ·exact⟨2,by rfl,rfl⟩
    |true=>
     have e1:(match(t::s::r)[1]? with|some t=>t.kind==13|none=>false)=true:=hs;simp only[e1,Ha,zh,p25,Aa,Bj,hs];cases r with
     |nil=>grind
     |cons u r=>
      show∃n:Int,(bif !(u.kind==5)then some 0 else some (w64 (2+1)))=some n/\(n==0)= !(!true||u.kind==5);cases u.kind==5
      ·grind
      ·exact⟨3,rfl,rfl⟩
theorem JN(l:List zb):decide ((l.length:Int)>1500)= !decide (l.length<=1500):=YQ _ 1500
theorem O0{l:List zb}(h: ∀t∈l,t.text.length<=big/\t.unit.length<=big):Kl l=some (gluS l):=by
 unfold Kl gluS;rw[JN];cases e:decide (l.length<=1500)with
 |false=>rfl
 |true=>
  have e:=jb e;simp only[Lb,Ja,Ha];refine(YN l.length (Nl l) 8 (fun i a=> ?_) ?_).trans ?_
  ·obtain⟨d,j⟩:=h _ (Gf a);have b:l.getD i default=l[i]:=by simp[a]
   have c:=Eb a;obtain⟨n,f,k⟩:=M0 (t:=l[i]) (r:=l.drop (i+1)) d;rw[<-c]at f k;have g:decide ((i:Int)<=(l.length:Int))=true:=La (by omega);unfold Nl;simp only[Km a,Ha,lh a,ze,Aa,LZ d j,FC,g,Nb,Ee,qg,Yb,f,QF,Hl a (show l.length<=big by unfold big;omega),b]
   grind
  ·grind
  grind
abbrev tA:zb:=⟨1,[97],0,[],false⟩
abbrev tS:zb:=⟨13,[],0,[],false⟩
theorem w1:zW ([45,47,42,42,47,97],[⟨9,[45],0,[],false⟩,tA])=some true:=ZT 60 _ _ (by decide+kernel)
theorem w2:zW ([35,49,47,42,42,47,97],[⟨4,[49],0,[],false⟩,tA])=some true:=ZT 60 _ _ (by decide+kernel)
theorem w3:zW ([49,47,42,42,47,37],[⟨10,[],1000,[],true⟩,⟨9,[37],0,[],false⟩])=some true:=ZT 60 _ _ (by decide+kernel)
theorem w4:zW ([47,47,42,42,47,42],[⟨9,[47],0,[],false⟩,⟨9,[42],0,[],false⟩])=some true:=ZT 60 _ _ (by decide+kernel)
theorem w5:zW ([60,33,47,42,42,47,45,45],[⟨9,[60],0,[],false⟩,⟨9,[33],0,[],false⟩,⟨1,[45,45],0,[],false⟩])=some true:=ZT 60 _ _ (by decide+kernel)
theorem w6:zW ([49,101,47,42,42,47,51],[⟨12,[],1000,[101],true⟩,⟨10,[],3000,[],true⟩])=some true:=ZT 60 _ _ (by decide+kernel)
theorem w7:zW ([97,92,10],[tA,⟨9,[92],0,[],false⟩,tS])=some true:=ZT 60 _ _ (by decide+kernel)
theorem w8:zW ([117,114,108,40,32,34,120,34],[⟨2,[117,114,108],0,[],false⟩,tS,⟨5,[120],0,[],false⟩])=some true:=ZT 60 _ _ (by decide+kernel)
theorem c1:Kl [⟨9,[92],0,[],false⟩]=some 8:=mG 60 _ _ (by decide+kernel)
theorem c2:Kl [⟨2,[85,114,108],0,[],false⟩,tS]=some 8:=mG 60 _ _ (by decide+kernel)
def partT(r:Nat)(p:Bool):Str:=bif (Nh r).isEmpty then(bif p then [48]else [])else Nh r
theorem Yi{r:Nat}(h:r<1000)(p:Bool):(partT r p).all digB=true/\(partT r p).length<=3/\valG 0 (partT r p)*10 ^ (3 - (partT r p).length)=r/\yj r p=(bif (partT r p).isEmpty then []else 46::partT r p)/\((partT r p).isEmpty=((r==0)&& !p)):=by
 have f:=PE r h;simp only[vv,Ba,Jb,Sa]at f;obtain⟨⟨⟨⟨a,b⟩,c⟩,d⟩,e⟩:=f;unfold partT yj;cases g:(Nh r).isEmpty with
 |true=>
  have i:r=0:=by rw[g]at d;exact Sa.1 d.symm
  subst i;cases p<;>refine⟨by decide,by decide,by decide,rfl,rfl⟩
 |false=>
  grind
theorem NJ{l:Str}(h:(l.all fun b=>digB b||b==46)=true):Vg l=true:=by
 unfold Vg;rw[Ub]at h ⊢;intro b hb;have:=h b hb;refine La ?_;rw[Pb]at this;rcases this with h1|h1
 ·have:=Gq h1;omega
 simp_all
theorem KJ{m:Nat}(p:Bool):((uf m p).all fun b=>digB b||b==46)=true:=by
 obtain⟨d,_,_⟩:=di (m / 1000);obtain⟨g,_,_,e,_⟩:=Yi (r:=m%1000) (by omega) p;have f: ∀l:Str,l.all digB=true->(l.all fun b=>digB b||b==46)=true:=by intro l a;rw[Ub]at a ⊢;intro b c;rw[a b c];rfl
 unfold uf
 grind
theorem Ru(u:Nat): ∃c r,Lib.decDigits u=c::r/\digB c=true:=by
 obtain⟨b,_,a⟩:=di u;cases h:Lib.decDigits u with
 |nil=>exact absurd h a
 |cons c r=>grind
theorem qd{c:UInt8}(h:digB c=true):c≠45/\c≠43/\c≠46/\c≠0/\List.contains [43,45] c=false:=by
 have: ∀n:Nat,n<256->digB (UInt8.ofNat n)=true->UInt8.ofNat n≠45/\UInt8.ofNat n≠43/\UInt8.ofNat n≠46/\UInt8.ofNat n≠0/\List.contains [43,45] (UInt8.ofNat n)=false:=by decide+kernel
 have:=this c.toNat (ma c);simp_all
theorem PU{m:Nat}(p:Bool): ∃f,Lib.cut (uf m p) [46]=(Lib.decDigits (m / 1000),partT (m%1000) p,f):=by
 obtain⟨a,_,_⟩:=di (m / 1000);obtain⟨_,_,_,b,_⟩:=Yi (r:=m%1000) (by omega) p;unfold uf Lib.cut;rw[Xz,b];cases c:(partT (m%1000) p).isEmpty with
 |true=> rw[Ha,Xa,YD _ a,Fa (by decide)];simp_all
 |false=> rw[Ja,aD _ _ a,Ea (by omega)];simp_all
theorem K7{n:Int}(S: -1000000000000<=n)(h2:n<=1000000000000)(p:Bool):Zl (numT n p)=some n:=by
 obtain⟨m,B⟩: ∃m:Nat,n.natAbs=m:=⟨_,rfl⟩;have k:m<=1000000000000:=by omega
 obtain⟨c,r,E,y⟩:=Ru (m / 1000);obtain⟨h,C,_,_,t⟩:=qd y;have d:uf m p=c::(r++yj (m%1000) p):=by unfold uf;rw[E];rfl
 have A:=Py k p;obtain⟨f,j⟩:=PU (m:=m) p;obtain⟨X,L,Y⟩:=di (m / 1000);obtain⟨T,U,K,V,W⟩:=Yi (r:=m%1000) (by omega) p;have H:=gF (u:=m / 1000) (by omega);have o:short (uf m p)=true:=La (by omega);have w:Lib.trimLeftS (uf m p) [43,45]=uf m p:=by rw[d];unfold Lib.trimLeftS;rw[List.dropWhile_cons,t];rfl
 have J:Lib.trimLeftS (numT n p) [43,45]=uf m p:=by
  unfold numT;rw[B];by_cases g:n<0
  ·rw[Ea g];show List.dropWhile _ (45::uf m p)=_;simp_all
  ·grind
 have Q: ∃b,geti (numT n p) 0=some b/\(((b.toNat:Int)==45)=decide (n<0)):=by
  unfold numT;rw[B];by_cases g:n<0
  ·rw[Ea g,La g];exact⟨45,rfl,rfl⟩
  ·rw[Fa g,Ob g];refine⟨c,by rw[d];rfl,Da.2 (fun e=>h ?_)⟩;exact Oe.1 (by grind)
 obtain⟨b,x,z⟩:=Q;unfold Zl;simp only[ze,x,Aa];have O:Wh (numT n p,[43,45])=some (uf m p):=by unfold Wh;rw[zG (show(short ([43,45]:Str)&&Vg [43,45])=true by decide)];exact congrArg some J
 have M:Qw (uf m p,[101,69])=some (-1):=by unfold Qw;rw[zG (by simp only[o,NJ (KJ p),Vb,Nb];decide)];exact congrArg some (VD _ (KJ p))
 have P:cutF (uf m p,[46])=some (Lib.decDigits (m / 1000),partT (m%1000) p,f):=by unfold cutF;rw[zG (by exact o)];exact congrArg some j
 simp only[O,M,Aa,show decide ((-1:Int)>=0)=false from rfl,Ja,zh,P];rw[zG (Tu.2 (by omega))];have N:w64 (3 - ((partT (m%1000) p).length:Int))=((3 - (partT (m%1000) p).length:Nat):Int):=by rw[zZ (by omega) (by omega)];omega
 rw[N,Ob (by omega),Ja,zh];simp only;have D:maxLen=9223372036854775807:=rfl;rw[zG (La (by grind))];have q:valG 0 (Lib.decDigits (m / 1000)++partT (m%1000) p)*10 ^ (3 - (partT (m%1000) p).length)=m:=by rw[Fy,L,Xk,Yd,K,bf,<-Nat.pow_add,show(partT (m%1000) p).length+(3 - (partT (m%1000) p).length)=3 by omega];omega
 have s:valG 0 (Lib.decDigits (m / 1000)++partT (m%1000) p)<=1000000000000:=by have:=Vd (valG 0 (Lib.decDigits (m / 1000)++partT (m%1000) p)) (Bf (n:=3 - (partT (m%1000) p).length) (show 0<10 by omega));omega
 rw[qP (JU (l:=Lib.decDigits (m / 1000)++partT (m%1000) p) (by grind) (by grind) s (fun v i R=> ?_) (fun v=> ?_))]
 ·rw[qP (PY (by omega) (by grind) (fun a b=> ?_)),q]
  ·rw[z];by_cases g:n<0
   ·rw[La g,Ha,zh,zZ (by omega) (by omega)];congr 1;omega
   ·rw[Ob g,Ja,zh];congr 1;omega
  ·simp only
 ·have F:decide ((i:Int)<((Lib.decDigits (m / 1000)++partT (m%1000) p).length:Int))=true:=La (by omega);have G:decide ((0:Int)<=(i:Int))=true:=La (by omega);simp only[F,G,Ha,Vb,qg,Yb,Ua R,Aa]
 ·grind
theorem YS(n:Int)(p:Bool):(n<0/\numT n p=45::uf n.natAbs p)\/(¬n<0/\numT n p=uf n.natAbs p):=by
 unfold numT
 grind
theorem sW(m:Nat)(p:Bool): ∃c r,uf m p=c::r/\digB c=true:=by obtain⟨c,r,h,a⟩:=Ru (m / 1000);exact⟨c,r++yj (m%1000) p,by unfold uf;rw[h];rfl,a⟩
theorem Nr{n:Int}(b: -1000000000000<=n)(h2:n<=1000000000000)(p:Bool):(numT n p).length<=25/\1<=(numT n p).length:=by
 have:=Py (m:=n.natAbs) (by omega) p;obtain⟨c,r,a,_⟩:=sW n.natAbs p;rcases YS n p with⟨_,h⟩|⟨_,h⟩
 ·grind
 grind
end Go.Lv.VT
