/- The reading of tokens: what the program's text and the reference's come to. -/
import Derived.Test.YtcdeccnjlkkejaaGreatDoorTy
import Derived.Test.YtcdeccnjlkkejaaGreatDoorMo
import Derived.Test.YtcdeccnjlkkejaaGreatDoorTx
set_option linter.unusedSimpArgs false
set_option linter.unusedVariables false
namespace Go.Lv.VT
def atS(l:Str)(n:Nat):UInt8:=l.getD n 0
def digB(b:UInt8):Bool:=decide (48<=b.toNat)&&decide (b.toNat<=57)
def spB(b:UInt8):Bool:=b==10||b==9||b==32
def alB(b:UInt8):Bool:=decide (65<=b.toNat)&&decide (b.toNat<=90)||decide (97<=b.toNat)&&decide (b.toNat<=122)
def fstB(b:UInt8):Bool:=alB b||b==95||decide (128<=b.toNat)
def letB(b:UInt8):Bool:=fstB b||digB b||b==45
def hexN(b:UInt8):Nat:=
 if digB b then b.toNat - 48 else if 97<=b.toNat/\b.toNat<=102 then b.toNat - 87 else if 65<=b.toNat/\b.toNat<=70 then b.toNat - 55 else 16
def nu(b:UInt8):Bool:=decide (hexN b<16)
def escS(l:Str):Bool:=atS l 0==92&& !(atS l 1==10)
def nmS(l:Str):Bool:=if atS l 0==45 then fstB (atS l 1)||atS l 1==45||escS (l.drop 1)else fstB (atS l 0)||escS l
def Km(b:UInt8):Bool:=b==43||b==45
def unsign(l:Str):Str:=if Km (atS l 0)then l.drop 1 else l
def undot(l:Str):Str:=if atS l 0==46 then l.drop 1 else l
def nbS(l:Str):Bool:=digB (atS (undot (unsign l)) 0)
def JA:Str:=[239,191,189]
def LA(n:Nat):Str:=
 if n=0\/(55296<=n/\n<=57343)\/1114111<n then JA
 else if n<128 then [UInt8.ofNat n]
 else if n<2048 then [UInt8.ofNat (192+n / 64),UInt8.ofNat (128+n%64)]
 else if n<65536 then [UInt8.ofNat (224+n / 4096),UInt8.ofNat (128+n / 64%64),UInt8.ofNat (128+n%64)]
 else [UInt8.ofNat (240+n / 262144),UInt8.ofNat (128+n / 4096%64),UInt8.ofNat (128+n / 64%64),UInt8.ofNat (128+n%64)]
def hexes:Nat->Nat->Str->Nat×Str
 |0,n,l=>(n,l)
 |_+1,n,[]=>(n,[])
 |k+1,n,c::r=>if nu c then hexes k (16*n+hexN c) r else(n,c::r)
def unsp:Str->Str
 |[]=>[]
 |c::r=>if spB c then r else c::r
def Zc:Str->Str×Str
 |[]=>(JA,[])
 |c::r=>if nu c then(LA (hexes 6 0 (c::r)).1,unsp (hexes 6 0 (c::r)).2)else([c],r)
theorem dD: ∀(k n:Nat) (l:Str),(hexes k n l).2<:+l
 |0,n,l=>Ef l
 |k+1,n,[]=>Ef _
 |k+1,n,c::r=>by
  unfold hexes;split
  ·exact(dD k _ r).trans (Wd c r)
  grind
theorem gI(l:Str):unsp l<:+l:=by
 cases l with
 |nil=>exact Ef _
 |cons c r=>
  show(if spB c then r else c::r)<:+c::r
  grind
theorem jl(l:Str):(Zc l).2<:+l:=by
 cases l with
 |nil=>exact Ef _
 |cons c r=>
  show(if nu c then(LA (hexes 6 0 (c::r)).1,unsp (hexes 6 0 (c::r)).2)else([c],r)).2<:+c::r;split
  ·exact(gI _).trans (dD 6 0 _)
  grind
theorem Qe(l:Str):(Zc l).2.length<=l.length:=(jl l).length_le
def Zx:Str->Str×Str
 |[]=>([],[])
 |c::r=>
  if letB c then((c::(Zx r).1),(Zx r).2)
  else if escS (c::r)then((Zc r).1++(Zx (Zc r).2).1,(Zx (Zc r).2).2)
  else([],c::r)
termination_by l=>l.length
decreasing_by
 all_goals first|(have:=Qe r;simp only[Ob];omega)|(simp only[Ob];omega)
def past(p:UInt8->Bool):Str->Str
 |[]=>[]
 |c::r=>if p c then past p r else c::r
theorem jr(p:UInt8->Bool): ∀l:Str,past p l<:+l
 |[]=>Ef _
 |c::r=>by
  unfold past;split
  ·exact(jr p r).trans (Wd c r)
  grind
def Vg(l:Str):Str×Bool:=
 if atS l 0==46&&digB (atS l 1)then(past digB (l.drop 1),false)else(l,true)
def expS(l:Str):Option Str:=
 if atS l 0==101||atS l 0==69 then(if digB (atS (unsign (l.drop 1)) 0)then some (past digB (unsign (l.drop 1)))else none)else none
def Qh(l:Str):Str×Bool:=
 let x:=Vg (past digB (unsign l))
 match expS x.1 with
 |some r=>(r,false)
 |none=>x
def decN(n:Nat)(b:UInt8):Nat:=10*n+(b.toNat - 48)
def qL(m:UInt8):Str->Option Str×Str
 |[]=>(some [],[])
 |c::r=>
  if c==m then(some [],r)
  else if c==10 then(none,c::r)
  else if c==92 then
   (if r.isEmpty then(some [],[])
   else if atS r 0==10 then qL m (r.drop 1)
   else((qL m (Zc r).2).1.map ((Zc r).1++ ·),(qL m (Zc r).2).2))
  else((qL m r).1.map (c:: ·),(qL m r).2)
termination_by l=>l.length
decreasing_by
 all_goals first|(have:=Qe r;simp only[Ob];omega)|(simp only[Ob,Ud];omega)
def badS:Str->Str
 |[]=>[]
 |c::r=>if c==41 then r else if escS (c::r)then badS (Zc r).2 else badS r
termination_by l=>l.length
decreasing_by
 all_goals first|(have:=Qe r;simp only[Ob];omega)|(simp only[Ob];omega)
def unB(b:UInt8):Bool:=decide (b.toNat<=8)||b==11||decide (14<=b.toNat)&&decide (b.toNat<=31)||b==127
def urlS:Str->Option Str×Str
 |[]=>(some [],[])
 |c::r=>
  if c==41 then(some [],r)
  else if spB c then(match past spB r with
   |[]=>(some [],[])
   |d::r'=>if d==41 then(some [],r')else(none,badS (d::r')))
  else if c==34||c==39||c==40||unB c||c==92&& !escS (c::r)then(none,badS (c::r))
  else if c==92 then((urlS (Zc r).2).1.map ((Zc r).1++ ·),(urlS (Zc r).2).2)
  else((urlS r).1.map (c:: ·),(urlS r).2)
termination_by l=>l.length
decreasing_by
 all_goals first|(have:=Qe r;simp only[Ob];omega)|(simp only[Ob];omega)
def Hq(b:UInt8):Int:=
 if b==58 then 16 else if b==59 then 17 else if b==44 then 18 else if b==91 then 19 else if b==93 then 20 else if b==40 then 21 else if b==41 then 22 else if b==123 then 23 else if b==125 then 24 else 0
def Ei(k:Int):zf:=⟨k,[],0,[],false⟩
def gu:Nat:=1000000000000
def dA:Nat->Nat->Nat
 |0,n=>n
 |k+1,n=>if n=0\/gu<=n then n else dA k (min gu (10*n))
set_option maxRecDepth 100000
abbrev sc(s:Str)(k:Nat):za:=⟨s,(k:Int)⟩
theorem IC(l:Str)(k n:Nat):atS (l.drop k) n=atS l (k+n):=by
 unfold atS
 grind
theorem XI{l:Str}{n:Nat}(h:atS l n≠0):n<l.length:=by
 rcases Jc n l.length with h'|h'
 ·exact h'
 ·exact absurd (by unfold atS;grind) h
def d48(k:Nat):UInt8:=UInt8.ofNat (48+k)
def vz(r:Nat):Str:=Lib.trimRightB [d48 (r / 100),d48 (r / 10%10),d48 (r%10)] 48
def xG(r:Nat)(p:Bool):Str:=bif (vz r).isEmpty then(bif p then [46,48]else [])else 46::vz r
def VH(m:Nat)(p:Bool):Str:=Lib.decDigits (m / 1000)++xG (m%1000) p
def numT(n:Int)(p:Bool):Str:=(if n<0 then [45]else [])++VH n.natAbs p
def BI(n:Nat):Nat:=if 65<=n/\n<=90 then n+32 else n
def DI(b:UInt8):UInt8:=UInt8.ofNat (BI b.toNat)
def lowS(l:Str):Str:=l.map DI
def Vh(l:Str):Bool:=l.all fun b=> !(b==0)
def bH(n:Nat):Bool:=
 !(n==0||n==9||n==10||n==12||n==13||n==32||n==34||n==39||n==40||n==41||n==44||n==58||n==59||n==91||n==93||n==95||n==123||n==125)&&
  (decide (n<128)&& !((decide (48<=n)&&decide (n<=57))||(decide (65<=n)&&decide (n<=90))||(decide (97<=n)&&decide (n<=122))))
def digN(n:Nat):Bool:=decide (48<=n)&&decide (n<=57)
def WI:Str->Bool
 |[]=>false
 |b::r=>digN b.toNat||(b==45&&(r==[]||digN (r.headD 0).toNat))
def numS:Str->Bool
 |[]=>false
 |b::r=>bif b==45 then !(r==[])&&digN (r.headD 0).toNat else digN b.toNat
end Go.Lv.VT
