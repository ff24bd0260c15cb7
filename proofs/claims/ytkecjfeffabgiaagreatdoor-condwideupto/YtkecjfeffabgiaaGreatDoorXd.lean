/- GlueNumbers holds. -/
import Derived.Test.YtkecjfeffabgiaaGreatDoorXc
set_option linter.unusedSimpArgs false
set_option linter.unusedVariables false
namespace Go.Lv.VT
set_option maxRecDepth 100000
def capF(cap:Nat):Nat->Str->Nat
 |n,[]=>n
 |n,c::r=>capF cap (min cap (decN n c)) r
structure NumP where
 sg:Str
 D:Str
 F:Option Str
 X:Option (UInt8×Str×Str)
def dotS:Option Str->Str
 |none=>[]
 |some f=>46::f
def expT:Option (UInt8×Str×Str)->Str
 |none=>[]
 |some (e,s,x)=>e::(s++x)
def NumP.txt(n:NumP):Str:=n.sg++(n.D++(dotS n.F++expT n.X))
def sgB(s:Str):Bool:=s==[]||s==[43]||s==[45]
def NumP.ok(n:NumP):Bool:=sgB n.sg&&n.D.all digB&&(match n.F with|none=> !n.D.isEmpty|some f=> !f.isEmpty&&f.all digB)&&
 (match n.X with|none=>true|some (e,s,x)=>(e==101||e==69)&&sgB s&& !x.isEmpty&&x.all digB)
def expV:Option (UInt8×Str×Str)->Int
 |none=>0
 |some (_,s,x)=>if s==[45]then -((capF 1048576 0 x:Nat):Int)else((capF 1048576 0 x:Nat):Int)
def thoV(A:Str)(p:Int):Nat:=RG p.toNat (capF jy 0 (if p<0 then A.take ((A.length:Int)+p).toNat else A))
def NumP.val(n:NumP):Int:=
 let v:=thoV (n.D++n.F.getD []) (3+expV n.X - ((n.F.getD []).length:Int))
 if n.sg==[45]then -(v:Int)else(v:Int)
theorem Tv{l:Str}(h: ∀b∈l,b.toNat<128):Sj l=true:=by
 unfold Sj
 grind
theorem NK(c:UInt8)(r:Str):qm (c::r)=if letB c then((c::(qm r).1),(qm r).2)
  else if escS (c::r)then((ZA r).1++(qm (ZA r).2).1,(qm (ZA r).2).2)
  else([],c::r):=by rw[qm]
theorem lV:qm []=([],[]):=by rw[qm]
theorem Ak(l:Str):(qm l).2<:+l:=by
 match l with
 |[]=>rw[lV];grind
 |c::r=>
  rw[NK];split
  ·exact(Ak r).trans (Vd c r)
  ·split
   ·have:=Fj r;exact(Ak (ZA r).2).trans ((bn r).trans (Vd c r))
   grind
termination_by l.length
decreasing_by
 all_goals grind
def escC(c:UInt8):Str:=bif decide (32<c.toNat)&&decide (c.toNat<127)&& !digB c&& !alB c then [92,c]else 92::(hexS c.toNat++[32])
def pcW(dash:Bool)(k:Nat)(c:UInt8):Str:=bif letB c&&(k==0|| !digB c)&& !dash then [c]else escC c
def encW(dash:Bool):Nat->Str->Str
 |_,[]=>[]
 |k,c::r=>pcW dash k c++encW dash (k - 1) r
def uO(l:Str):Nat:=if [45].isPrefixOf l then 2 else 1
def Ol(l:Str):Str:=encW (l==[45]) (uO l) l
theorem kW(m:UInt8):rf m []=(some [],[]):=by rw[rf]
theorem CX(m c:UInt8)(r:Str):rf m (c::r)=if c==m then(some [],r)
  else if c==10 then(none,c::r)
  else if c==92 then
   (if r.isEmpty then(some [],[])
   else if atS r 0==10 then rf m (r.drop 1)
   else((rf m (ZA r).2).1.map ((ZA r).1++ ·),(rf m (ZA r).2).2))
  else((rf m r).1.map (c:: ·),(rf m r).2):=by rw[rf]
theorem Pw(m:UInt8)(l:Str):(rf m l).2<:+l:=by
 match l with
 |[]=>rw[kW];grind
 |c::r=>
  rw[CX];have a:=Vd c r;split
  ·exact a
  ·split
   ·grind
   ·split
    ·split
     ·grind
     ·split
      ·exact(Pw m (r.drop 1)).trans ((Oe 1 r).trans a)
      ·have:=Fj r;exact(Pw m (ZA r).2).trans ((bn r).trans a)
    ·exact(Pw m r).trans a
termination_by l.length
decreasing_by
 all_goals grind
def WG:Option Str->zk
 |some t=>⟨5,t,0,[],false⟩
 |none=>⟨6,[],0,[],false⟩
theorem rR:badS []=[]:=by rw[badS]
theorem rV(c:UInt8)(r:Str):badS (c::r)=if c==41 then r else if escS (c::r)then badS (ZA r).2 else badS r:=by rw[badS]
theorem Kv(l:Str):badS l<:+l:=by
 match l with
 |[]=>rw[rR];grind
 |c::r=>
  rw[rV];have a:=Vd c r;split
  ·exact a
  ·split
   ·have:=Fj r;exact(Kv (ZA r).2).trans ((bn r).trans a)
   ·exact(Kv r).trans a
termination_by l.length
decreasing_by
 all_goals grind
theorem mQ:urlS []=(some [],[]):=by rw[urlS]
theorem BS(c:UInt8)(r:Str):urlS (c::r)=if c==41 then(some [],r)
  else if spB c then(match past spB r with
   |[]=>(some [],[])
   |d::a=>if d==41 then(some [],a)else(none,badS (d::a)))
  else if c==34||c==39||c==40||unB c||c==92&& !escS (c::r)then(none,badS (c::r))
  else if c==92 then((urlS (ZA r).2).1.map ((ZA r).1++ ·),(urlS (ZA r).2).2)
  else((urlS r).1.map (c:: ·),(urlS r).2):=by rw[urlS];grind
theorem BA(l:Str):(urlS l).2<:+l:=by
 match l with
 |[]=>rw[mQ];grind
 |c::r=>
  rw[BS];have a:=Vd c r;split
  ·exact a
  ·split
   ·have b:=(Wv spB r).trans a;cases e:past spB r with
    |nil=>grind
    |cons d f=>
     rw[e]at b;simp only;split
     ·exact(Vd d f).trans b
     ·exact(Kv _).trans b
   ·split
    ·exact Kv _
    ·split
     ·have:=Fj r;exact(BA (ZA r).2).trans ((bn r).trans a)
     ·exact(BA r).trans a
termination_by l.length
decreasing_by
 all_goals grind
def BP:Option Str->zk
 |some t=>⟨7,t,0,[],false⟩
 |none=>⟨8,[],0,[],false⟩
end Go.Lv.VT
