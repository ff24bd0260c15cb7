/- GlueNumbers holds. -/
import Derived.Test.YtkecjfeffabgiaaGreatDoorXc
set_option linter.unusedSimpArgs false
set_option linter.unusedVariables false
namespace Go.Lv.VT
set_option maxRecDepth 100000
def capF(cap:Nat):Nat->Str->Nat
 |n,[]=>n
 |n,c::r=>capF cap (min cap (decN n c)) r
structure NumP where
 sg:Str
 D:Str
 F:Option Str
 X:Option (UInt8×Str×Str)
def dotS:Option Str->Str
 |none=>[]
 |some f=>46::f
def expT:Option (UInt8×Str×Str)->Str
 |none=>[]
 |some (e,s,x)=>e::(s++x)
def NumP.txt(n:NumP):Str:=n.sg++(n.D++(dotS n.F++expT n.X))
def sgB(s:Str):Bool:=s==[]||s==[43]||s==[45]
def NumP.ok(n:NumP):Bool:=sgB n.sg&&n.D.all digB&&(match n.F with|none=> !n.D.isEmpty|some f=> !f.isEmpty&&f.all digB)&&
 (match n.X with|none=>true|some (e,s,x)=>(e==101||e==69)&&sgB s&& !x.isEmpty&&x.all digB)
def expV:Option (UInt8×Str×Str)->Int
 |none=>0
 |some (_,s,x)=>if s==[45]then -((capF 1048576 0 x:Nat):Int)else((capF 1048576 0 x:Nat):Int)
def thoV(A:Str)(p:Int):Nat:=bR p.toNat (capF xH 0 (if p<0 then A.take ((A.length:Int)+p).toNat else A))
def NumP.val(n:NumP):Int:=
 let v:=thoV (n.D++n.F.getD []) (3+expV n.X - ((n.F.getD []).length:Int))
 if n.sg==[45]then -(v:Int)else(v:Int)
theorem Dy{l:Str}(h: ∀b∈l,b.toNat<128):Uk l=true:=by
 unfold Uk
 grind
theorem jL(c:UInt8)(r:Str):qF (c::r)=if letB c then((c::(qF r).1),(qF r).2)
  else if escS (c::r)then((ZL r).1++(qF (ZL r).2).1,(qF (ZL r).2).2)
  else([],c::r):=by rw[qF]
theorem yV:qF []=([],[]):=by rw[qF]
theorem Dl(l:Str):(qF l).2<:+l:=by
 match l with
 |[]=>rw[yV];grind
 |c::r=>
  rw[jL];split
  ·exact(Dl r).trans (Vd c r)
  ·split
   ·have:=Wj r;exact(Dl (ZL r).2).trans ((Gp r).trans (Vd c r))
   grind
termination_by l.length
decreasing_by
 all_goals grind
def escC(c:UInt8):Str:=bif decide (32<c.toNat)&&decide (c.toNat<127)&& !digB c&& !alB c then [92,c]else 92::(hexS c.toNat++[32])
def pcW(dash:Bool)(k:Nat)(c:UInt8):Str:=bif letB c&&(k==0|| !digB c)&& !dash then [c]else escC c
def encW(dash:Bool):Nat->Str->Str
 |_,[]=>[]
 |k,c::r=>pcW dash k c++encW dash (k - 1) r
def zCk(l:Str):Nat:=if [45].isPrefixOf l then 2 else 1
def Km(l:Str):Str:=encW (l==[45]) (zCk l) l
theorem EX(m:UInt8):mf m []=(some [],[]):=by rw[mf]
theorem WX(m c:UInt8)(r:Str):mf m (c::r)=if c==m then(some [],r)
  else if c==10 then(none,c::r)
  else if c==92 then
   (if r.isEmpty then(some [],[])
   else if atS r 0==10 then mf m (r.drop 1)
   else((mf m (ZL r).2).1.map ((ZL r).1++ ·),(mf m (ZL r).2).2))
  else((mf m r).1.map (c:: ·),(mf m r).2):=by rw[mf]
theorem Xy(m:UInt8)(l:Str):(mf m l).2<:+l:=by
 match l with
 |[]=>rw[EX];grind
 |c::r=>
  rw[WX];have a:=Vd c r;split
  ·exact a
  ·split
   ·grind
   ·split
    ·split
     ·grind
     ·split
      ·exact(Xy m (r.drop 1)).trans ((Ue 1 r).trans a)
      ·have:=Wj r;exact(Xy m (ZL r).2).trans ((Gp r).trans a)
    ·exact(Xy m r).trans a
termination_by l.length
decreasing_by
 all_goals grind
def mR:Option Str->zf
 |some t=>⟨5,t,0,[],false⟩
 |none=>⟨6,[],0,[],false⟩
theorem NS:badS []=[]:=by rw[badS]
theorem sU(c:UInt8)(r:Str):badS (c::r)=if c==41 then r else if escS (c::r)then badS (ZL r).2 else badS r:=by rw[badS]
theorem xw(l:Str):badS l<:+l:=by
 match l with
 |[]=>rw[NS];grind
 |c::r=>
  rw[sU];have a:=Vd c r;split
  ·exact a
  ·split
   ·have:=Wj r;exact(xw (ZL r).2).trans ((Gp r).trans a)
   ·exact(xw r).trans a
termination_by l.length
decreasing_by
 all_goals grind
theorem zAA:urlS []=(some [],[]):=by rw[urlS]
theorem WS(c:UInt8)(r:Str):urlS (c::r)=if c==41 then(some [],r)
  else if spB c then(match past spB r with
   |[]=>(some [],[])
   |d::a=>if d==41 then(some [],a)else(none,badS (d::a)))
  else if c==34||c==39||c==40||unB c||c==92&& !escS (c::r)then(none,badS (c::r))
  else if c==92 then((urlS (ZL r).2).1.map ((ZL r).1++ ·),(urlS (ZL r).2).2)
  else((urlS r).1.map (c:: ·),(urlS r).2):=by rw[urlS];grind
theorem uB(l:Str):(urlS l).2<:+l:=by
 match l with
 |[]=>rw[zAA];grind
 |c::r=>
  rw[WS];have a:=Vd c r;split
  ·exact a
  ·split
   ·have b:=(Rx spB r).trans a;cases e:past spB r with
    |nil=>grind
    |cons d f=>
     rw[e]at b;simp only;split
     ·exact(Vd d f).trans b
     ·exact(xw _).trans b
   ·split
    ·exact xw _
    ·split
     ·have:=Wj r;exact(uB (ZL r).2).trans ((Gp r).trans a)
     ·exact(uB r).trans a
termination_by l.length
decreasing_by
 all_goals grind
def zCY:Option Str->zf
 |some t=>⟨7,t,0,[],false⟩
 |none=>⟨8,[],0,[],false⟩
end Go.Lv.VT
