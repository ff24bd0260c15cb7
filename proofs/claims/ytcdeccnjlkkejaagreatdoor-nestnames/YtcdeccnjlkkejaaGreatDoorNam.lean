/- Tokens that can be written: the program's check. -/
import Derived.Test.YtcdeccnjlkkejaaGreatDoorLaw
set_option linter.unusedSimpArgs false
set_option linter.unusedVariables false
namespace Go.Lv.VT
def RH(t:zf):Bool:=t.kind==2&&lowS t.text==[117,114,108]
set_option maxRecDepth 100000
theorem bE(c:UInt8)(r:Str):Zx (c::r)=if letB c then((c::(Zx r).1),(Zx r).2)
  else if escS (c::r)then((Zc r).1++(Zx (Zc r).2).1,(Zx (Zc r).2).2)
  else([],c::r):=by rw[Zx]
theorem JN:Zx []=([],[]):=by rw[Zx]
theorem Uj(l:Str):(Zx l).2<:+l:=by
 match l with
 |[]=>rw[JN];grind
 |c::r=>
  rw[bE];split
  ·exact(Uj r).trans (Wd c r)
  ·split
   ·have:=Qe r;exact(Uj (Zc r).2).trans ((jl r).trans (Wd c r))
   grind
termination_by l.length
decreasing_by
 all_goals grind
end Go.Lv.VT
