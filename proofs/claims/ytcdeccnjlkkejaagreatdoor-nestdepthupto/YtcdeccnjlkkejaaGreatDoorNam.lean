/- Tokens that can be written: the program's check. -/
import Derived.Test.YtcdeccnjlkkejaaGreatDoorLaw
set_option linter.unusedSimpArgs false
set_option linter.unusedVariables false
namespace Go.Lv.VT
def kI(t:ze):Bool:=t.kind==2&&lowS t.text==[117,114,108]
set_option maxRecDepth 100000
theorem CG(c:UInt8)(r:Str):ZA (c::r)=if letB c then((c::(ZA r).1),(ZA r).2)
  else if escS (c::r)then((Zb r).1++(ZA (Zb r).2).1,(ZA (Zb r).2).2)
  else([],c::r):=by rw[ZA]
theorem bO:ZA []=([],[]):=by rw[ZA]
theorem Yj(l:Str):(ZA l).2<:+l:=by
 match l with
 |[]=>rw[bO];exact Ud _
 |c::r=>
  rw[CG];split
  ·exact(Yj r).trans (Be c r)
  ·split
   ·have:=ZG r;exact(Yj (Zb r).2).trans ((Pm r).trans (Be c r))
   ·exact Ud _
termination_by l.length
decreasing_by
 all_goals first|(have:=ZG r;simp only[Ta];omega)|(simp only[Ta];omega)
end Go.Lv.VT
