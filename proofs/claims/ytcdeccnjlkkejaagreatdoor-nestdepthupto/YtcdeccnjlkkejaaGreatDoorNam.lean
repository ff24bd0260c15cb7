/- Tokens that can be written: the program's check. -/
import Derived.Test.YtcdeccnjlkkejaaGreatDoorLaw
set_option linter.unusedSimpArgs false
set_option linter.unusedVariables false
namespace Go.Lv.VT
def iI(t:ze):Bool:=t.kind==2&&lowS t.text==[117,114,108]
set_option maxRecDepth 100000
theorem yF(c:UInt8)(r:Str):ZA (c::r)=if letB c then((c::(ZA r).1),(ZA r).2)
  else if escS (c::r)then((Zb r).1++(ZA (Zb r).2).1,(ZA (Zb r).2).2)
  else([],c::r):=by rw[ZA]
theorem XO:ZA []=([],[]):=by rw[ZA]
theorem Wj(l:Str):(ZA l).2<:+l:=by
 match l with
 |[]=>rw[XO];exact Ad _
 |c::r=>
  rw[yF];split
  ·exact(Wj r).trans (Wd c r)
  ·split
   ·have:=ZG r;exact(Wj (Zb r).2).trans ((Mm r).trans (Wd c r))
   ·exact Ad _
termination_by l.length
decreasing_by
 all_goals first|(have:=ZG r;simp only[Sa];omega)|(simp only[Sa];omega)
end Go.Lv.VT
