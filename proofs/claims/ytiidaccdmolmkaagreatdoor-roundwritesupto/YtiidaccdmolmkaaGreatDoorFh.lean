import Derived.Test.YtiidaccdmolmkaaGreatDoorGl
set_option linter.all false
namespace Go.Proofs.YtiidaccdmolmkaaGreatDoor.roundWrites
open Go.ChangeShapes Go.WideShapes Go.ChangeAt Go.RowKit Go.Lv
set_option maxRecDepth 100000
def w33:Tryz.pinned.checked.prog.wantsStandIn 33=false:=by kernel_rfl
def w35:Tryz.pinned.checked.prog.wantsStandIn 35=false:=by kernel_rfl
def plain(f:FuncId)(fn:Func)(hf:Tryz.pinned.checked.prog.funcNamed "vitrine/vitrinelaw12.RoundWrites" =some f)(a:Tryz.pinned.checked.prog.funcs[f]? =some fn):
  true=Tryz.pinned.checked.prog.looks []/\ ∀(j:Nat) t,fn.params[j]? =some t->Tryz.pinned.checked.prog.wantsStandIn t=false:=by
 obtain rfl:f=3:=Option.some.inj ((show Tryz.prog.funcNamed "vitrine/vitrinelaw12.RoundWrites" =some 3 by kernel_rfl).symm.trans hf) |>.symm;obtain rfl:fn=Tryz.f3:=(Option.some.inj (Tryz.func3.symm.trans a)).symm;refine⟨by kernel_rfl,λj t ht=> ?_⟩;rw[Tryz.params3]at ht
 match j with
 |0=>cases ht;exact w33
 |1=>cases ht;exact w35
 |_+2=>simp at ht
end Go.Proofs.YtiidaccdmolmkaaGreatDoor.roundWrites
