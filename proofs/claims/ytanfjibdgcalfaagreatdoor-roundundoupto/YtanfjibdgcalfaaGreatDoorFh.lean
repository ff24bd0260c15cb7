/- RoundUndo: closed facts of the card. -/
import Derived.Test.YtanfjibdgcalfaaGreatDoorGl
set_option linter.unusedSimpArgs false
set_option linter.unusedVariables false
namespace Go.Proofs.YtanfjibdgcalfaaGreatDoor.roundUndo
open Go.ChangeShapes Go.WideShapes Go.ChangeAt Go.RowKit Go.Lv
set_option maxRecDepth 100000
theorem w3:Tryz.pinned.checked.prog.wantsStandIn 3=false:=by kernel_rfl
theorem w25:Tryz.pinned.checked.prog.wantsStandIn 25=false:=by kernel_rfl
theorem w39:Tryz.pinned.checked.prog.wantsStandIn 39=false:=by kernel_rfl
theorem plain(f:FuncId)(fn:Func)(hf:Tryz.pinned.checked.prog.funcNamed "vitrine/vitrinelaw12.RoundUndo" =some f)(hfn:Tryz.pinned.checked.prog.funcs[f]? =some fn):
  true=Tryz.pinned.checked.prog.looks []/\ ∀(j:Nat) t,fn.params[j]? =some t->Tryz.pinned.checked.prog.wantsStandIn t=false:=by
 obtain rfl:f=4:=Option.some.inj ((show Tryz.prog.funcNamed "vitrine/vitrinelaw12.RoundUndo" =some 4 by kernel_rfl).symm.trans hf) |>.symm;obtain rfl:fn=Tryz.f4:=(Option.some.inj (Tryz.func4.symm.trans hfn)).symm;refine⟨by kernel_rfl,fun j t ht=> ?_⟩;rw[Tryz.params4]at ht
 match j with
 |0=>cases ht;exact w25
 |1=>cases ht;exact w39
 |2=>cases ht;exact w3
 |_+3=>simp at ht
end Go.Proofs.YtanfjibdgcalfaaGreatDoor.roundUndo
