/- StoreUndo: closed facts of the card. -/
import Derived.Test.YtagibnnojbolnaaGreatDoorGl
set_option linter.unusedSimpArgs false
set_option linter.unusedVariables false
namespace Go.Proofs.YtagibnnojbolnaaGreatDoor.storeUndo
open Go.ChangeShapes Go.WideShapes Go.ChangeAt Go.RowKit Go.Lv
set_option maxRecDepth 100000
theorem w5:Tryz.pinned.checked.prog.wantsStandIn 5=false:=by kernel_rfl
theorem w9:Tryz.pinned.checked.prog.wantsStandIn 9=false:=by kernel_rfl
theorem w24:Tryz.pinned.checked.prog.wantsStandIn 24=false:=by kernel_rfl
theorem plain(f:FuncId)(fn:Func)(hf:Tryz.pinned.checked.prog.funcNamed "vitrine/vitrinelaw36.StoreUndo" =some f)(hfn:Tryz.pinned.checked.prog.funcs[f]? =some fn):
  true=Tryz.pinned.checked.prog.looks []/\ ∀(j:Nat) t,fn.params[j]? =some t->Tryz.pinned.checked.prog.wantsStandIn t=false:=by
 obtain rfl:f=3:=Option.some.inj ((show Tryz.prog.funcNamed "vitrine/vitrinelaw36.StoreUndo" =some 3 by kernel_rfl).symm.trans hf) |>.symm;obtain rfl:fn=Tryz.f3:=(Option.some.inj (Tryz.func3.symm.trans hfn)).symm;refine⟨by kernel_rfl,fun j t ht=> ?_⟩;rw[Tryz.params3]at ht
 match j with
 |0=>cases ht;exact w24
 |1=>cases ht;exact w5
 |2=>cases ht;exact w9
 |3=>cases ht;exact w9
 |_+4=>simp at ht
end Go.Proofs.YtagibnnojbolnaaGreatDoor.storeUndo
