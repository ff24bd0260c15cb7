/- DeclWrites: closed facts of the card. -/
import Derived.Test.YtcdeccnjlkkejaaGreatDoorGl
set_option linter.unusedSimpArgs false
set_option linter.unusedVariables false
namespace Go.Proofs.YtcdeccnjlkkejaaGreatDoor.declWrites
open Go.ChangeShapes Go.WideShapes Go.ChangeAt Go.RowKit Go.Lv
set_option maxRecDepth 100000
theorem w66:Tryz.pinned.checked.prog.wantsStandIn 66=false:=by kernel_rfl
theorem w71:Tryz.pinned.checked.prog.wantsStandIn 71=false:=by kernel_rfl
theorem plain(f:FuncId)(fn:Func)(hf:Tryz.pinned.checked.prog.funcNamed "vitrine/vitrinelaw05.DeclWrites" =some f)(hfn:Tryz.pinned.checked.prog.funcs[f]? =some fn):
  true=Tryz.pinned.checked.prog.looks []/\ ∀(j:Nat) t,fn.params[j]? =some t->Tryz.pinned.checked.prog.wantsStandIn t=false:=by
 obtain rfl:f=10:=Option.some.inj ((show Tryz.prog.funcNamed "vitrine/vitrinelaw05.DeclWrites" =some 10 by kernel_rfl).symm.trans hf) |>.symm;obtain rfl:fn=Tryz.f10:=(Option.some.inj (Tryz.func10.symm.trans hfn)).symm;refine⟨by kernel_rfl,fun j t ht=> ?_⟩;rw[Tryz.params10]at ht
 match j with
 |0=>cases ht;exact w66
 |1=>cases ht;exact w71
 |_+2=>simp at ht
end Go.Proofs.YtcdeccnjlkkejaaGreatDoor.declWrites
