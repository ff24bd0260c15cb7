/- NestDepth returns true: values are refused exactly if more than 16 openers are open somewhere, and have this depth otherwise. For inputs of bulk at most 1048576; the package-level tables hold what the program's text lays (the card's tie). -/
import Derived.Test.YtcdeccnjlkkejaaGreatDoorFd
set_option linter.unusedSimpArgs false
set_option linter.unusedVariables false
namespace Go.Proofs.YtcdeccnjlkkejaaGreatDoor.nestDepth
open Go.ChangeShapes Go.WideShapes Go.ChangeAt Go.RowKit Go.Lv
set_option maxRecDepth 100000
theorem w22:Tryz.pinned.checked.prog.wantsStandIn 22=false:=by kernel_rfl
theorem plain(f:FuncId)(fn:Func)(hf:Tryz.pinned.checked.prog.funcNamed "vitrine/vitrinelaw04.NestDepth" =some f)(hfn:Tryz.pinned.checked.prog.funcs[f]? =some fn):
  true=Tryz.pinned.checked.prog.looks []/\ ∀(j:Nat) t,fn.params[j]? =some t->Tryz.pinned.checked.prog.wantsStandIn t=false:=by
 obtain rfl:f=4:=Option.some.inj ((show Tryz.prog.funcNamed "vitrine/vitrinelaw04.NestDepth" =some 4 by kernel_rfl).symm.trans hf) |>.symm;obtain rfl:fn=Tryz.f4:=(Option.some.inj (Tryz.func4.symm.trans hfn)).symm;refine⟨by kernel_rfl,fun j t ht=> ?_⟩;rw[Tryz.params4]at ht
 match j with
 |0=>cases ht;exact w22
 |_+1=>simp at ht
theorem proved:Rows.NestDepthUptoCardSaid:=
 Claim7.holds_tied_plain_at .later [] _ _ _ _ said (fun _ h=>by cases h) (by kernel_rfl) (fun _ h=>by cases h) nestDepthUpto_row_tie rfl ⟨rfl,rfl⟩ (by kernel_rfl) rfl plain (by kernel_rfl)
end Go.Proofs.YtcdeccnjlkkejaaGreatDoor.nestDepth
#print axioms Go.Proofs.YtcdeccnjlkkejaaGreatDoor.nestDepth.proved
