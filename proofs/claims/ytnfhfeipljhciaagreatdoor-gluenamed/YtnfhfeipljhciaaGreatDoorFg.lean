/- GlueNamed returns true: a name, written and read, is the name; two names are written alike only if they are alike. Without condition on the input; the package-level tables hold what the program's text lays (the card's tie). -/
import Derived.Test.YtnfhfeipljhciaaGreatDoorFd
namespace Go.Proofs.YtnfhfeipljhciaaGreatDoor.glueNamed
open Go.ChangeShapes Go.WideShapes Go.ChangeAt Go.RowKit Go.Lv
set_option maxRecDepth 100000
theorem w2 : Tryz.pinned.checked.prog.wantsStandIn 9 = false := by kernel_rfl
theorem plain (f : FuncId) (fn : Func) (hf : Tryz.pinned.checked.prog.funcNamed "vitrine/vitrinelaw03.GlueNamed" = some f) (hfn : Tryz.pinned.checked.prog.funcs[f]? = some fn) :
  true = Tryz.pinned.checked.prog.looks [] ∧ ∀ (j : Nat) t, fn.params[j]? = some t → Tryz.pinned.checked.prog.wantsStandIn t = false := by
 obtain rfl : f = 10 := Option.some.inj ((show Tryz.prog.funcNamed "vitrine/vitrinelaw03.GlueNamed" = some 10 by kernel_rfl).symm.trans hf) |>.symm
 obtain rfl : fn = Tryz.f10 := (Option.some.inj (Tryz.func10.symm.trans hfn)).symm
 refine ⟨by kernel_rfl, fun j t ht => ?_⟩
 rw [Tryz.params10] at ht
 match j with
 | 0 => cases ht; exact w2
 | 1 => cases ht; exact w2
 | _ + 2 => simp at ht
theorem proved : Rows.GlueNamedCardSaid :=
 Claim7.holds_tied_plain_at .later [] _ _ _ _ said (fun _ h => by cases h) (by kernel_rfl) (fun _ h => by cases h) glueNamed_row_tie rfl ⟨rfl, rfl⟩ (by kernel_rfl) rfl plain (by kernel_rfl)
end Go.Proofs.YtnfhfeipljhciaaGreatDoor.glueNamed
#print axioms Go.Proofs.YtnfhfeipljhciaaGreatDoor.glueNamed.proved
