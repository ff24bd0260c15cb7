/- GlueNumbers returns true: a number between the two bounds, written and read, is the number; a percentage is a number and a percent sign. Without condition on the input; the package-level tables hold what the program's text lays (the card's tie). -/
import Derived.Test.YtnfhfeipljhciaaGreatDoorFd
namespace Go.Proofs.YtnfhfeipljhciaaGreatDoor.glueNumbers
open Go.ChangeShapes Go.WideShapes Go.ChangeAt Go.RowKit Go.Lv
set_option maxRecDepth 100000
theorem w2 : Tryz.pinned.checked.prog.wantsStandIn 2 = false := by kernel_rfl
theorem w4 : Tryz.pinned.checked.prog.wantsStandIn 4 = false := by kernel_rfl
theorem plain (f : FuncId) (fn : Func) (hf : Tryz.pinned.checked.prog.funcNamed "vitrine/vitrinelaw03.GlueNumbers" = some f) (hfn : Tryz.pinned.checked.prog.funcs[f]? = some fn) :
  true = Tryz.pinned.checked.prog.looks [] ∧ ∀ (j : Nat) t, fn.params[j]? = some t → Tryz.pinned.checked.prog.wantsStandIn t = false := by
 obtain rfl : f = 9 := Option.some.inj ((show Tryz.prog.funcNamed "vitrine/vitrinelaw03.GlueNumbers" = some 9 by kernel_rfl).symm.trans hf) |>.symm
 obtain rfl : fn = Tryz.f9 := (Option.some.inj (Tryz.func9.symm.trans hfn)).symm
 refine ⟨by kernel_rfl, fun j t ht => ?_⟩
 rw [Tryz.params9] at ht
 match j with
 | 0 => cases ht; exact w2
 | 1 => cases ht; exact w4
 | _ + 2 => simp at ht
theorem proved : Rows.GlueNumbersCardSaid :=
 Claim7.holds_tied_plain_at .later [] _ _ _ _ said (fun _ h => by cases h) (by kernel_rfl) (fun _ h => by cases h) glueNumbers_row_tie rfl ⟨rfl, rfl⟩ (by kernel_rfl) rfl plain (by kernel_rfl)
end Go.Proofs.YtnfhfeipljhciaaGreatDoor.glueNumbers
#print axioms Go.Proofs.YtnfhfeipljhciaaGreatDoor.glueNumbers.proved
