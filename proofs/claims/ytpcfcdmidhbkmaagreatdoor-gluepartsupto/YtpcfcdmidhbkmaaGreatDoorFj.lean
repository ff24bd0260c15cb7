/- GlueParts: closed facts of the card: no function starts a goroutine, so no call does (its closure is not computed: this saves memory). -/
import Derived.Test.YtpcfcdmidhbkmaaGreatDoorGl
set_option linter.unusedSimpArgs false
set_option linter.unusedVariables false
namespace Go.Proofs.YtpcfcdmidhbkmaaGreatDoor.glueParts
open Go.ChangeShapes Go.WideShapes Go.ChangeAt Go.RowKit Go.Lv
set_option maxRecDepth 100000
theorem vQ{P:Program}(h:P.funcs.any Func.goes=false)(f:FuncId):P.goes f=false:=by
 have hg: ∀g:Nat,(P.funcs[g]?).any Func.goes=false:=fun g=>by
  cases hx:P.funcs[g]? with
  |none=>rfl
  |some fn=> obtain⟨hi,rfl⟩:=Rb.1 hx;have:=Array.any_eq_false.1 h g hi;simpa using this
 unfold Program.goes;rw[h,Df,jf,List.any_eq_false];intro g _;simp[hg g]
theorem UW{c:OpenClaim}{P:Program}(hs:c.start= .entering)(h:P.funcs.any Func.goes=false):false=c.goesBy P:=by
 unfold OpenClaim.goesBy Program.goesAt Program.goesFrom;rw[hs];cases P.funcNamed c.func with
 |none=>rfl
 |some f=>simp[vQ h f]
theorem goes:false=Rows.gluePartsUptoRow.goesBy Tryz.pinned.checked.prog:=UW rfl (by kernel_rfl)
end Go.Proofs.YtpcfcdmidhbkmaaGreatDoor.glueParts
