/- StoreUndo: closed facts of the card: no function starts a goroutine, so no call does (its closure is not computed: this saves memory). -/
import Derived.Test.YtagibnnojbolnaaGreatDoorGl
set_option linter.unusedSimpArgs false
set_option linter.unusedVariables false
namespace Go.Proofs.YtagibnnojbolnaaGreatDoor.storeUndo
open Go.ChangeShapes Go.WideShapes Go.ChangeAt Go.RowKit Go.Lv
set_option maxRecDepth 100000
theorem zLW{P:Program}(h:P.funcs.any Func.goes=false)(f:FuncId):P.goes f=false:=by
 have hg: ∀g:Nat,(P.funcs[g]?).any Func.goes=false:=fun g=>by
  cases hx:P.funcs[g]? with
  |none=>rfl
  |some fn=> obtain⟨hi,rfl⟩:=Lb.1 hx;have:=Array.any_eq_false.1 h g hi;simpa using this
 unfold Program.goes;rw[h,Lc,Ud,List.any_eq_false];intro g _;simp[hg g]
theorem zGr{c:OpenClaim}{P:Program}(hs:c.start= .entering)(h:P.funcs.any Func.goes=false):false=c.goesBy P:=by
 unfold OpenClaim.goesBy Program.goesAt Program.goesFrom;rw[hs];cases P.funcNamed c.func with
 |none=>rfl
 |some f=>simp[zLW h f]
theorem goes:false=Rows.storeUndoUptoRow.goesBy Tryz.pinned.checked.prog:=zGr rfl (by kernel_rfl)
end Go.Proofs.YtagibnnojbolnaaGreatDoor.storeUndo
