import Derived.Test.YtiidaccdmolmkaaGreatDoorGl
set_option linter.all false
namespace Go.Proofs.YtiidaccdmolmkaaGreatDoor.roundWrites
open Go.ChangeShapes Go.WideShapes Go.ChangeAt Go.RowKit Go.Lv
set_option maxRecDepth 100000
def zQb{P:Program}(h:P.funcs.any Func.goes=false)(f:FuncId):P.goes f=false:=by
 have a: ∀g:Nat,(P.funcs[g]?).any Func.goes=false:=λg=>by
  cases b:P.funcs[g]? with
  |none=>rfl
  |some fn=> obtain⟨hi,rfl⟩:=Sb.1 b;have:=Array.any_eq_false.1 h g hi;simpa using this
 unfold Program.goes;rw[h,Nc,Dc,List.any_eq_false];intro g _;simp[a g]
def zIW{c:OpenClaim}{P:Program}(hs:c.start= .entering)(h:P.funcs.any Func.goes=false):false=c.goesBy P:=by
 unfold OpenClaim.goesBy Program.goesAt Program.goesFrom;rw[hs];cases P.funcNamed c.func with
 |none=>rfl
 |some f=>simp[zQb h f]
def goes:false=Rows.roundWritesUptoRow.goesBy Tryz.pinned.checked.prog:=zIW rfl (by kernel_rfl)
end Go.Proofs.YtiidaccdmolmkaaGreatDoor.roundWrites
